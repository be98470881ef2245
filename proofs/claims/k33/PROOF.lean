import PyProof.Rows.All
import Wide.All
import OpenK.AllK
import Wide.FinOn
import HandS.ForMost
import HandS.IsInst
import HandS.Flow
import HandS.TryMany
import HandS.CallSlots
import HandS.TupAny
import HandS.TupMul
import HandS.SortInts
import HandS.Wide
import HandS.Walk
import HandS.Style
import HandS.Gcd
import PyProof.ListMulRoad
import PyProof.FactsAll.tuple_2
import KE.DataEq
import KE.SortData
import KE.DataMinMax
import PyProof.P3Eq
import HandS.Conv
import HandS.Defaults
import HandS.SetFor
import KE.GoesNew
import KE.GoesMore
import HandS.NoneIn
import HandS.Small
import HandS.ExcOwn
import HandS.HeadHook1
import PyProof.ExcBaseAll.ValueError
import HandS.Head0
import HandS.Head1
import HandS.Head2
import HandS.HeadEnd
import HandS.HeadHook2
import HandS.HeadHook4
import KE.KStateDown
import Lean
import HandS.Exc
import HandS.Head3
import PySem.Challenge.RW_thetarows_k33_main_edges_of_levels
set_option Elab.async false
set_option linter.all false
set_option maxRecDepth 100000
set_option autoImplicit false
/-! Ev, part A: values by content, the store, how they lie in the abstract heap. -/
namespace Ev
open PySem PySem.Spec PyProof.Rows L2

/-- a value by content: a tuple is its items; lst: a list that nobody changes; fl: a list that is known to the object (the script); ref: a changing thing, its place in the store -/
inductive D where
  | non | bl (b : Bool) | int (i : Int) | str (s : Str) | tup (l : List D) | lst (l : List D) | fl (l : List D) | ref (i : Nat)

/-- a changing thing -/
inductive O where
  | lst (l : List D)
  | dk (kvs : List (Key × D))
  | dt (kvs : List (List Key × D))

/-- the places of the store's things; hid: lists that are being built, which nothing names -/
structure Ms where
  vis : List Addr
  hid : List Addr
abbrev Ms.No (m : Ms) (a : Addr) : Prop := a ∉ m.vis ∧ a ∉ m.hid
abbrev Ms.push (m : Ms) (p : Addr) : Ms := ⟨m.vis ++ [p], m.hid⟩

abbrev Store := List O
abbrev Env := List (Option D)

/-- a list that nobody writes: tracked, known to the object, or the module's -/
def FL (K : PySem.W.Frag) (m : Ms) (H : Hp) (a : Addr) (xs : List V) : Prop :=
  (Rd H a (.lst xs) ∧ m.No a) ∨
    ∃ (o : Obj) (its : Array Value) (n : Nat), K.lookup a = some o ∧ o.cls = .type "list" ∧ o.dict = none ∧ o.data = .seq its n ∧ its.size ≤ sizeLine ∧ Vals xs its.toList
theorem FL.sq {K : PySem.W.Frag} {m : Ms} {H : Hp} {a : Addr} {xs : List V} (h : FL K m H a xs) : SqL K H a xs := by
  rcases h with ⟨h, _⟩ | h
  · exact .inl h
  · exact .inr h
mutual
/-- d lies at v -/
def RD (K : PySem.W.Frag) (m : Ms) (H : Hp) : D → V → Prop
  | .non, v => v = .non
  | .bl b, v => v = .bl b
  | .int i, v => v = .int i
  | .str s, v => v = .str s
  | .tup l, v => ∃ a vs, v = .ref a ∧ SqT K H a vs ∧ RDs K m H l vs
  | .lst l, v => ∃ a vs, v = .ref a ∧ H a = some (.lst vs) ∧ m.No a ∧ RDs K m H l vs
  | .fl l, v => ∃ a vs, v = .ref a ∧ FL K m H a vs ∧ RDs K m H l vs
  | .ref i, v => ∃ a, m.vis[i]? = some a ∧ v = .ref a
def RDs (K : PySem.W.Frag) (m : Ms) (H : Hp) : List D → List V → Prop
  | [], vs => vs = []
  | d :: ds, vs => ∃ v r, vs = v :: r ∧ RD K m H d v ∧ RDs K m H ds r
end

/-- values by keys -/
def RKV {κ : Type} (K : PySem.W.Frag) (m : Ms) (H : Hp) : List (κ × D) → List (κ × V) → Prop
  | [], vs => vs = []
  | p :: ps, vs => ∃ v r, vs = (p.1, v) :: r ∧ RD K m H p.2 v ∧ RKV K m H ps r

def RO (K : PySem.W.Frag) (m : Ms) (H : Hp) (a : Addr) : O → Prop
  | .lst l => ∃ vs, H a = some (.lst vs) ∧ RDs K m H l vs
  | .dk kvs => ∃ vs, H a = some (.dK vs) ∧ RKV K m H kvs vs
  | .dt kvs => ∃ vs, H a = some (.dT vs) ∧ RKV K m H kvs vs

structure RS (K : PySem.W.Frag) (m : Ms) (H : Hp) (st : Store) : Prop where
  len : st.length = m.vis.length
  nd : m.vis.Nodup
  at_ : ∀ (i : Nat) (o : O) (a : Addr), st[i]? = some o → m.vis[i]? = some a → RO K m H a o
  hd : ∀ a ∈ m.hid, a ∉ m.vis ∧ ∃ vs, H a = some (.lst vs)

structure RE (K : PySem.W.Frag) (m : Ms) (H : Hp) (env : Env) (σ : L2.St) : Prop where
  len : env.length = σ.length
  at_ : ∀ (i : Nat) (d : D), env[i]? = some (some d) → ∃ v, σ[i]? = some (some v) ∧ RD K m H d v

/-- later: the store has grown, what is not of the store stands -/
structure Lat (m : Ms) (H : Hp) (m' : Ms) (H' : Hp) : Prop where
  pre : ∃ t, m'.vis = m.vis ++ t
  hid : m'.hid = m.hid
  new : ∀ a, a ∈ m'.vis → a ∉ m.vis → H a = none
  keep : ∀ a o, H a = some o → a ∉ m.vis → H' a = some o
/-- later, what is hidden may have changed -/
structure LatZ (m : Ms) (H : Hp) (m' : Ms) (H' : Hp) : Prop where
  pre : ∃ t, m'.vis = m.vis ++ t
  hid : ∀ a ∈ m'.hid, a ∈ m.hid ∨ H a = none
  new : ∀ a, a ∈ m'.vis → a ∉ m.vis → H a = none
  keep : ∀ a o, H a = some o → m.No a → H' a = some o
theorem Lat.z {m m' : Ms} {H H' : Hp} (L : Lat m H m' H') : LatZ m H m' H' := ⟨L.pre, fun a h => .inl (L.hid ▸ h), L.new, fun a o e n => L.keep a o e n.1⟩

/-- what is of the store is tracked -/
theorem RS.trackedV {K : PySem.W.Frag} {m : Ms} {H : Hp} {st : Store} (r : RS K m H st) {a : Addr} (h : a ∈ m.vis) : ∃ o, H a = some o ∧ (∀ xs, o ≠ .tup xs) ∧ (∀ x y, o ≠ .frz x y) := by
  obtain ⟨i, hi, e⟩ := List.getElem_of_mem h
  have e1 : m.vis[i]? = some a := by rw [List.getElem?_eq_getElem hi, e]
  have hs : i < st.length := by rw [r.len]; exact hi
  have q := r.at_ i _ a (List.getElem?_eq_getElem hs) e1
  generalize st[i] = o at q
  cases o with
  | lst l =>
    obtain ⟨vs, q, _⟩ := q
    exact ⟨_, q, (fun xs z => by cases z), (fun x y z => by cases z)⟩
  | dk l =>
    obtain ⟨vs, q, _⟩ := q
    exact ⟨_, q, (fun xs z => by cases z), (fun x y z => by cases z)⟩
  | dt l =>
    obtain ⟨vs, q, _⟩ := q
    exact ⟨_, q, (fun xs z => by cases z), (fun x y z => by cases z)⟩
theorem RS.tracked {K : PySem.W.Frag} {m : Ms} {H : Hp} {st : Store} (r : RS K m H st) {a : Addr} (h : a ∈ m.vis ∨ a ∈ m.hid) : ∃ o, H a = some o ∧ (∀ xs, o ≠ .tup xs) ∧ (∀ x y, o ≠ .frz x y) := by
  rcases h with h | h
  · exact r.trackedV h
  · obtain ⟨_, vs, e⟩ := r.hd a h
    exact ⟨_, e, (fun xs z => by cases z), (fun x y z => by cases z)⟩
theorem RS.no {K : PySem.W.Frag} {m : Ms} {H : Hp} {st : Store} (r : RS K m H st) {a : Addr} (h : H a = none) : m.No a :=
  ⟨fun q => (by obtain ⟨o, e, _⟩ := r.tracked (.inl q); rw [h] at e; cases e), fun q => (by obtain ⟨o, e, _⟩ := r.tracked (.inr q); rw [h] at e; cases e)⟩

theorem LatZ.get {m m' : Ms} {H H' : Hp} (L : LatZ m H m' H') {i : Nat} {a : Addr} (h : m.vis[i]? = some a) : m'.vis[i]? = some a := by
  obtain ⟨t, e⟩ := L.pre
  rw [e, List.getElem?_append_left (List.getElem?_eq_some_iff.mp h).1]
  exact h
theorem Lat.get {m m' : Ms} {H H' : Hp} (L : Lat m H m' H') {i : Nat} {a : Addr} (h : m.vis[i]? = some a) : m'.vis[i]? = some a := L.z.get h
theorem Lat.refl {m : Ms} {H : Hp} : Lat m H m H := ⟨⟨[], (List.append_nil _).symm⟩, rfl, fun _ h n => absurd h n, fun _ _ h _ => h⟩
theorem Lat.notinV {m m' : Ms} {H H' : Hp} (L : Lat m H m' H') {a : Addr} {o : HO} (h : a ∉ m.vis) (e : H a = some o) : a ∉ m'.vis := fun q => by
  rw [L.new a q h] at e
  cases e
theorem LatZ.notin {m m' : Ms} {H H' : Hp} (L : LatZ m H m' H') {a : Addr} {o : HO} (h : m.No a) (e : H a = some o) : m'.No a := by
  refine ⟨fun q => ?_, fun q => ?_⟩
  · rw [L.new a q h.1] at e
    cases e
  · rcases L.hid a q with k | k
    · exact h.2 k
    · rw [k] at e
      cases e
theorem Lat.trans {m m' m'' : Ms} {H H' H'' : Hp} (L : Lat m H m' H') (L' : Lat m' H' m'' H'') : Lat m H m'' H'' := by
  refine ⟨?_, L'.hid.trans L.hid, fun a h n => ?_, fun a o e n => L'.keep a o (L.keep a o e n) (L.notinV n e)⟩
  · obtain ⟨t, e⟩ := L.pre
    obtain ⟨t', e'⟩ := L'.pre
    exact ⟨t ++ t', by rw [e', e, List.append_assoc]⟩
  · by_cases q : a ∈ m'.vis
    · exact L.new a q n
    · cases e : H a with
      | none => rfl
      | some o =>
        have e2 := L.keep a o e n
        rw [L'.new a h q] at e2
        cases e2

theorem LatZ.refl {m : Ms} {H : Hp} : LatZ m H m H := Lat.refl.z

section
variable {K : PySem.W.Frag} {m m' : Ms} {H H' : Hp} {st : Store}
theorem SqT.latz (L : LatZ m H m' H') (r : RS K m H st) {a : Addr} {vs : List V} (h : SqT K H a vs) : SqT K H' a vs := by
  have no : ∀ o, H a = some o → ((∃ xs, o = .tup xs) ∨ ∃ x y, o = .frz x y) → m.No a := fun o e k => by
    refine ⟨fun q => ?_, fun q => ?_⟩
    · obtain ⟨o', e', n1, n2⟩ := r.tracked (.inl q)
      rw [e] at e'
      cases e'
      rcases k with ⟨xs, k⟩ | ⟨x, y, k⟩
      · exact n1 _ k
      · exact n2 _ _ k
    · obtain ⟨o', e', n1, n2⟩ := r.tracked (.inr q)
      rw [e] at e'
      cases e'
      rcases k with ⟨xs, k⟩ | ⟨x, y, k⟩
      · exact n1 _ k
      · exact n2 _ _ k
  rcases h with (h | ⟨o, h⟩) | h
  · exact .inl (.inl (L.keep a _ h (no _ h (.inl ⟨_, rfl⟩))))
  · exact .inl (.inr ⟨o, L.keep a _ h (no _ h (.inr ⟨_, _, rfl⟩))⟩)
  · exact .inr h
theorem FL.latz (L : LatZ m H m' H') {a : Addr} {vs : List V} (h : FL K m H a vs) : FL K m' H' a vs := by
  rcases h with ⟨h | ⟨o, h⟩, n⟩ | h
  · exact .inl ⟨.inl (L.keep a _ h n), L.notin n h⟩
  · exact .inl ⟨.inr ⟨o, L.keep a _ h n⟩, L.notin n h⟩
  · exact .inr h
mutual
theorem RD.latz (L : LatZ m H m' H') (r : RS K m H st) : ∀ (d : D) (v : V), RD K m H d v → RD K m' H' d v
  | .non, v, h => by simpa only [RD] using h
  | .bl b, v, h => by simpa only [RD] using h
  | .int i, v, h => by simpa only [RD] using h
  | .str s, v, h => by simpa only [RD] using h
  | .tup l, v, h => by
    simp only [RD] at h ⊢
    obtain ⟨a, vs, e, q, h⟩ := h
    exact ⟨a, vs, e, SqT.latz L r q, RDs.latz L r l vs h⟩
  | .lst l, v, h => by
    simp only [RD] at h ⊢
    obtain ⟨a, vs, e, q, n, h⟩ := h
    exact ⟨a, vs, e, L.keep a _ q n, L.notin n q, RDs.latz L r l vs h⟩
  | .fl l, v, h => by
    simp only [RD] at h ⊢
    obtain ⟨a, vs, e, q, h⟩ := h
    exact ⟨a, vs, e, FL.latz L q, RDs.latz L r l vs h⟩
  | .ref i, v, h => by
    simp only [RD] at h ⊢
    obtain ⟨a, e, q⟩ := h
    exact ⟨a, L.get e, q⟩
theorem RDs.latz (L : LatZ m H m' H') (r : RS K m H st) : ∀ (ds : List D) (vs : List V), RDs K m H ds vs → RDs K m' H' ds vs
  | [], vs, h => by simpa only [RDs] using h
  | d :: ds, vs, h => by
    simp only [RDs] at h ⊢
    obtain ⟨v, rr, e, q, h⟩ := h
    exact ⟨v, rr, e, RD.latz L r d v q, RDs.latz L r ds rr h⟩
end
theorem RKV.latz {κ : Type} (L : LatZ m H m' H') (r : RS K m H st) : ∀ (ds : List (κ × D)) (vs : List (κ × V)), RKV K m H ds vs → RKV K m' H' ds vs
  | [], vs, h => h
  | p :: ds, vs, h => by
    obtain ⟨v, rr, e, q, h⟩ := h
    exact ⟨v, rr, e, RD.latz L r _ v q, RKV.latz L r ds rr h⟩
theorem RE.latz {env : Env} {σ : L2.St} (L : LatZ m H m' H') (r : RS K m H st) (h : RE K m H env σ) : RE K m' H' env σ :=
  ⟨h.len, fun i d e => let ⟨v, q, x⟩ := h.at_ i d e; ⟨v, q, RD.latz L r d v x⟩⟩
theorem SqT.lat (L : Lat m H m' H') (r : RS K m H st) {a : Addr} {vs : List V} (h : SqT K H a vs) : SqT K H' a vs := SqT.latz L.z r h
theorem FL.lat (L : Lat m H m' H') {a : Addr} {vs : List V} (h : FL K m H a vs) : FL K m' H' a vs := FL.latz L.z h
theorem RD.lat (L : Lat m H m' H') (r : RS K m H st) : ∀ (d : D) (v : V), RD K m H d v → RD K m' H' d v := RD.latz L.z r
theorem RDs.lat (L : Lat m H m' H') (r : RS K m H st) : ∀ (ds : List D) (vs : List V), RDs K m H ds vs → RDs K m' H' ds vs := RDs.latz L.z r
theorem RKV.lat {κ : Type} (L : Lat m H m' H') (r : RS K m H st) : ∀ (ds : List (κ × D)) (vs : List (κ × V)), RKV K m H ds vs → RKV K m' H' ds vs := RKV.latz L.z r
theorem RE.lat {env : Env} {σ : L2.St} (L : Lat m H m' H') (r : RS K m H st) (h : RE K m H env σ) : RE K m' H' env σ := RE.latz L.z r h

/-! ### lists of values -/
theorem RDs.length : ∀ {ds : List D} {vs : List V}, RDs K m H ds vs → ds.length = vs.length
  | [], vs, h => by
    simp only [RDs] at h
    subst h
    rfl
  | d :: ds, vs, h => by
    simp only [RDs] at h
    obtain ⟨v, r, e, _, h⟩ := h
    rw [e, List.length_cons, List.length_cons, RDs.length h]
theorem RDs.nil : RDs K m H [] [] := by simp only [RDs]
theorem RDs.cons {d : D} {ds : List D} {v : V} {vs : List V} (h : RD K m H d v) (r : RDs K m H ds vs) : RDs K m H (d :: ds) (v :: vs) := by
  simp only [RDs]
  exact ⟨v, vs, rfl, h, r⟩
theorem RDs.get : ∀ {ds : List D} {vs : List V} {i : Nat} {d : D}, RDs K m H ds vs → ds[i]? = some d → ∃ v, vs[i]? = some v ∧ RD K m H d v
  | [], _, _, _, _, e => by simp at e
  | d :: ds, vs, 0, x, h, e => by
    simp only [RDs] at h
    obtain ⟨v, r, e', q, _⟩ := h
    simp at e
    subst e e'
    exact ⟨v, rfl, q⟩
  | d :: ds, vs, i + 1, x, h, e => by
    simp only [RDs] at h
    obtain ⟨v, r, e', _, h⟩ := h
    subst e'
    simpa using RDs.get (i := i) h (by simpa using e)
theorem RDs.append : ∀ {ds es : List D} {vs us : List V}, RDs K m H ds vs → RDs K m H es us → RDs K m H (ds ++ es) (vs ++ us)
  | [], es, vs, us, h, q => by
    simp only [RDs] at h
    subst h
    exact q
  | d :: ds, es, vs, us, h, q => by
    simp only [RDs] at h
    obtain ⟨v, r, e, x, h⟩ := h
    subst e
    exact RDs.cons x (RDs.append h q)
theorem RDs.take : ∀ {ds : List D} {vs : List V} (n : Nat), RDs K m H ds vs → RDs K m H (ds.take n) (vs.take n)
  | _, _, 0, _ => by simpa using RDs.nil
  | [], vs, n + 1, h => by
    simp only [RDs] at h
    subst h
    exact RDs.nil
  | d :: ds, vs, n + 1, h => by
    simp only [RDs] at h
    obtain ⟨v, r, e, x, h⟩ := h
    subst e
    exact RDs.cons x (RDs.take n h)
theorem RDs.drop : ∀ {ds : List D} {vs : List V} (n : Nat), RDs K m H ds vs → RDs K m H (ds.drop n) (vs.drop n)
  | _, _, 0, h => by simpa using h
  | [], vs, n + 1, h => by
    simp only [RDs] at h
    subst h
    exact RDs.nil
  | d :: ds, vs, n + 1, h => by
    simp only [RDs] at h
    obtain ⟨v, r, e, x, h⟩ := h
    subst e
    exact RDs.drop n h
theorem RDs.set {d : D} {v : V} (x : RD K m H d v) : ∀ {ds : List D} {vs : List V} (i : Nat), RDs K m H ds vs → RDs K m H (ds.set i d) (vs.set i v)
  | [], vs, i, h => by
    simp only [RDs] at h
    subst h
    exact RDs.nil
  | d' :: ds, vs, 0, h => by
    simp only [RDs] at h
    obtain ⟨v, r, e, _, h⟩ := h
    subst e
    exact RDs.cons x h
  | d' :: ds, vs, i + 1, h => by
    simp only [RDs] at h
    obtain ⟨v, r, e, y, h⟩ := h
    subst e
    exact RDs.cons y (RDs.set x i h)
theorem RDs.eraseIdx : ∀ {ds : List D} {vs : List V} (i : Nat), RDs K m H ds vs → RDs K m H (ds.eraseIdx i) (vs.eraseIdx i)
  | [], vs, i, h => by
    simp only [RDs] at h
    subst h
    exact RDs.nil
  | d' :: ds, vs, 0, h => by
    simp only [RDs] at h
    obtain ⟨v, r, e, _, h⟩ := h
    subst e
    exact h
  | d' :: ds, vs, i + 1, h => by
    simp only [RDs] at h
    obtain ⟨v, r, e, y, h⟩ := h
    subst e
    exact RDs.cons y (RDs.eraseIdx i h)
theorem RDs.rep {ds : List D} {vs : List V} (h : RDs K m H ds vs) : ∀ n : Nat, RDs K m H (List.replicate n ds).flatten (List.replicate n vs).flatten
  | 0 => by simpa using RDs.nil
  | n + 1 => by
    rw [List.replicate_succ, List.replicate_succ, List.flatten_cons, List.flatten_cons]
    exact RDs.append h (RDs.rep h n)
/-- ints alone -/
theorem RDs.ints : ∀ {ns : List Int} {vs : List V}, RDs K m H (ns.map D.int) vs → vs = ns.map V.int
  | [], vs, h => by simpa only [RDs, List.map_nil] using h
  | n :: ns, vs, h => by
    simp only [List.map_cons, RDs] at h
    obtain ⟨v, r, e, x, h⟩ := h
    simp only [RD] at x
    rw [e, x, RDs.ints h]
    rfl
theorem RDs.ofInts : ∀ (ns : List Int), RDs K m H (ns.map D.int) (ns.map V.int)
  | [] => RDs.nil
  | n :: ns => RDs.cons (by simp only [RD]) (RDs.ofInts ns)
theorem RDs.bls : ∀ {ns : List Bool} {vs : List V}, RDs K m H (ns.map D.bl) vs → vs = ns.map V.bl
  | [], vs, h => by simpa only [RDs, List.map_nil] using h
  | n :: ns, vs, h => by
    simp only [List.map_cons, RDs] at h
    obtain ⟨v, r, e, x, h⟩ := h
    simp only [RD] at x
    rw [e, x, RDs.bls h]
    rfl
end
end Ev

set_option Elab.async false
set_option linter.all false
set_option maxRecDepth 100000
set_option autoImplicit false
/-! Ev, part B: the intermediate form and what it computes. -/
namespace Ev
open PySem PySem.Spec PyProof.Rows L2

inductive BO where | add | sub | mul | fdiv | mod | pow
  deriving DecidableEq
inductive CO where | eq | ne | lt | le | gt | ge | is | isnot | in_ | notin
  deriving DecidableEq
inductive BI where | len | abs | int | max | min | sum | all | any | sorted | tuple | list | str | gcd
  deriving DecidableEq
inductive MT where | append | extend | pop | index | count
  deriving DecidableEq
inductive Ty where | int | bool | str | tuple | list
  deriving DecidableEq

/-- expressions: v i: the name in slot i; gl i: the i-th of the module's constants; lst: a new list that nobody changes; own e: e's new list, to be changed; as an iterable: rng, enum, zip; as a target: v, tup, ix -/
inductive IE where
  | non | bl (b : Bool) | int (i : Int) | str (s : Str) | v (i : Nat) | gl (i : Nat)
  | tup (es : List IE) | lst (es : List IE) | own (e : IE)
  | bin (o : BO) (a b : IE) | neg (a : IE)
  | nt (a : IE) | and (es : List IE) | or (es : List IE)
  | cmp (o : CO) (a b : IE) | chain (o p : CO) (a b c : IE)
  | ife (c a b : IE) | ix (a i : IE) | sl (a : IE) (lo hi : List IE) | slS (a : IE) (lo hi : List IE) (k : IE)
  | call (f : Nat) (es : List IE)
  | bi (b : BI) (es : List IE)
  | me (m : MT) (r : IE) (es : List IE)
  | isi (e : IE) (ts : List Ty)
  | lc (elt : IE) (own : List Nat) (tg it : IE) (ifs : List IE)
  | lc2 (elt : IE) (own own1 : List Nat) (tg it : IE) (ifs : List IE) (tg1 it1 : IE) (ifs1 : List IE)
  | rng (es : List IE) | enum (e : IE) | zip (a b : IE) | walk (e : IE) | ezip (a b : IE) | lset (e : IE) | lrng1 (a : IE) | lrng2 (a b : IE) | kcall (f : Nat) (p : List Nat) (es : List IE) | dget (e a b : IE) | dnew | dat (d k : IE) | din (neg : Bool) (k d : IE) | dg2 (d k x : IE)

/-- statements: setLc: name = [..] kept on one line; par: names = values side by side -/
inductive IS where
  | asg (t e : IE) | setLc (i : Nat) (e : IE) | par (is : List Nat) (es : List IE)
  | aug (i : Nat) (o : BO) (e : IE) | augS (a i : IE) (o : BO) (e : IE)
  | ex (e : IE) | ret (e : IE) | retN
  | ife (c : IE) (a b : List IS) | while (c : IE) (b : List IS) | for (t it : IE) (b : List IS)
  | raise (c : Nat) | tr (b : List IS) (hs : List (Nat × Nat × IE))
  | brk | cont | pass

inductive R (α : Type) where
  | ok (a : α) (st : Store)
  | exc (c : Nat) (st : Store)
  | stuck
def R.bind {α β : Type} (r : R α) (k : α → Store → R β) : R β := match r with
  | .ok a st => k a st
  | .exc c st => .exc c st
  | .stuck => .stuck
def R.ofO {α β : Type} (o : Option α) (k : α → R β) : R β := match o with
  | some a => k a
  | none => .stuck
inductive RSt where
  | next (env : Env) (st : Store) | ret (d : D) (st : Store) | brk (env : Env) (st : Store) | cont (env : Env) (st : Store)
  | exc (c : Nat) (env : Env) (st : Store) | stuck

structure Cfg where
  call : Nat → List D → Store → R D
  glob : List D
  fuel : Nat
  nx : Nat

/-! ### values -/
mutual
def D.beq : D → D → Bool
  | .non, .non => true
  | .bl a, .bl b => a == b
  | .int a, .int b => a == b
  | .str a, .str b => a == b
  | .tup a, .tup b => D.beqs a b
  | .lst a, .lst b => D.beqs a b
  | .fl a, .fl b => D.beqs a b
  | .ref a, .ref b => a == b
  | _, _ => false
def D.beqs : List D → List D → Bool
  | [], [] => true
  | a :: as, b :: bs => D.beq a b && D.beqs as bs
  | _, _ => false
end
mutual
theorem D.beq_eq : ∀ (a b : D), D.beq a b = true → a = b
  | .non, b, h => by cases b <;> simp_all [D.beq]
  | .bl _, b, h => by cases b <;> simp_all [D.beq]
  | .int _, b, h => by cases b <;> simp_all [D.beq]
  | .str _, b, h => by cases b <;> simp_all [D.beq]
  | .ref _, b, h => by cases b <;> simp_all [D.beq]
  | .tup as, b, h => by
    cases b <;> simp only [D.beq, Bool.false_eq_true] at h
    rw [D.beqs_eq _ _ h]
  | .lst as, b, h => by
    cases b <;> simp only [D.beq, Bool.false_eq_true] at h
    rw [D.beqs_eq _ _ h]
  | .fl as, b, h => by
    cases b <;> simp only [D.beq, Bool.false_eq_true] at h
    rw [D.beqs_eq _ _ h]
theorem D.beqs_eq : ∀ (a b : List D), D.beqs a b = true → a = b
  | [], [], _ => rfl
  | [], _ :: _, h => by simp [D.beqs] at h
  | _ :: _, [], h => by simp [D.beqs] at h
  | a :: as, b :: bs, h => by
    simp only [D.beqs, Bool.and_eq_true] at h
    rw [D.beq_eq a b h.1, D.beqs_eq as bs h.2]
end
mutual
@[simp] theorem D.beq_refl : ∀ a : D, D.beq a a = true
  | .non => by simp [D.beq]
  | .bl _ => by simp [D.beq]
  | .int _ => by simp [D.beq]
  | .str _ => by simp [D.beq]
  | .ref _ => by simp [D.beq]
  | .tup as => by simp only [D.beq]; exact D.beqs_refl as
  | .lst as => by simp only [D.beq]; exact D.beqs_refl as
  | .fl as => by simp only [D.beq]; exact D.beqs_refl as
@[simp] theorem D.beqs_refl : ∀ a : List D, D.beqs a a = true
  | [] => by simp [D.beqs]
  | a :: as => by simp only [D.beqs, Bool.and_eq_true]; exact ⟨D.beq_refl a, D.beqs_refl as⟩
end

/-- a list's items, as it stands -/
def items (st : Store) : D → Option (List D)
  | .tup l => some l
  | .lst l => some l
  | .fl l => some l
  | .ref i => match st[i]? with
    | some (.lst l) => some l
    | _ => none
  | _ => none
/-- a thing in the store as its content, the outermost alone -/
def flat1 (st : Store) : D → D
  | .ref i => match st[i]? with
    | some (.lst l) => .lst l
    | _ => .ref i
  | d => d
mutual
/-- as data for == ; depth bound n -/
def pd : Nat → D → Option PyData
  | _, .non => some .none
  | _, .bl b => some (.bool b)
  | _, .int i => some (.int i)
  | _, .str s => if s.cps.size ≤ 1000000 ∧ PyData.canLay0 (.str s) = true then some (.str s) else none
  | 0, _ => none
  | n + 1, .tup l => (pds n l).map .tuple
  | n + 1, .lst l => (pds n l).map .list
  | n + 1, .fl l => (pds n l).map .list
  | _ + 1, .ref _ => none
def pds : Nat → List D → Option (List PyData)
  | _, [] => some []
  | n, d :: ds => match pd n d, pds n ds with
    | some p, some ps => some (p :: ps)
    | _, _ => none
end
def deq (st : Store) (a b : D) : Option Bool := match pd 60 (flat1 st a), pd 60 (flat1 st b) with
  | some p, some q => some (PyData.eqv p q)
  | _, _ => none

def small (i : Int) : Bool := decide (-(2 ^ 64) < i) && decide (i < 2 ^ 64)
def binI (o : BO) (i j : Int) : Option Int := match o with
  | .add => some (i + j)
  | .sub => some (i - j)
  | .mul => if small i || small j || decide (i.natAbs.log2 + j.natAbs.log2 < 1000000) then some (i * j) else none
  | .fdiv => if 0 < j then (if j.natAbs.log2 < 9000 then some (i / j) else none) else if j < 0 ∧ j.natAbs < 1073741824 then some (i.fdiv j) else none
  | .mod => if 0 < j then some (i % j) else if j < 0 then some (i.fmod j) else none
  | .pow => if 0 ≤ j ∧ j ≤ 1000000 ∧ i.natAbs < 2 ^ 64 then some (i ^ j.toNat) else none
def line : Nat := 16777216
/-- two items or more, so many times, as a new list -/
def rep (l : List D) (k : Int) : List D := (List.replicate k.toNat l).flatten
/-- a list that may be read as a whole: made here -/
def madeItems (st : Store) : D → Option (List D)
  | .lst l => some l
  | .ref i => match st[i]? with
    | some (.lst l) => some l
    | _ => none
  | _ => none
def binT (o : BO) (l : List D) (k : Int) : Option (List D) := match o with
  | .mul => if -(2 ^ 40) ≤ k ∧ k ≤ 2 ^ 40 ∧ l.length * k.toNat ≤ 1000000 then some (rep l k) else none
  | _ => none
def binL (o : BO) (l : List D) (k : Int) : Option (List D) := match o with
  | .mul => if -(2 ^ 40) ≤ k ∧ k ≤ 2 ^ 40 ∧ l.length * k.toNat ≤ line then some (rep l k) else none
  | _ => none
def cat (o : BO) (l r : List D) : Option (List D) := match o with
  | .add => if l.length + r.length ≤ line then some (l ++ r) else none
  | _ => none
def catS (o : BO) (x y : Str) : Option Str := match o with
  | .add => if x.length + y.length ≤ line then some (x ++ y) else none
  | _ => none
def binInt (o : BO) (i : Int) (b : D) (st : Store) : R D := match b with
  | .int j => .ofO (binI o i j) fun k => .ok (.int k) st
  | _ => .stuck
def binTup (o : BO) (l : List D) (b : D) (st : Store) : R D := match b with
  | .tup r => .ofO (cat o l r) fun x => .ok (.tup x) st
  | .int k => .ofO (binT o l k) fun x => .ok (.tup x) st
  | _ => .stuck
def binStr (o : BO) (x : Str) (b : D) (st : Store) : R D := match b with
  | .str y => .ofO (catS o x y) fun z => .ok (.str z) st
  | _ => .stuck
def binLst (o : BO) (l : List D) (b : D) (st : Store) : R D := match b with
  | .int k => .ofO (binL o l k) fun x => .ok (.lst x) st
  | b => .ofO (madeItems st b) fun r => .ofO (cat o l r) fun z => .ok (.lst z) st
def binD (o : BO) (a b : D) (st : Store) : R D := match a with
  | .int i => binInt o i b st
  | .tup l => binTup o l b st
  | .str x => binStr o x b st
  | a => .ofO (madeItems st a) fun l => binLst o l b st
/-- o= : whole numbers -/
def augD (o : BO) (a b : D) (st : Store) : R D := match a, b with
  | .int i, .int j => (match o with
    | .add => .ok (.int (i + j)) st
    | .sub => .ok (.int (i - j)) st
    | _ => .stuck)
  | _, _ => .stuck
def flatB : D → Bool
  | .non | .bl _ | .int _ | .str _ => true
  | _ => false
/-- a flat thing, as the rules have it -/
def vD : D → V
  | .bl b => .bl b
  | .int i => .int i
  | .str s => .str s
  | _ => .non
/-- as data -/
def inDat (st : Store) (a b : D) : Option Bool := match pd 60 (flat1 st a), pd 60 (flat1 st b) with
  | some p, some (.tuple ps) => some (ps.any fun y => PyData.eqv y p)
  | some p, some (.list ps) => some (ps.any fun y => PyData.eqv y p)
  | _, _ => none
def inD (st : Store) (a b : D) : Option Bool := match items st b with
  | some l => if flatB a && (flatV (vD a) && (l.all flatB && (l.map vD).all flatV)) then some (inV (vD a) (l.map vD)) else inDat st a b
  | none => none
def cmpI (o : CO) (i j : Int) : Option Bool := match o with
  | .lt => some (decide (i < j))
  | .le => some (decide (i ≤ j))
  | .gt => some (decide (j < i))
  | .ge => some (decide (j ≤ i))
  | _ => none
def isNon : D → Bool
  | .non => true
  | _ => false
def cmpD (o : CO) (a b : D) (st : Store) : Option Bool := match o with
  | .eq => deq st a b
  | .ne => (deq st a b).map (!·)
  | .is => match b with
    | .non => some (isNon a)
    | _ => none
  | .isnot => match b with
    | .non => some (!isNon a)
    | _ => none
  | .in_ => inD st a b
  | .notin => (inD st a b).map (!·)
  | o => match a, b with
    | .int i, .int j => cmpI o i j
    | _, _ => none
/-- a value's truth -/
def truD (st : Store) : D → Option Bool
  | .non => some false
  | .bl b => some b
  | .int i => some (i != 0)
  | .str s => if s.length ≤ line then some ((s.length : Int) != 0) else none
  | .tup l => some (!l.isEmpty)
  | .lst l => some (!l.isEmpty)
  | .fl l => some (!l.isEmpty)
  | .ref i => match st[i]? with
    | some (.lst l) => some (!l.isEmpty)
    | some (.dk l) => some (!l.isEmpty)
    | _ => none
def intsD : List D → Option (List Int)
  | [] => some []
  | .int i :: r => (intsD r).map (i :: ·)
  | _ => none
def boolsD : List D → Option (List Bool)
  | [] => some []
  | .bl i :: r => (boolsD r).map (i :: ·)
  | _ => none
def listItems (st : Store) : D → Option (List D)
  | .tup _ => none
  | d => items st d
def maxI : Int → List Int → Int
  | m, [] => m
  | m, x :: r => maxI (if m < x then x else m) r
def minI : Int → List Int → Int
  | m, [] => m
  | m, x :: r => minI (if x < m then x else m) r
def insI (x : Int) : List Int → List Int
  | [] => [x]
  | y :: r => if x ≤ y then x :: y :: r else y :: insI x r
def sortI : List Int → List Int
  | [] => []
  | x :: r => insI x (sortI r)
def lenD (st : Store) : D → Option Int
  | .str s => if s.length ≤ line then some s.length else none
  | d => (items st d).map fun l => (l.length : Int)
def absD : D → Option Int
  | .int i => some (if i < 0 then -i else i)
  | _ => none
def intD : D → Option Int
  | .int i => some i
  | .bl b => some (if b then 1 else 0)
  | _ => none
def intsOf (st : Store) (d : D) : Option (List Int) := (listItems st d).bind intsD
def boolsOf (st : Store) (d : D) : Option (List Bool) := (listItems st d).bind boolsD
def max2D : D → D → Option Int
  | .int i, .int j => some (if j > i then j else i)
  | _, _ => none
def min2D : D → D → Option Int
  | .int i, .int j => some (if j < i then j else i)
  | _, _ => none
def maxL : List Int → Option Int
  | [] => none
  | x :: r => some (maxI x r)
def minL : List Int → Option Int
  | [] => none
  | x :: r => some (minI x r)
def gcdD : D → D → Option Int
  | .int i, .int j => some ((Nat.gcd i.natAbs j.natAbs : Nat) : Int)
  | _, _ => none
/-- rows of whole numbers, in order -/
def leR : List Int → List Int → Bool
  | [], _ => true
  | _ :: _, [] => false
  | x :: xs, y :: ys => if x = y then leR xs ys else decide (x < y)
def insR (x : List Int) : List (List Int) → List (List Int)
  | [] => [x]
  | y :: r => if leR x y = true then x :: y :: r else y :: insR x r
def sortR : List (List Int) → List (List Int) → List (List Int)
  | acc, [] => acc
  | acc, x :: r => sortR (insR x acc) r
def rowsD : List D → Option (List (List Int))
  | [] => some []
  | .tup l :: r => match intsD l, rowsD r with
    | some (x :: xs), some rs => some ((x :: xs) :: rs)
    | _, _ => none
  | _ :: _ => none
def sortO (st : Store) (d : D) : Option (List D) := (listItems st d).bind fun l => if l.length ≤ 1 then some l else (rowsD l).map fun rs => (sortR [] rs).map fun r => .tup (r.map .int)
def sortAny (st : Store) (d : D) : Option (List D) := match intsOf st d with
  | some l => some ((sortI l).map .int)
  | none => sortO st d
/-- the least row -/
def minRow (x : List Int) : List (List Int) → List Int
  | [] => x
  | y :: r => minRow (if leR x y = true then x else y) r
def minAny (st : Store) (d : D) : Option D := match intsOf st d with
  | some l => (minL l).map .int
  | none => (listItems st d).bind fun l => (rowsD l).bind fun rs => match rs with
    | [] => none
    | x :: r => some (.tup ((minRow x r).map .int))
def biD1 (b : BI) (d : D) (st : Store) : R D := match b with
  | .len => .ofO (lenD st d) fun n => .ok (.int n) st
  | .abs => .ofO (absD d) fun n => .ok (.int n) st
  | .int => .ofO (intD d) fun n => .ok (.int n) st
  | .max => .ofO ((intsOf st d).bind maxL) fun n => .ok (.int n) st
  | .min => .ofO (minAny st d) fun d => .ok d st
  | .sum => .ofO (intsOf st d) fun l => .ok (.int l.sum) st
  | .all => .ofO (boolsOf st d) fun l => .ok (.bl (l.all id)) st
  | .any => .ofO (boolsOf st d) fun l => .ok (.bl (l.any id)) st
  | .sorted => .ofO (sortAny st d) fun l => .ok (.lst l) st
  | .tuple => .ofO (items st d) fun l => .ok (.tup l) st
  | .list => .ofO (items st d) fun l => .ok (.lst l) st
  | _ => .stuck
def biD (b : BI) (ds : List D) (st : Store) : R D := match ds with
  | [d] => biD1 b d st
  | [x, y] => match b with
    | .max => .ofO (max2D x y) fun n => .ok (.int n) st
    | .min => .ofO (min2D x y) fun n => .ok (.int n) st
    | .gcd => .ofO (gcdD x y) fun n => .ok (.int n) st
    | _ => .stuck
  | _ => .stuck
/-- how many unlike ones -/
def unlikes (l : List Int) : Nat := (PyProof.Rows.firstMet (fun i => l.getD i 0) l.length).length
/-- each once, the last one of like ones -/
def dd : List Int → List Int
  | [] => []
  | x :: r => if x ∈ r then dd r else x :: dd r
/-- len(set(d)) -/
def setLen (st : Store) (d : D) : Option Nat := match intsOf st d with
  | some l => if l.length ≤ 4000 then some (unlikes l) else none
  | none => match d with
    | .tup l => (intsD l).bind fun ns => if ns.length ≤ 1000 then some (dd ns).length else none
    | _ => none
def strAt (s : Str) (k : Int) : Option D := if s.length ≤ line then (atI s.cps.toList k).map fun c => .str ⟨#[c]⟩ else none
/-- x[i], by place -/
def ixD (a i : D) (st : Store) : R D := match i with
  | .int k => match a with
    | .str s => .ofO (strAt s k) fun d => .ok d st
    | a => .ofO (items st a) fun l => .ofO (atI l k) fun d => .ok d st
  | _ => .stuck
def cutD (l : List D) (lo hi : Option Int) : List D := (l.drop (HT.sIx l.length 0 lo)).take (HT.sIx l.length l.length hi - HT.sIx l.length 0 lo)
/-- l[lo:hi:k] -/
def pickD (l : List D) (lo hi : Option Int) (k : Int) : List D :=
  (List.range (Builtin.Slice.slicePlaces (Builtin.Slice.sliceAdjust lo hi k l.length).1 (Builtin.Slice.sliceAdjust lo hi k l.length).2 k)).filterMap fun (m : Nat) => l[((Builtin.Slice.sliceAdjust lo hi k l.length).1 + (m : Int) * k).toNat]?
def oI : List D → Option (Option Int)
  | [] => some none
  | [.int i] => some (some i)
  | _ => none
/-- a[l:h] -/
def cut1 (a : D) (l h : Option Int) (s : Store) : R D := match a with
  | .tup xs => .ok (.tup (cutD xs l h)) s
  | a => .ofO (listItems s a) fun xs => .ok (.lst (cutD xs l h)) s
/-- a[l:h:k] -/
def cut3 (a : D) (l h : Option Int) (k : D) (s : Store) : R D := match a with
  | .tup xs => match k with
    | .int k => if k ≠ 0 ∧ (pickD xs l h k).length ≤ line then .ok (.tup (pickD xs l h k)) s else .stuck
    | _ => .stuck
  | _ => .stuck
def Ty.n : Ty → String
  | .int => "int"
  | .bool => "bool"
  | .str => "str"
  | .tuple => "tuple"
  | .list => "list"
/-- the name of a value's type -/
def tyN (st : Store) : D → Option String
  | .non => some "NoneType"
  | .bl _ => some "bool"
  | .int _ => some "int"
  | .str _ => some "str"
  | .tup _ => some "tuple"
  | .lst _ => some "list"
  | .fl _ => some "list"
  | .ref i => match st[i]? with
    | some (.lst _) => some "list"
    | some (.dk _) => some "dict"
    | some (.dt _) => some "dict"
    | none => none
def tyB (n : String) (t : Ty) : Bool := n == t.n || (n == "bool" && t.n == "int")
def isiD (ts : List Ty) (d : D) (st : Store) : Option Bool := (tyN st d).map fun n => ts.any (tyB n)
/-- the changing list at d: its place, its items -/
def ownL (st : Store) : D → Option (Nat × List D)
  | .ref i => match st[i]? with
    | some (.lst l) => some (i, l)
    | _ => none
  | _ => none
def popAt (l : List D) (k : Int) : Option (D × List D) := if -(2 ^ 63) ≤ k ∧ k < 2 ^ 63 then (ixN l.length k).bind fun j => l[j]?.map fun d => (d, l.eraseIdx j) else none
def mePopAt (i : Nat) (l : List D) (d : D) (st : Store) : R D := match d with
  | .int k => .ofO (popAt l k) fun q => .ok q.1 (st.set i (.lst q.2))
  | _ => .stuck
def mePop (i : Nat) (l : List D) (ds : List D) (st : Store) : R D := match ds with
  | [] => .ofO l[l.length - 1]? fun d => .ok d (st.set i (.lst l.dropLast))
  | [d] => mePopAt i l d st
  | _ => .stuck
def meD (m : MT) (r : D) (ds : List D) (st : Store) : R D := .ofO (ownL st r) fun p => match m with
  | .append => (match ds with
    | [d] => if p.2.length < line then .ok .non (st.set p.1 (.lst (p.2 ++ [d]))) else .stuck
    | _ => .stuck)
  | .extend => (match ds with
    | [d] => .ofO (madeItems st d) fun r => if p.2.length + r.length ≤ line then .ok .non (st.set p.1 (.lst (p.2 ++ r))) else .stuck
    | _ => .stuck)
  | .pop => mePop p.1 p.2 ds st
  | _ => .stuck

/-! ### loops -/
/-- what is walked: its items, the lists that must stand meanwhile -/
structure Src where
  ds : List D
  gs : List (Nat × List D)
def guard1 (st : Store) (g : Nat × List D) : Bool := match st[g.1]? with
  | some (.lst l) => D.beqs l g.2
  | _ => false
def guards (gs : List (Nat × List D)) (st : Store) : Bool := gs.all (guard1 st)
def srcOf (st : Store) : D → Option Src
  | .ref i => match st[i]? with
    | some (.lst l) => some ⟨l, [(i, l)]⟩
    | _ => none
  | d => (items st d).map fun l => ⟨l, []⟩
def enumD : Nat → List D → List D
  | _, [] => []
  | n, d :: r => .tup [.int n, d] :: enumD (n + 1) r
def zipD : List D → List D → List D
  | a :: as, b :: bs => .tup [a, b] :: zipD as bs
  | _, _ => []
def rngD (lo c : Int) : Nat → List D
  | 0 => []
  | n + 1 => .int lo :: rngD (lo + c) c n
def near (i : Int) : Bool := decide (-(2 ^ 62) ≤ i) && decide (i < 2 ^ 62)
def rngOf : List D → Option Src
  | [.int j] => if near j && decide (j.toNat ≤ line) then some ⟨rngD 0 1 j.toNat, []⟩ else none
  | [.int i, .int j] => if near i && near j && decide ((j - i).toNat ≤ line) then some ⟨rngD i 1 (j - i).toNat, []⟩ else none
  | [.int i, .int j, .int k] => if decide (k ≠ 0) && decide (k.natAbs < 1073741824) && Builtin.Range.small i j k && decide (0 ≤ Builtin.Range.rangeSize i j k) && decide ((Builtin.Range.rangeSize i j k).toNat ≤ line) then some ⟨rngD i k (Builtin.Range.rangeSize i j k).toNat, []⟩ else none
  | _ => none
/-- list(range(..)) -/
def lrg (i j : D) : Option (List D) := match i, j with
  | .int i, .int j => if near i && near j && decide ((j - i).toNat ≤ line) then some (rngD i 1 (j - i).toNat) else none
  | _, _ => none
/-- a comprehension's turns -/
def compL (gs : List (Nat × List D)) (body : D → Store → R (Option D)) : List D → Store → R (List D)
  | [], st => if guards gs st then .ok [] st else .stuck
  | d :: r, st => if guards gs st then (match body d st with
      | .ok o st1 => match compL gs body r st1 with
        | .ok l st2 => .ok (match o with | some x => x :: l | none => l) st2
        | _ => .stuck
      | _ => .stuck) else .stuck
/-- with a second source in each turn -/
def compL2 (gs : List (Nat × List D)) (body : D → Store → R (List D)) : List D → Store → R (List D)
  | [], st => if guards gs st then .ok [] st else .stuck
  | d :: r, st => if guards gs st then (match body d st with
      | .ok l1 st1 => match compL2 gs body r st1 with
        | .ok l st2 => .ok (l1 ++ l) st2
        | _ => .stuck
      | _ => .stuck) else .stuck
def forL (gs : List (Nat × List D)) (body : D → Env → Store → RSt) : List D → Env → Store → RSt
  | [], env, st => if guards gs st then .next env st else .stuck
  | d :: r, env, st => if guards gs st then (match body d env st with
      | .next e s => forL gs body r e s
      | .cont e s => forL gs body r e s
      | .brk e s => .next e s
      | x => x) else .stuck
def whileL (c : Env → Store → R Bool) (body : Env → Store → RSt) : Nat → Env → Store → RSt
  | 0, _, _ => .stuck
  | n + 1, env, st => match c env st with
    | .ok true s => match body env s with
      | .next e s => whileL c body n e s
      | .cont e s => whileL c body n e s
      | .brk e s => .next e s
      | x => x
    | .ok false s => .next env s
    | .exc x s => .exc x env s
    | .stuck => .stuck
def wipeE (env : Env) : List Nat → Env
  | [] => env
  | v :: vs => (wipeE env vs).set v none
/-- x[i] = d -/
def setD (a i d : D) (st : Store) : Option Store := (ownL st a).bind fun p => match i with
  | .int k => (ixN p.2.length k).map fun j => st.set p.1 (.lst (p.2.set j d))
  | _ => none
/-- x[i] of a changing list -/
def getL (a i : D) (st : Store) : R D := .ofO (ownL st a) fun p => match i with
  | .int k => .ofO (atI p.2 k) fun d => .ok d st
  | _ => .stuck
def ownD (d : D) (st : Store) : R D := match d with
  | .lst l => .ok (.ref st.length) (st ++ [.lst l])
  | _ => .stuck
def negD : D → Option Int
  | .int i => some (-i)
  | _ => none
def tupOf : D → Option (List D)
  | .tup l => some l
  | _ => none
/-- what is taken apart: a tuple, a list -/
def seqOf (st : Store) : D → Option (List D)
  | .tup l => some l
  | .lst l => some l
  | .ref i => match st[i]? with
    | some (.lst l) => some l
    | _ => none
  | _ => none
/-- the keywords' values in the parameters' order -/
def permL {α : Type} (p : List Nat) (ds : List α) : List α := p.filterMap fun i => ds[i]?
/-- pairs of a whole number and a thing -/
def pairsD : List D → Option (List (Int × D))
  | [] => some []
  | .tup [.int k, v] :: r => (pairsD r).map ((k, v) :: ·)
  | _ :: _ => none
/-- the last one of a number -/
def lastV (k : Int) : List (Int × D) → Option D
  | [] => none
  | (j, v) :: r => match lastV k r with
    | some w => some w
    | none => if j = k then some v else none
/-- a dict's entries; a key -/
def dkOf (st : Store) : D → Option (List (Key × D))
  | .ref i => match st[i]? with
    | some (.dk l) => some l
    | _ => none
  | _ => none
def keyD : D → Option Key
  | .int i => some (.inl i)
  | .str s => some (.inr s)
  | _ => none
def lookD (l : List (Key × D)) (k : Key) : Option D := (l.find? fun p => decide (p.1 = k)).map (·.2)
def putD (l : List (Key × D)) (k : Key) (d : D) : List (Key × D) := if (l.any fun p => decide (p.1 = k)) = true then l.map fun p => if p.1 = k then (p.1, d) else p else l ++ [(k, d)]
def datD (x y : D) (st : Store) : Option D := (dkOf st x).bind fun l => (keyD y).bind fun k => lookD l k
def dinD (x y : D) (st : Store) : Option Bool := (dkOf st x).bind fun l => (keyD y).map fun k => (lookD l k).isSome
def dg2D (x y z : D) (st : Store) : Option D := (dkOf st x).bind fun l => (keyD y).map fun k => (lookD l k).getD z
def dsetD (x y d : D) (st : Store) : Option Store := match x with
  | .ref i => match st[i]? with
    | some (.dk l) => (keyD y).bind fun k => if l.length < line then some (st.set i (.dk (putD l k d))) else none
    | _ => none
  | _ => none
def dgetD (ps : List (Int × D)) (y z : D) (st : Store) : R D := match y with
  | .int k => .ok ((lastV k ps).getD z) st
  | _ => .stuck
/-! ### the evaluator -/
mutual
def evE (c : Cfg) : IE → Env → Store → R D
  | .non, _, st => .ok .non st
  | .bl b, _, st => .ok (.bl b) st
  | .int i, _, st => .ok (.int i) st
  | .str s, _, st => .ok (.str s) st
  | .v i, env, st => .ofO env[i]?.join fun d => .ok d st
  | .gl i, _, st => .ofO c.glob[i]? fun d => .ok d st
  | .tup es, env, st => (evAs c es env st).bind fun ds st => .ok (.tup ds) st
  | .lst es, env, st => (evAs c es env st).bind fun ds st => .ok (.lst ds) st
  | .own e, env, st => (evE c e env st).bind ownD
  | .bin o a b, env, st => (evE c a env st).bind fun x st => (evE c b env st).bind fun y st => binD o x y st
  | .neg a, env, st => (evE c a env st).bind fun x st => .ofO (negD x) fun i => .ok (.int i) st
  | .nt a, env, st => (evE c a env st).bind fun d st => .ofO (truD st d) fun b => .ok (.bl (!b)) st
  | .and es, env, st => evAnd c es env st
  | .or es, env, st => evOr c es env st
  | .cmp o a b, env, st => (evE c a env st).bind fun x st => (evE c b env st).bind fun y st => .ofO (cmpD o x y st) fun k => .ok (.bl k) st
  | .chain o p a b d, env, st => (evE c a env st).bind fun x st => (evE c b env st).bind fun y st => .ofO (cmpD o x y st) fun k =>
      if k = true then (evE c d env st).bind fun z st => .ofO (cmpD p y z st) fun k => .ok (.bl k) st else .ok (.bl false) st
  | .ife t a b, env, st => (evT c t env st).bind fun k st => if k = true then evE c a env st else evE c b env st
  | .ix a i, env, st => (evE c a env st).bind fun x st => (evE c i env st).bind fun y st => ixD x y st
  | .sl a lo hi, env, st => (evE c a env st).bind fun x st => ((evAs c lo env st).bind fun l st => .ofO (oI l) fun l => .ok l st).bind fun l st => ((evAs c hi env st).bind fun h st => .ofO (oI h) fun h => .ok h st).bind fun h st => cut1 x l h st
  | .slS a lo hi k, env, st => (evE c a env st).bind fun x st => ((evAs c lo env st).bind fun l st => .ofO (oI l) fun l => .ok l st).bind fun l st => ((evAs c hi env st).bind fun h st => .ofO (oI h) fun h => .ok h st).bind fun h st =>
      ((evE c k env st).bind fun d st => .ofO (oI [d]) fun _ => .ok d st).bind fun d st => cut3 x l h d st
  | .call f es, env, st => (evAs c es env st).bind fun ds st => c.call f ds st
  | .bi b es, env, st => (evAs c es env st).bind fun ds st => biD b ds st
  | .me m r es, env, st => ((evE c r env st).bind fun x st => .ofO (ownL st x) fun _ => .ok x st).bind fun x st => (evAs c es env st).bind fun ds st => meD m x ds st
  | .isi e ts, env, st => (evE c e env st).bind fun x st => .ofO (isiD ts x st) fun b => .ok (.bl b) st
  | .lc elt own tg it ifs, env, st => ((evI c it env st).bind fun src st => compL src.gs (fun d st => (evG c tg d (wipeE env own) st).bind fun env st => (evTs c ifs env st).bind fun k st =>
      if k = true then (evE c elt env st).bind fun x st => .ok (some x) st else .ok none st) src.ds st).bind fun l st => .ok (.lst l) st
  | .lc2 elt own own1 tg it ifs tg1 it1 ifs1, env, st => (((evI c it env st).bind fun src st => compL2 src.gs (fun d st => (evG c tg d (wipeE env own) st).bind fun env st => (evTs c ifs env st).bind fun k st =>
      if k = true then (evI c it1 env st).bind fun src st => compL src.gs (fun d st => (evG c tg1 d (wipeE env own1) st).bind fun env st => (evTs c ifs1 env st).bind fun k st =>
        if k = true then (evE c elt env st).bind fun x st => .ok (some x) st else .ok none st) src.ds st else .ok [] st) src.ds st).bind fun l st => if l.length ≤ line then .ok l st else .stuck).bind fun l st => .ok (.lst l) st
  | .rng _, _, _ => .stuck
  | .enum _, _, _ => .stuck
  | .zip _ _, _, _ => .stuck
  | .ezip _ _, _, _ => .stuck
  | .lrng1 a, env, st => (evE c a env st).bind fun x st => .ofO (lrg (.int 0) x) fun l => .ok (.lst l) st
  | .lrng2 a b, env, st => (evE c a env st).bind fun x st => (evE c b env st).bind fun y st => .ofO (lrg x y) fun l => .ok (.lst l) st
  | .lset e, env, st => (evE c e env st).bind fun d st => .ofO (setLen st d) fun n => .ok (.int n) st
  | .walk _, _, _ => .stuck
  | .kcall f p es, env, st => (evAs c es env st).bind fun ds st => c.call f (permL p ds) st
  | .dnew, _, st => .ok (.ref st.length) (st ++ [.dk []])
  | .dat a i, env, st => (evE c a env st).bind fun x st => (evE c i env st).bind fun y st => .ofO (datD x y st) fun d => .ok d st
  | .din n i a, env, st => (evE c i env st).bind fun y st => (evE c a env st).bind fun x st => .ofO (dinD x y st) fun b => .ok (.bl (b != n)) st
  | .dg2 a i z, env, st => (evE c a env st).bind fun x st => .ofO (dkOf st x) fun _ => (evE c i env st).bind fun y st => (evE c z env st).bind fun w st => .ofO (dg2D x y w st) fun d => .ok d st
  | .dget e a b, env, st => (evE c e env st).bind fun x st => .ofO ((listItems st x).bind pairsD) fun ps => (evE c a env st).bind fun y st => (evE c b env st).bind fun z st => dgetD ps y z st
/-- as a test -/
def evT (c : Cfg) : IE → Env → Store → R Bool
  | .nt a, env, st => (evT c a env st).bind fun b st => .ok (!b) st
  | .and es, env, st => evTAnd c es env st
  | .or es, env, st => evTOr c es env st
  | .cmp o a b, env, st => (evE c a env st).bind fun x st => (evE c b env st).bind fun y st => .ofO (cmpD o x y st) fun k => .ok k st
  | .chain o p a b d, env, st => (evE c a env st).bind fun x st => (evE c b env st).bind fun y st => .ofO (cmpD o x y st) fun k =>
      if k = true then (evE c d env st).bind fun z st => .ofO (cmpD p y z st) fun k => .ok k st else .ok false st
  | .bl b, _, st => .ok b st
  | .v i, env, st => .ofO env[i]?.join fun d => .ofO (truD st d) fun k => .ok k st
  | .call f es, env, st => ((evAs c es env st).bind fun ds st => c.call f ds st).bind fun d st => .ofO (truD st d) fun k => .ok k st
  | .bi b es, env, st => ((evAs c es env st).bind fun ds st => biD b ds st).bind fun d st => .ofO (truD st d) fun k => .ok k st
  | .isi e ts, env, st => (evE c e env st).bind fun x st => .ofO (isiD ts x st) fun b => .ok b st
  | .ix a i, env, st => ((evE c a env st).bind fun x st => (evE c i env st).bind fun y st => ixD x y st).bind fun d st => .ofO (truD st d) fun k => .ok k st
  | .din n i a, env, st => (evE c i env st).bind fun y st => (evE c a env st).bind fun x st => .ofO (dinD x y st) fun b => .ok (b != n) st
  | _, _, _ => .stuck
def evTAnd (c : Cfg) : List IE → Env → Store → R Bool
  | [], _, _ => .stuck
  | [e], env, st => evT c e env st
  | e :: e' :: r, env, st => (evT c e env st).bind fun k st => if k = true then evTAnd c (e' :: r) env st else .ok false st
def evTOr (c : Cfg) : List IE → Env → Store → R Bool
  | [], _, _ => .stuck
  | [e], env, st => evT c e env st
  | e :: e' :: r, env, st => (evT c e env st).bind fun k st => if k = true then .ok true st else evTOr c (e' :: r) env st
/-- a clause's tests: none or one -/
def evTs (c : Cfg) : List IE → Env → Store → R Bool
  | [], _, st => .ok true st
  | [e], env, st => evT c e env st
  | _ :: _ :: _, _, _ => .stuck
def evAnd (c : Cfg) : List IE → Env → Store → R D
  | [], _, _ => .stuck
  | [e], env, st => evE c e env st
  | e :: e' :: r, env, st => (evE c e env st).bind fun d st => .ofO (truD st d) fun k => if k = true then evAnd c (e' :: r) env st else .ok d st
def evOr (c : Cfg) : List IE → Env → Store → R D
  | [], _, _ => .stuck
  | [e], env, st => evE c e env st
  | e :: e' :: r, env, st => (evE c e env st).bind fun d st => .ofO (truD st d) fun k => if k = true then .ok d st else evOr c (e' :: r) env st
def evAs (c : Cfg) : List IE → Env → Store → R (List D)
  | [], _, st => .ok [] st
  | e :: r, env, st => (evE c e env st).bind fun d st => (evAs c r env st).bind fun ds st => .ok (d :: ds) st
/-- as what is walked -/
def evI (c : Cfg) : IE → Env → Store → R Src
  | .rng es, env, st => (evAs c es env st).bind fun ds st => .ofO (rngOf ds) fun s => .ok s st
  | .enum e, env, st => (evE c e env st).bind fun d st => .ofO (srcOf st d) fun s => .ok ⟨enumD 0 s.ds, s.gs⟩ st
  | .zip a b, env, st => (evE c a env st).bind fun x st => (evE c b env st).bind fun y st => .ofO (srcOf st x) fun s => .ofO (srcOf st y) fun t => .ok ⟨zipD s.ds t.ds, s.gs ++ t.gs⟩ st
  | .walk e, env, st => (evE c e env st).bind fun d st => .ofO (srcOf st d) fun s => .ok s st
  | .ezip a b, env, st => (evE c a env st).bind fun x st => (evE c b env st).bind fun y st => .ofO (srcOf st x) fun s => .ofO (srcOf st y) fun t => .ok ⟨enumD 0 (zipD s.ds t.ds), s.gs ++ t.gs⟩ st
  | _, _, _ => .stuck
/-- a target takes d -/
def evG (c : Cfg) : IE → D → Env → Store → R Env
  | .v i, d, env, st => .ok (env.set i (some d)) st
  | .tup es, d, env, st => .ofO (seqOf st d) fun ds => if ds.length = es.length then evGs c es ds env st else .stuck
  | .ix a i, d, env, st => (evE c a env st).bind fun x st => (evE c i env st).bind fun y st => .ofO (setD x y d st) fun st => .ok env st
  | .dat a i, d, env, st => (evE c a env st).bind fun x st => (evE c i env st).bind fun y st => .ofO (dsetD x y d st) fun st => .ok env st
  | _, _, _, _ => .stuck
def evGs (c : Cfg) : List IE → List D → Env → Store → R Env
  | [], [], env, st => .ok env st
  | e :: es, d :: ds, env, st => (evG c e d env st).bind fun env st => evGs c es ds env st
  | _, _, _, _ => .stuck
end
/-! ### statements -/
def R.st {α : Type} (r : R α) (env : Env) (k : α → Store → RSt) : RSt := match r with
  | .ok a st => k a st
  | .exc c st => .exc c env st
  | .stuck => .stuck
def RSt.seq (r : RSt) (k : Env → Store → RSt) : RSt := match r with
  | .next env st => k env st
  | x => x
/-- the clause that takes an exception: its slot and constant -/
def handle (hs : List (Nat × Nat × IE)) (cn : Nat) (env : Env) (st : Store) (val : IE → Store → R D) : RSt := match hs with
  | [] => .exc cn env st
  | (x, i, e) :: r => if x = cn then (val e st).st env fun d st => .next (env.set i (some d)) st else handle r cn env st val
mutual
def evS (c : Cfg) : IS → Env → Store → RSt
  | .asg t e, env, st => (evE c e env st).st env fun d st => (evG c t d env st).st env fun env st => .next env st
  | .setLc i e, env, st => (evE c e env st).st env fun d st => .next (env.set i (some d)) st
  | .par is es, env, st => (evAs c es env st).st env fun ds st => if ds.length = is.length then .next ((is.zip ds).foldl (fun env p => env.set p.1 (some p.2)) env) st else .stuck
  | .aug i o e, env, st => (R.ofO env[i]?.join fun d => .ok d st).st env fun x st => (evE c e env st).st env fun y st => (augD o x y st).st env fun d st => .next (env.set i (some d)) st
  | .augS a i o e, env, st => (evE c a env st).st env fun x st => (evE c i env st).st env fun y st => (getL x y st).st env fun z st => (evE c e env st).st env fun w st => (augD o z w st).st env fun n st => (R.ofO (setD x y n st) fun st => R.ok () st).st env fun _ st => .next env st
  | .ex e, env, st => (evE c e env st).st env fun _ st => .next env st
  | .ret e, env, st => (evE c e env st).st env fun d st => .ret d st
  | .retN, _, st => .ret .non st
  | .ife t a b, env, st => (evT c t env st).st env fun k st => if k = true then evSs c a env st else evSs c b env st
  | .while t b, env, st => whileL (evT c t) (evSs c b) c.fuel env st
  | .for t it b, env, st => (evI c it env st).st env fun src st => forL src.gs (fun d env st => (evG c t d env st).st env fun env st => evSs c b env st) src.ds env st
  | .raise x, env, st => .exc x env st
  | .tr b hs, env, st => match evSs c b env st with
    | .exc x env st => if x < c.nx then handle hs x env st fun e st => evE c e env st else .stuck
    | r => r
  | .brk, env, st => .brk env st
  | .cont, env, st => .cont env st
  | .pass, env, st => .next env st
def evSs (c : Cfg) : List IS → Env → Store → RSt
  | [], env, st => .next env st
  | s :: r, env, st => (evS c s env st).seq fun env st => evSs c r env st
end
end Ev

set_option Elab.async false
set_option linter.all false
set_option maxRecDepth 100000
set_option autoImplicit false
/-! Ev, part C: what the evaluator says is what the rules ask. -/
namespace Ev
open PySem PySem.Spec PyProof.Rows L2

/-- what a state tells of lengths -/
def Good (K : PySem.W.Frag) (H : Hp) : Prop := (∀ a xs, SqL K H a xs → xs.length ≤ sizeLine) ∧ ∀ a xs, SqT K H a xs → xs.length ≤ sizeLine
theorem good_of {X : Cx} {pins : List (Addr × Obj)} {σ : L2.St} {H : Hp} {s : Shared} (I : Inv X pins σ H s) : Good X.K H :=
  ⟨fun a xs h => let ⟨_, _, _, z⟩ := I.list h; z, fun a xs h => let ⟨_, _, _, z⟩ := I.tuple h; z⟩

section
variable {X : Cx} {e : Expr}
theorem PE.use {t t' : TE} (h : PE X e t) (w : ∀ σ H Q, t' σ H Q → t σ H (fun v H1 => Good X.K H1 → Q v H1)) : PE X e t' :=
  ⟨fun pins s σ H Q I q => thn (h.run pins s σ H _ I (w σ H Q q)) fun v s1 ⟨x, H1, I1, r, q1⟩ => ⟨x, H1, I1, r, q1 (good_of I1)⟩⟩
theorem PT.use {t t' : TT} (h : PT X e t) (w : ∀ σ H Q, t' σ H Q → t σ H (fun v H1 => Good X.K H1 → Q v H1)) : PT X e t' :=
  ⟨fun pins s σ H Q I q => thn (h.run pins s σ H _ I (w σ H Q q)) fun v s1 ⟨H1, I1, q1⟩ => ⟨H1, I1, q1 (good_of I1)⟩⟩
theorem PW.use {t t' : TT} (h : PW X e t) (w : ∀ σ H Q, t' σ H Q → t σ H (fun v H1 => Good X.K H1 → Q v H1)) : PW X e t' :=
  ⟨fun wh pins s σ H Q I q => thn (h.run wh pins s σ H _ I (w σ H Q q)) fun v s1 ⟨H1, I1, q1⟩ => ⟨H1, I1, q1 (good_of I1)⟩⟩
theorem PTs.use {es : List Expr} {t t' : TT} (h : PTs X es t) (w : ∀ σ H Q, t' σ H Q → t σ H (fun v H1 => Good X.K H1 → Q v H1)) : PTs X es t' :=
  ⟨fun pins s σ H Q I q => thn (h.run pins s σ H _ I (w σ H Q q)) fun v s1 ⟨H1, I1, q1⟩ => ⟨H1, I1, q1 (good_of I1)⟩⟩
theorem PA.use {es : List Expr} {t t' : TA} (h : PA X es t) (w : ∀ σ H Q, t' σ H Q → t σ H (fun v H1 => Good X.K H1 → Q v H1)) : PA X es t' :=
  ⟨fun pos pins s σ H Q I q => thn (h.run pos pins s σ H _ I (w σ H Q q)) fun v s1 ⟨x, H1, I1, r, q1⟩ => ⟨x, H1, I1, r, q1 (good_of I1)⟩⟩
theorem PI.use {tg : Expr} {t t' : TI} (h : PI X tg e t) (w : ∀ σ H R, t' σ H R → t σ H (fun J H1 => Good X.K H1 → R J H1)) : PI X tg e t' :=
  ⟨fun pins s σ H R I q => thn (h.run pins s σ H _ I (w σ H R q)) fun v s1 h1 => thn h1 fun itv s2 ⟨it, fp, tn, J, H', e, I2, T, st, f, r⟩ => ⟨it, fp, tn, J, H', e, I2, T, st, f, r (good_of I2)⟩⟩
end

/-- what is wanted of a result -/
def Post {α β : Type} (K : PySem.W.Frag) (xv : Nat → Value) (W : WX) (rel : Ms → Hp → α → β → Prop) (σ : L2.St) (m : Ms) (H : Hp) (r : R α) (Q : β → Hp → Prop) : Prop := match r with
  | .ok a st' => ∀ m' H' b, Lat m H m' H' → rel m' H' a b → RS K m' H' st' → Good K H' → Q b H'
  | .exc c st' => ∀ m' H', Lat m H m' H' → RS K m' H' st' → W (xv c) none σ H'
  | .stuck => False
/-- the reading that the evaluator gives -/
def tX {α β : Type} (K : PySem.W.Frag) (xv : Nat → Value) (W : WX) (rel : Ms → Hp → α → β → Prop) (f : Env → Store → R α) : L2.St → Hp → (β → Hp → Prop) → Prop := fun σ H Q =>
  ∃ m env st, RE K m H env σ ∧ RS K m H st ∧ Post K xv W rel σ m H (f env st) Q
abbrev eqR {α : Type} : Ms → Hp → α → α → Prop := fun _ _ a b => a = b
abbrev tEv (K : PySem.W.Frag) (xv : Nat → Value) (W : WX) (f : Env → Store → R D) : TE := tX K xv W (RD K) f
abbrev tTv (K : PySem.W.Frag) (xv : Nat → Value) (W : WX) (f : Env → Store → R Bool) : TT := tX K xv W eqR f
abbrev tAv (K : PySem.W.Frag) (xv : Nat → Value) (W : WX) (f : Env → Store → R (List D)) : TA := tX K xv W (RDs K) f

section
variable {α β γ δ : Type} {K : PySem.W.Frag} {xv : Nat → Value} {W : WX} {rel : Ms → Hp → α → β → Prop} {rel' : Ms → Hp → γ → δ → Prop} {σ : L2.St} {m : Ms} {H : Hp}
/-- first r, then k -/
theorem Post.bind {r : R α} {k : α → Store → R γ} {Q : δ → Hp → Prop} (h : Post K xv W rel' σ m H (r.bind k) Q) :
    Post K xv W rel σ m H r (fun b H1 => ∃ a m1 st1, Lat m H m1 H1 ∧ rel m1 H1 a b ∧ RS K m1 H1 st1 ∧ Good K H1 ∧ Post K xv W rel' σ m1 H1 (k a st1) Q) := by
  cases r with
  | ok a st =>
    intro m' H' b L x rs g
    refine ⟨a, m', st, L, x, rs, g, ?_⟩
    have h : Post K xv W rel' σ m H (k a st) Q := h
    revert h
    generalize k a st = z
    intro h
    cases z with
    | ok c st2 => exact fun m2 H2 d L2 => h m2 H2 d (L.trans L2)
    | exc c st2 => exact fun m2 H2 L2 => h m2 H2 (L.trans L2)
    | stuck => exact h
  | exc c st => exact h
  | stuck => exact h
/-- .. and the result is known -/
theorem Post.bindE {r : R α} {k : α → Store → R γ} {Q : δ → Hp → Prop} (h : Post K xv W rel' σ m H (r.bind k) Q) :
    Post K xv W rel σ m H r (fun b H1 => ∃ a m1 st1, r = .ok a st1 ∧ Lat m H m1 H1 ∧ rel m1 H1 a b ∧ RS K m1 H1 st1 ∧ Good K H1 ∧ Post K xv W rel' σ m1 H1 (k a st1) Q) := by
  cases r with
  | ok a st =>
    intro m' H' b L x rs g
    refine ⟨a, m', st, rfl, L, x, rs, g, ?_⟩
    have h : Post K xv W rel' σ m H (k a st) Q := h
    revert h
    generalize k a st = z
    intro h
    cases z with
    | ok c st2 => exact fun m2 H2 d L2 => h m2 H2 d (L.trans L2)
    | exc c st2 => exact fun m2 H2 L2 => h m2 H2 (L.trans L2)
    | stuck => exact h
  | exc c st => exact h
  | stuck => exact h
theorem Post.mono {r : R α} {Q Q' : β → Hp → Prop} (h : Post K xv W rel σ m H r Q) (w : ∀ b H', Q b H' → Q' b H') : Post K xv W rel σ m H r Q' := by
  cases r with
  | ok a st => exact fun m' H' b L x rs g => w b H' (h m' H' b L x rs g)
  | exc c st => exact h
  | stuck => exact h
/-- a later state -/
theorem Post.later {r : R α} {Q : β → Hp → Prop} {m1 : Ms} {H1 : Hp} (L : Lat m H m1 H1) (h : Post K xv W rel σ m H r Q) : Post K xv W rel σ m1 H1 r Q := by
  cases r with
  | ok a st => exact fun m' H' b L' => h m' H' b (L.trans L')
  | exc c st => exact fun m' H' L' => h m' H' (L.trans L')
  | stuck => exact h
/-- the end: the result here -/
theorem Post.here {a : α} {b : β} {st : Store} {Q : β → Hp → Prop} (h : Post K xv W rel σ m H (.ok a st) Q) (x : rel m H a b) (rs : RS K m H st) (g : Good K H) : Q b H := h m H b .refl x rs g
theorem Post.at_ {a : α} {b : β} {st : Store} {Q : β → Hp → Prop} {m' : Ms} {H' : Hp} (h : Post K xv W rel σ m H (.ok a st) Q) (L : Lat m H m' H') (x : rel m' H' a b) (rs : RS K m' H' st) (g : Good K H') : Q b H' := h m' H' b L x rs g
end

/-! ### the store and new things -/
section
variable {K : PySem.W.Frag} {m m' : Ms} {H H' : Hp} {st : Store}
theorem Lat.alloc {p : Addr} {o : HO} (h : H p = none) : Lat m H m (upd H p o) := ⟨⟨[], (List.append_nil _).symm⟩, rfl, fun _ h n => absurd h n, fun a o e _ => by rw [upd_ne (ne_of_none e h)]; exact e⟩
theorem RO.latz {a : Addr} {o : O} {m' : Ms} (L : LatZ m H m' H') (r : RS K m H st) (ha : ∀ vs, H a = some vs → H' a = some vs) (q : RO K m H a o) : RO K m' H' a o := by
  cases o with
  | lst l =>
    obtain ⟨vs, q, x⟩ := q
    exact ⟨vs, ha _ q, RDs.latz L r _ _ x⟩
  | dk l =>
    obtain ⟨vs, q, x⟩ := q
    exact ⟨vs, ha _ q, RKV.latz L r _ _ x⟩
  | dt l =>
    obtain ⟨vs, q, x⟩ := q
    exact ⟨vs, ha _ q, RKV.latz L r _ _ x⟩
theorem RS.keep (r : RS K m H st) (L : Lat m H m H') (k : ∀ a ∈ m.vis, H' a = H a) : RS K m H' st := by
  refine ⟨r.len, r.nd, fun i o a e e' => ?_, fun a ha => ?_⟩
  · have q := r.at_ i o a e e'
    have ha : H' a = H a := k a (List.mem_of_getElem? e')
    exact RO.latz L.z r (fun vs e => ha.trans e) q
  · obtain ⟨n, vs, e⟩ := r.hd a ha
    exact ⟨n, vs, L.keep a _ e n⟩
theorem RS.alloc (r : RS K m H st) {p : Addr} {o : HO} (h : H p = none) : RS K m (upd H p o) st := r.keep (.alloc h) fun a ha => by
  obtain ⟨o', e, _⟩ := r.trackedV ha
  rw [upd_ne (ne_of_none e h)]
theorem RS.notin (r : RS K m H st) {p : Addr} (h : H p = none) : m.No p := r.no h
/-- a new thing comes into the store -/
theorem Lat.push {p : Addr} (h : H p = none) (o : HO) : Lat m H (m.push p) (upd H p o) := ⟨⟨[p], rfl⟩, rfl, fun a q n => by
    rcases List.mem_append.mp q with q | q
    · exact absurd q n
    · have e : a = p := by simpa using q
      rw [e]
      exact h, fun a o e _ => by rw [upd_ne (ne_of_none e h)]; exact e⟩
theorem RS.push (r : RS K m H st) {p : Addr} {o : O} {ho : HO} (h : H p = none) (x : RO K (m.push p) (upd H p ho) p o) : RS K (m.push p) (upd H p ho) (st ++ [o]) := by
  have hp := r.notin h
  refine ⟨by simp [r.len], ?_, fun i u a e e' => ?_, fun a ha => ?_⟩
  · rw [List.nodup_append]
    exact ⟨r.nd, by simp, fun a ha b hb => by
      have e : b = p := by simpa using hb
      rw [e]
      rintro rfl
      exact hp.1 ha⟩
  · by_cases hi : i < st.length
    · rw [List.getElem?_append_left hi] at e
      have e' : (m.vis ++ [p])[i]? = some a := e'
      rw [List.getElem?_append_left (by rw [← r.len]; exact hi)] at e'
      have q := r.at_ i u a e e'
      have hne : a ≠ p := fun z => hp.1 (z ▸ List.mem_of_getElem? e')
      exact RO.latz (Lat.push h ho).z r (fun vs e => by rw [upd_ne hne]; exact e) q
    · have h1 : i = st.length := by
        have := (List.getElem?_eq_some_iff.mp e).1
        simp at this
        omega
      subst h1
      have e' : (m.vis ++ [p])[st.length]? = some a := e'
      rw [List.getElem?_append_right (Nat.le_refl _)] at e
      rw [List.getElem?_append_right (by rw [r.len]; exact Nat.le_refl _)] at e'
      have e1 : o = u := by simpa using e
      have e2 : p = a := by simpa [r.len] using e'
      subst e1 e2
      exact x
  · obtain ⟨n, vs, e⟩ := r.hd a ha
    have hne : a ≠ p := ne_of_none e h
    refine ⟨fun q => ?_, vs, by rw [upd_ne hne]; exact e⟩
    rcases List.mem_append.mp q with q | q
    · exact n q
    · exact hne (by simpa using q)
/-- a thing of the store is written -/
theorem Lat.write {p : Addr} {o : HO} (hp : p ∈ m.vis) : Lat m H m (upd H p o) := ⟨⟨[], (List.append_nil _).symm⟩, rfl, fun _ h n => absurd h n, fun a o e n => by rw [upd_ne (show a ≠ p from fun z => n (by rw [z]; exact hp))]; exact e⟩
theorem nodup_ix_addr {N : List Addr} (hN : N.Nodup) {i j : Nat} {x : Addr} (a : N[i]? = some x) (b : N[j]? = some x) : i = j := by
  obtain ⟨h1, e1⟩ := List.getElem?_eq_some_iff.mp a
  obtain ⟨h2, e2⟩ := List.getElem?_eq_some_iff.mp b
  exact (List.getElem_inj hN).mp (e1.trans e2.symm)
theorem RS.write (r : RS K m H st) {i : Nat} {p : Addr} {o : O} {ho : HO} (hi : i < st.length) (hp : m.vis[i]? = some p) (x : RO K m (upd H p ho) p o) : RS K m (upd H p ho) (st.set i o) := by
  have L : Lat m H m (upd H p ho) := .write (List.mem_of_getElem? hp)
  refine ⟨by simp [r.len], r.nd, fun j u a e e' => ?_, fun a ha => ?_⟩
  · by_cases hj : i = j
    · subst hj
      rw [List.getElem?_set_self hi] at e
      cases e
      rw [hp] at e'
      cases e'
      exact x
    · rw [List.getElem?_set_ne hj] at e
      have q := r.at_ j u a e e'
      have hne : a ≠ p := fun z => by
        subst z
        exact hj (nodup_ix_addr r.nd hp e')
      exact RO.latz L.z r (fun vs e => by rw [upd_ne hne]; exact e) q
  · obtain ⟨n, vs, e⟩ := r.hd a ha
    exact ⟨n, vs, L.keep a _ e n⟩
/-! a hidden list: begun, written, shown -/
abbrev Ms.hide (m : Ms) (p : Addr) : Ms := ⟨m.vis, p :: m.hid⟩
theorem LatZ.hide {p : Addr} (h : H p = none) (o : HO) : LatZ m H (m.hide p) (upd H p o) := ⟨⟨[], (List.append_nil _).symm⟩, fun a q => by
    rcases List.mem_cons.mp q with rfl | q
    · exact .inr h
    · exact .inl q, fun _ h n => absurd h n, fun a o e _ => by rw [upd_ne (ne_of_none e h)]; exact e⟩
theorem RS.hide (r : RS K m H st) {p : Addr} (h : H p = none) (vs : List V) : RS K (m.hide p) (upd H p (.lst vs)) st := by
  refine ⟨r.len, r.nd, fun i o a e e' => ?_, fun a ha => ?_⟩
  · have hne : a ≠ p := fun z => (r.no h).1 (z ▸ List.mem_of_getElem? e')
    exact RO.latz (LatZ.hide h _) r (fun vs e => by rw [upd_ne hne]; exact e) (r.at_ i o a e e')
  · rcases List.mem_cons.mp ha with rfl | ha
    · exact ⟨(r.no h).1, vs, upd_same⟩
    · obtain ⟨n, us, e⟩ := r.hd a ha
      exact ⟨n, us, by rw [upd_ne (ne_of_none e h)]; exact e⟩
theorem LatZ.writeH {p : Addr} {o : HO} (hp : p ∈ m.hid) : LatZ m H m (upd H p o) := ⟨⟨[], (List.append_nil _).symm⟩, fun a h => .inl h, fun _ h n => absurd h n, fun a o e n => by rw [upd_ne (show a ≠ p from fun z => n.2 (by rw [z]; exact hp))]; exact e⟩
theorem RS.writeH (r : RS K m H st) {p : Addr} (hp : p ∈ m.hid) (vs : List V) : RS K m (upd H p (.lst vs)) st := by
  refine ⟨r.len, r.nd, fun i o a e e' => ?_, fun a ha => ?_⟩
  · have hne : a ≠ p := fun z => (r.hd p hp).1 (z ▸ List.mem_of_getElem? e')
    exact RO.latz (LatZ.writeH hp) r (fun vs e => by rw [upd_ne hne]; exact e) (r.at_ i o a e e')
  · obtain ⟨n, us, e⟩ := r.hd a ha
    by_cases q : a = p
    · subst q
      exact ⟨n, vs, upd_same⟩
    · exact ⟨n, us, by rw [upd_ne q]; exact e⟩
theorem LatZ.ofHide {m' : Ms} {p : Addr} (L : Lat m H m' H') (h : H p = none) : LatZ m H (m'.hide p) H' := ⟨L.pre, fun a q => by
    rcases List.mem_cons.mp q with rfl | q
    · exact .inr h
    · exact .inl (L.hid ▸ q), L.new, fun a o e n => L.keep a o e n.1⟩
theorem Lat.unhide {m1 m' : Ms} {H1 : Hp} {p : Addr} (L : Lat m1 H1 m H) (L' : Lat (m.hide p) H m' H') : Lat m1 H1 ⟨m'.vis, m.hid⟩ H' := L.trans ⟨L'.pre, rfl, L'.new, L'.keep⟩
theorem Ms.rehide {m' : Ms} {p : Addr} (L : Lat (m.hide p) H m' H') : m' = Ms.hide ⟨m'.vis, m.hid⟩ p := by
  have := L.hid
  cases m'
  simp_all
theorem Lat.bump {m1 : Ms} {H1 : Hp} {p : Addr} {o : HO} (L : Lat m1 H1 m H) (h : H1 p = none) : Lat m1 H1 m (upd H p o) := ⟨L.pre, L.hid, L.new, fun a o e n => by rw [upd_ne (ne_of_none e h)]; exact L.keep a o e n⟩
mutual
theorem RD.show {p : Addr} : ∀ (d : D) (v : V), RD K (m.hide p) H d v → RD K m H d v
  | .non, v, h => by simpa only [RD] using h
  | .bl b, v, h => by simpa only [RD] using h
  | .int i, v, h => by simpa only [RD] using h
  | .str s, v, h => by simpa only [RD] using h
  | .tup l, v, h => by
    simp only [RD] at h ⊢
    obtain ⟨a, vs, e, q, h⟩ := h
    exact ⟨a, vs, e, q, RDs.show l vs h⟩
  | .lst l, v, h => by
    simp only [RD] at h ⊢
    obtain ⟨a, vs, e, q, n, h⟩ := h
    exact ⟨a, vs, e, q, ⟨n.1, fun q => n.2 (List.mem_cons_of_mem _ q)⟩, RDs.show l vs h⟩
  | .fl l, v, h => by
    simp only [RD] at h ⊢
    obtain ⟨a, vs, e, q, h⟩ := h
    refine ⟨a, vs, e, ?_, RDs.show l vs h⟩
    rcases q with ⟨q, n⟩ | q
    · exact .inl ⟨q, ⟨n.1, fun q => n.2 (List.mem_cons_of_mem _ q)⟩⟩
    · exact .inr q
  | .ref i, v, h => by simpa only [RD] using h
theorem RDs.show {p : Addr} : ∀ (ds : List D) (vs : List V), RDs K (m.hide p) H ds vs → RDs K m H ds vs
  | [], vs, h => by simpa only [RDs] using h
  | d :: ds, vs, h => by
    simp only [RDs] at h ⊢
    obtain ⟨v, rr, e, q, h⟩ := h
    exact ⟨v, rr, e, RD.show d v q, RDs.show ds rr h⟩
end
theorem RKV.show {κ : Type} {p : Addr} : ∀ (ds : List (κ × D)) (vs : List (κ × V)), RKV K (m.hide p) H ds vs → RKV K m H ds vs
  | [], vs, h => h
  | p :: ds, vs, h => by
    obtain ⟨v, rr, e, q, h⟩ := h
    exact ⟨v, rr, e, RD.show _ v q, RKV.show ds rr h⟩
theorem RS.show {p : Addr} (r : RS K (m.hide p) H st) : RS K m H st := by
  refine ⟨r.len, r.nd, fun i o a e e' => ?_, fun a ha => r.hd a (List.mem_cons_of_mem _ ha)⟩
  have q := r.at_ i o a e e'
  cases o with
  | lst l =>
    obtain ⟨vs, q, x⟩ := q
    exact ⟨vs, q, RDs.show _ _ x⟩
  | dk l =>
    obtain ⟨vs, q, x⟩ := q
    exact ⟨vs, q, RKV.show _ _ x⟩
  | dt l =>
    obtain ⟨vs, q, x⟩ := q
    exact ⟨vs, q, RKV.show _ _ x⟩
/-- what items says of a thing lies there -/
theorem items_at {d : D} {v : V} {l : List D} (r : RS K m H st) (x : RD K m H d v) (h : items st d = some l) :
    ∃ a vs, v = .ref a ∧ RDs K m H l vs ∧ ((SqT K H a vs ∧ d = .tup l) ∨ (SqL K H a vs ∧ listItems st d = some l)) := by
  cases d with
  | tup l' =>
    simp only [items, Option.some.injEq] at h
    subst h
    simp only [RD] at x
    obtain ⟨a, vs, e, q, y⟩ := x
    exact ⟨a, vs, e, y, .inl ⟨q, rfl⟩⟩
  | lst l' =>
    simp only [items, Option.some.injEq] at h
    subst h
    simp only [RD] at x
    obtain ⟨a, vs, e, q, _, y⟩ := x
    exact ⟨a, vs, e, y, .inr ⟨.of q, rfl⟩⟩
  | fl l' =>
    simp only [items, Option.some.injEq] at h
    subst h
    simp only [RD] at x
    obtain ⟨a, vs, e, q, y⟩ := x
    exact ⟨a, vs, e, y, .inr ⟨q.sq, rfl⟩⟩
  | ref i =>
    simp only [items] at h
    have h0 := h
    split at h
    · rename_i l' e
      cases h
      simp only [RD] at x
      obtain ⟨a, e1, e2⟩ := x
      obtain ⟨vs, q, y⟩ := r.at_ i _ a e e1
      exact ⟨a, vs, e2, y, .inr ⟨.of q, by simpa only [listItems, items] using h0⟩⟩
    · cases h
  | non => simp [items] at h
  | bl b => simp [items] at h
  | int i => simp [items] at h
  | str s => simp [items] at h
theorem listItems_at {d : D} {v : V} {l : List D} (r : RS K m H st) (x : RD K m H d v) (h : listItems st d = some l) : ∃ a vs, v = .ref a ∧ RDs K m H l vs ∧ SqL K H a vs := by
  have h' : items st d = some l := by
    cases d <;> simp_all [listItems]
  obtain ⟨a, vs, e, y, q⟩ := items_at r x h'
  refine ⟨a, vs, e, y, ?_⟩
  rcases q with ⟨_, rfl⟩ | ⟨q, _⟩
  · simp [listItems] at h
  · exact q
end
end Ev

set_option Elab.async false
set_option linter.all false
set_option maxRecDepth 100000
set_option autoImplicit false
/-! Ev, part D: each construct by itself. -/
namespace Ev
open PySem PySem.Spec PyProof.Rows L2
theorem line_eq : line = sizeLine := by rw [sizeLine_eq]; rfl
section
variable {α β : Type} {K : PySem.W.Frag} {xv : Nat → Value} {W : WX} {rel : Ms → Hp → α → β → Prop} {σ : L2.St} {m : Ms} {H : Hp} {st : Store}
theorem Post.ofO {γ : Type} {o : Option γ} {k : γ → R α} {Q : β → Hp → Prop} (h : Post K xv W rel σ m H (.ofO o k) Q) : ∃ a, o = some a ∧ Post K xv W rel σ m H (k a) Q := by
  cases o with
  | none => exact False.elim h
  | some a => exact ⟨a, rfl, h⟩
theorem Post.ite {p : Prop} [Decidable p] {r r' : R α} {Q : β → Hp → Prop} (h : Post K xv W rel σ m H (if p then r else r') Q) : (p ∧ Post K xv W rel σ m H r Q) ∨ (¬ p ∧ Post K xv W rel σ m H r' Q) := by
  by_cases q : p
  · rw [if_pos q] at h
    exact .inl ⟨q, h⟩
  · rw [if_neg q] at h
    exact .inr ⟨q, h⟩
theorem madeItems_at {d : D} {v : V} {l : List D} (r : RS K m H st) (x : RD K m H d v) (h : madeItems st d = some l) : ∃ a vs, v = .ref a ∧ RDs K m H l vs ∧ H a = some (.lst vs) := by
  cases d with
  | lst l' =>
    simp only [madeItems, Option.some.injEq] at h
    subst h
    simp only [RD] at x
    obtain ⟨a, vs, e, q, _, y⟩ := x
    exact ⟨a, vs, e, y, q⟩
  | ref i =>
    simp only [madeItems] at h
    split at h
    · rename_i l' e
      cases h
      simp only [RD] at x
      obtain ⟨a, e1, e2⟩ := x
      obtain ⟨vs, q, y⟩ := r.at_ i _ a e e1
      exact ⟨a, vs, e2, y, q⟩
    · cases h
  | tup l => simp [madeItems] at h
  | fl l => simp [madeItems] at h
  | non => simp [madeItems] at h
  | bl b => simp [madeItems] at h
  | int i => simp [madeItems] at h
  | str s => simp [madeItems] at h
theorem RD.newL {l : List D} {vs : List V} {p : Addr} (rs : RS K m H st) (h : RDs K m H l vs) (np : H p = none) : RD K m (upd H p (.lst vs)) (.lst l) (.ref p) := by
  simp only [RD]
  exact ⟨p, vs, rfl, upd_same, rs.notin np, RDs.lat (.alloc np) rs _ _ h⟩
theorem RD.newT {l : List D} {vs : List V} {p : Addr} (rs : RS K m H st) (h : RDs K m H l vs) (np : H p = none) : RD K m (upd H p (.tup vs)) (.tup l) (.ref p) := by
  simp only [RD]
  exact ⟨p, vs, rfl, .inl (.inl upd_same), RDs.lat (.alloc np) rs _ _ h⟩
end
/-- what is wanted of a result: a new list stands where nothing stood -/
def PostF (K : PySem.W.Frag) (xv : Nat → Value) (W : WX) (σ : L2.St) (m : Ms) (H : Hp) (r : R D) (Q : VK) : Prop := match r with
  | .ok (.lst ds) st' => ∀ m' H0 p vs, Lat m H m' H0 → RS K m' H0 st' → RDs K m' H0 ds vs → H0 p = none → Good K (upd H0 p (.lst vs)) → Q (.ref p) (upd H0 p (.lst vs))
  | r => Post K xv W (RD K) σ m H r Q
section
variable {K : PySem.W.Frag} {xv : Nat → Value} {W : WX} {σ : L2.St} {m : Ms} {H : Hp} {st : Store}
theorem Post.toF {r : R D} {Q : VK} (h : Post K xv W (RD K) σ m H r Q) : PostF K xv W σ m H r Q := by
  cases r with
  | ok d st' =>
    cases d with
    | lst ds => exact fun m' H0 p vs L rs x hp g => h m' _ _ (L.trans (.alloc hp)) (RD.newL rs x hp) (rs.alloc hp) g
    | _ => exact h
  | exc c st' => exact h
  | stuck => exact h
theorem R.bind_assoc {α β γ : Type} (r : R α) (k : α → Store → R β) (l : β → Store → R γ) : (r.bind k).bind l = r.bind fun a st => (k a st).bind l := by
  cases r <;> rfl
theorem Post.own {r : R D} {Q : VK} (h : Post K xv W (RD K) σ m H (r.bind ownD) Q) : PostF K xv W σ m H r Q := by
  cases r with
  | ok d st' =>
    cases d with
    | lst ds =>
      intro m' H0 p vs L rs x hp g
      refine h (m'.push p) _ _ (L.trans (.push hp _)) ?_ (rs.push hp ⟨vs, upd_same, RDs.lat (.push hp _) rs _ _ x⟩) g
      simp only [RD]
      exact ⟨p, by show (m'.vis ++ [p])[st'.length]? = some p; rw [rs.len, List.getElem?_append_right (Nat.le_refl _), Nat.sub_self]; rfl, rfl⟩
    | _ => exact False.elim h
  | exc c st' => exact h
  | stuck => exact h
theorem PostF.at_ {d : D} {v : V} {Q : VK} {m' : Ms} {H' : Hp} (hd : ∀ l, d ≠ .lst l) (h : PostF K xv W σ m H (.ok d st) Q) (L : Lat m H m' H') (x : RD K m' H' d v) (rs : RS K m' H' st) (g : Good K H') : Q v H' := by
  cases d with
  | lst l => exact absurd rfl (hd l)
  | _ => exact h m' H' v L x rs g
theorem PostF.here {d : D} {v : V} {Q : VK} (hd : ∀ l, d ≠ .lst l) (h : PostF K xv W σ m H (.ok d st) Q) (x : RD K m H d v) (rs : RS K m H st) (g : Good K H) : Q v H := h.at_ hd .refl x rs g
theorem PostF.ofO {γ : Type} {o : Option γ} {k : γ → R D} {Q : VK} (h : PostF K xv W σ m H (.ofO o k) Q) : ∃ a, o = some a ∧ PostF K xv W σ m H (k a) Q := by
  cases o with
  | none => exact False.elim h
  | some a => exact ⟨a, rfl, h⟩
end
section
variable {X : Cx} {xv : Nat → Value} {W : WX} {a b c e : Expr} {pos : Pos} {f g h : Env → Store → R D} {ft : Env → Store → R Bool} {fs : Env → Store → R (List D)}

/-! ### names and constants -/
theorem e_int {i : Int} {j : Nat} : PE X (.Constant (.int i) j pos) (tEv X.K xv W fun _ st => .ok (.int i) st) :=
  PE.use pe_int fun σ H Q ⟨m, env, st, re, rs, p⟩ gd => p.here (by simp only [RD]) rs gd
theorem e_bl {i : Bool} {j : Nat} : PE X (.Constant (.bool i) j pos) (tEv X.K xv W fun _ st => .ok (.bl i) st) :=
  PE.use pe_bl fun σ H Q ⟨m, env, st, re, rs, p⟩ gd => p.here (by simp only [RD]) rs gd
theorem e_non {j : Nat} : PE X (.Constant .none j pos) (tEv X.K xv W fun _ st => .ok .non st) :=
  PE.use pe_non fun σ H Q ⟨m, env, st, re, rs, p⟩ gd => p.here (by simp only [RD]) rs gd
theorem e_str {i : Str} {j : Nat} : PE X (.Constant (.str i) j pos) (tEv X.K xv W fun _ st => .ok (.str i) st) :=
  PE.use pe_str fun σ H Q ⟨m, env, st, re, rs, p⟩ gd => p.here (by simp only [RD]) rs gd
theorem env_at {m : Ms} {H : Hp} {env : Env} {σ : L2.St} {i : Nat} {d : D} {K : PySem.W.Frag} (re : RE K m H env σ) (e : env[i]?.join = some d) : ∃ v, σ[i]? = some (some v) ∧ RD K m H d v := by
  refine re.at_ i d ?_
  cases h : env[i]? with
  | none =>
    rw [h] at e
    cases e
  | some o =>
    rw [h] at e
    exact congrArg some e
theorem e_var {i : Nat} {x : Str} (hN : X.N[i]? = some x) (hv : Vis X.env.scope x) (hd : (x == ("__debug__" : Str)) = false) (hcd : (x == ("__classdict__" : Str)) = false) :
    PE X (.Name x pos) (tEv X.K xv W fun env st => .ofO env[i]?.join fun d => .ok d st) :=
  PE.use (pe_var hN hv hd hcd) fun σ H Q ⟨m, env, st, re, rs, p⟩ => by
    obtain ⟨d, e, p⟩ := p.ofO
    obtain ⟨v, q, x⟩ := env_at re e
    exact ⟨v, q, fun gd => p.here x rs gd⟩
theorem e_glob {i : Nat} {x : Str} {gl : List D} (hg : Gl X x) (hm : ∀ d, gl[i]? = some d → ∃ v u, X.mg x = some u ∧ RelV v u ∧ ∀ m H, RD X.K m H d v) (hd : (x == ("__debug__" : Str)) = false) :
    PE X (.Name x pos) (tEv X.K xv W fun _ st => .ofO gl[i]? fun d => .ok d st) := by
  cases hi : gl[i]? with
  | none => exact ⟨fun pins s σ H Q I ⟨m, env, st, re, rs, p⟩ => False.elim p⟩
  | some d =>
    obtain ⟨v, u, e, r, hr⟩ := hm d hi
    exact PE.use (pe_glob hg e r hd) fun σ H Q ⟨m, env, st, re, rs, p⟩ gd => Post.here (a := d) (b := v) p (hr m H) rs gd

/-! ### two operands -/
/-- an operation on values, said by the evaluator -/
def OpE (X : Cx) (xv : Nat → Value) (W : WX) (F : Value → Value → Sem Value) (k : D → D → Store → R D) : Prop :=
  ∃ r : R2, OpR X F r ∧ ∀ (m : Ms) (H : Hp) (st : Store) (x y : D) (v u : V) (σ : L2.St) (Q : VK), Good X.K H → RS X.K m H st → RD X.K m H x v → RD X.K m H y u → PostF X.K xv W σ m H (k x y st) Q → r v u H (fun z H1 => Good X.K H1 → Q z H1)
theorem read2 {k : D → D → Store → R D} {σ : L2.St} {H : Hp} {R' : V → V → Hp → Prop} {Q : VK} {m : Ms} {env : Env} {st : Store}
    (re : RE X.K m H env σ) (rs : RS X.K m H st) (p : Post X.K xv W (RD X.K) σ m H ((f env st).bind fun x st => (g env st).bind fun y st => k x y st) Q)
    (fin : ∀ (m : Ms) (H : Hp) (st : Store) (x y : D) (v u : V), Good X.K H → RE X.K m H env σ → RS X.K m H st → RD X.K m H x v → RD X.K m H y u → Post X.K xv W (RD X.K) σ m H (k x y st) Q → R' v u H) :
    tEv X.K xv W f σ H fun v H1 => tEv X.K xv W g σ H1 fun u H2 => R' v u H2 := by
  refine ⟨m, env, st, re, rs, (p.bind (rel := RD X.K)).mono fun v H1 ⟨x, m1, st1, L1, x1, rs1, g1, p1⟩ => ?_⟩
  refine ⟨m1, env, st1, re.lat L1 rs, rs1, (p1.bind (rel := RD X.K)).mono fun u H2 ⟨y, m2, st2, L2, y2, rs2, g2, p2⟩ => ?_⟩
  exact fin m2 H2 st2 x y v u g2 ((re.lat L1 rs).lat L2 rs1) rs2 (x1.lat L2 rs1 _ _) y2 p2
theorem e_op {op : Operator} {k : D → D → Store → R D} (o : OpE X xv W (binaryOp op) k) (ha : PE X a (tEv X.K xv W f)) (hb : PE X b (tEv X.K xv W g)) :
    PE X (.BinOp a op b pos) (tEv X.K xv W fun env st => (f env st).bind fun x st => (g env st).bind fun y st => k x y st) := by
  obtain ⟨r, hr, w⟩ := o
  refine PE.use (pe_op hr ha hb) fun σ H Q ⟨m, env, st, re, rs, p⟩ => ?_
  exact read2 re rs p fun m H st x y v u gd re rs hx hy p => w m H st x y v u σ Q gd rs hx hy p.toF
/-- the new list comes into the store -/
theorem e_opOwn {op : Operator} {k : D → D → Store → R D} (o : OpE X xv W (binaryOp op) k) (ha : PE X a (tEv X.K xv W f)) (hb : PE X b (tEv X.K xv W g)) :
    PE X (.BinOp a op b pos) (tEv X.K xv W fun env st => ((f env st).bind fun x st => (g env st).bind fun y st => k x y st).bind ownD) := by
  obtain ⟨r, hr, w⟩ := o
  refine PE.use (pe_op hr ha hb) fun σ H Q ⟨m, env, st, re, rs, p⟩ => ?_
  simp only [R.bind_assoc] at p
  exact read2 (k := fun x y st => (k x y st).bind ownD) re rs p fun m H st x y v u gd re rs hx hy p => w m H st x y v u σ Q gd rs hx hy p.own
end
end Ev

set_option Elab.async false
set_option linter.all false
set_option maxRecDepth 100000
set_option autoImplicit false
/-! Ev, part E: the operators. -/
namespace Ev
open PySem PySem.Spec PyProof.Rows L2

/-! ### tuple * int, whatever the number -/
section
variable {X : Cx}
theorem tuple_mul_same (l : Addr) (items : Array Value) (n : Nat) (dd : Option Addr) (sl : Array (Option Value)) (x : Int) (u : Tok) (c0 : (decide (x < -(2 ^ 63)) || decide (x ≥ 2 ^ 63)) = false) (c1 : (items.isEmpty || x == 1) = true) :
    Meets (Builtin.«tuple.__mul__» ⟨[.ref l, .int x u], []⟩) (fun _ R s => s.heap.get? l = some { cls := .type "tuple", dict := dd, data := .seq items n, slots := sl } ∧ R (.ok (.ret (Value.ref l))) s) :=
  .of_wp fun prog w A R s h => by
    obtain ⟨hp, g, d, tk, os⟩ := s
    obtain ⟨hl, h⟩ := h
    have f1 := AutoSeq1.idx_int
    wp_walk using wpAny_loadPart' hl
    repeat (first
      | (refine wpAny_ite_false (decide_eq_false (by rw [c0]; exact Bool.false_ne_true)) ?_; wp_walk using wpAny_loadPart' hl)
      | (refine wpAny_ite_true c1 ?_; wp_walk using wpAny_loadPart' hl))
    exact ⟨_, rfl, h⟩

theorem tuple_mul_none (l : Addr) (items : Array Value) (n : Nat) (dd : Option Addr) (sl : Array (Option Value)) (x : Int) (u : Tok) (c0 : (decide (x < -(2 ^ 63)) || decide (x ≥ 2 ^ 63)) = false) (c1 : (items.isEmpty || x == 1) = false)
    (c2 : (decide (x ≤ 0) || items.isEmpty) = true) :
    Meets (Builtin.«tuple.__mul__» ⟨[.ref l, .int x u], []⟩) (fun _ R s => s.heap.get? l = some { cls := .type "tuple", dict := dd, data := .seq items n, slots := sl } ∧
      R (.ok (.ret (Value.ref s.heap.objs.size))) { s with heap := s.heap.push { cls := Value.type "tuple", data := Data.seq #[] }, toks := s.toks }) :=
  .of_wp fun prog w A R s h => by
    obtain ⟨hp, g, d, tk, os⟩ := s
    obtain ⟨hl, h⟩ := h
    have f1 := AutoSeq1.idx_int
    wp_walk using wpAny_loadPart' hl
    repeat (first
      | (refine wpAny_ite_false (decide_eq_false (by rw [c0]; exact Bool.false_ne_true)) ?_; wp_walk using wpAny_loadPart' hl)
      | (refine wpAny_ite_false (decide_eq_false (by rw [c1]; exact Bool.false_ne_true)) ?_; wp_walk using wpAny_loadPart' hl)
      | (refine wpAny_ite_true (decide_eq_true c2) ?_; wp_walk using wpAny_loadPart' hl))
    exact ⟨_, rfl, h⟩
/-- so many times, whatever the number -/
def rRepE (K : PySem.W.Frag) : R2 := fun x y H Q => ∃ l k xs, x = .ref l ∧ y = .int k ∧ SqT K H l xs ∧ -(2 ^ 40) ≤ k ∧ k ≤ 2 ^ 40 ∧ xs.length * k.toNat ≤ 1000000 ∧
  (xs = [] ∨ k = 1 → Q (.ref l) H) ∧ (xs ≠ [] → k ≠ 1 → ∀ p, H p = none → Q (.ref p) (upd H p (.tup (List.replicate k.toNat xs).flatten)))
theorem flat_len {α : Type} (xs : List α) : ∀ n : Nat, (List.replicate n xs).flatten.length = xs.length * n
  | 0 => by simp
  | n + 1 => by
    rw [List.replicate_succ, List.flatten_cons, List.length_append, flat_len xs n, Nat.mul_succ]
    omega
theorem op_repE : OpR X (binaryOp .Mult) (rRepE X.K) := by
  intro pins s σ H x y v u Q I rx ry h
  obtain ⟨l, k, xs, rfl, rfl, hT, h1, h2, hz, qa, qb⟩ := h
  cases rx
  obtain ⟨t, rfl⟩ := ry
  obtain ⟨its, r, ⟨⟨cls, dd, data, sl⟩, ho, hc, n, hd⟩, hs⟩ := I.tuple hT
  simp only at hc hd
  subst hc hd
  have hle : its.length = xs.length := r.length.symm
  have hsz0 : its.toArray.size = xs.length := by rw [List.size_toArray, hle]
  have c0 : (decide (k < -(2 ^ 63)) || decide (k ≥ 2 ^ 63)) = false := by
    rw [decide_eq_false (by omega), decide_eq_false (by omega)]
    rfl
  have road : ∀ {S : PySem.Spec}, Meets (Builtin.«tuple.__mul__» ⟨[.ref l, .int k t], []⟩) S → S X.A (wants (EP X pins σ Q) X.xe) s → wpAny (model X.prog X.w) X.A (binaryOp .Mult (.ref l) (.int k t)) (EP X pins σ Q) X.xe s := fun {S} mt hS =>
    wpAny_binaryOp_repeat_ref (T := "tuple") (U := "int") (by decide) ⟨_, ho, rfl⟩ (fun s' => typeIs_int s' k t) noFill_tuple_mul F.fills_int_mul F.slot_int_rmul repeat_tuple F.slot_int_index.lookup
      (call_meets F.slot_int_rmul (typeIs_int s k t) F.entry_int_rmul (F.args_int_rmul_2 _ _) (int_rmul_tuple k t l its.toArray n dd sl)
        ⟨ho, rfl, ⟨_, ho, rfl⟩, call_meets F.slot_tuple_mul ⟨_, ho, rfl⟩ F.entry_tuple_mul (F.args_tuple_mul_2 _ _) mt hS⟩)
  have hemp : its.toArray.isEmpty = xs.isEmpty := by
    cases r with
    | nil => rfl
    | cons _ _ => rfl
  by_cases hx : xs = [] ∨ k = 1
  · have c1 : (its.toArray.isEmpty || k == 1) = true := by
      rw [hemp]
      rcases hx with rfl | rfl <;> simp
    exact road (tuple_mul_same l its.toArray n dd sl k t c0 c1) ⟨ho, .ref l, H, I, rfl, qa hx⟩
  · obtain ⟨hne, hk1⟩ := not_or.mp hx
    have hi : its.toArray.isEmpty = false := by
      rw [hemp]
      cases xs with
      | nil => exact absurd rfl hne
      | cons _ _ => rfl
    have c1 : (its.toArray.isEmpty || k == 1) = false := by
      rw [hi, Bool.false_or]
      exact beq_eq_false_iff_ne.mpr hk1
    have q := qb hne hk1
    by_cases hk : k ≤ 0
    · have c2 : (decide (k ≤ 0) || its.toArray.isEmpty) = true := by rw [decide_eq_true hk, Bool.true_or]
      have e0 : k.toNat = 0 := by omega
      rw [e0] at q
      refine road (tuple_mul_none l its.toArray n dd sl k t c0 c1 c2) ⟨ho, ?_⟩
      refine ⟨.ref s.heap.objs.size, _, I.laid (t' := s.toks) (o := .tup []) (fun b ob q => Heap.get?_push_of_some _ q) (Nat.le_refl _) ?_, rfl, q _ (I.hok.fresh (Nat.le_refl _))⟩
      exact ⟨Nat.zero_le _, [], .nil, IsTup.new _ _⟩
    · have hm : ((its.toArray.size : Nat) : Int) * k ≤ 1000000 := by
        rw [hsz0]
        have e : k = ((k.toNat : Nat) : Int) := by omega
        rw [e, ← Int.natCast_mul]
        omega
      have flen : (List.replicate k.toNat its).flatten.length ≤ sizeLine := by
        rw [flat_len, hle, sizeLine_eq]
        omega
      have c2 : (decide (k ≤ 0) || its.toArray.isEmpty) = false := by
        rw [hi, Bool.or_false]
        exact decide_eq_false hk
      have c4 : Builtin.Tuple.tupleTooMany (((its.toArray.size : Nat) : Int) * k) = false := by
        unfold Builtin.Tuple.tupleTooMany
        rw [sizeLine_eq]
        exact decide_eq_false (by omega)
      refine road (tuple_mulW l its.toArray n dd sl k t c0 c1 c2 (by omega) c4 (by rw [size_rep, List.size_toArray]; exact flen)) ⟨ho, ?_⟩
      rw [size_rep]
      refine ⟨.ref s.heap.objs.size, _, I.laid (t' := s.toks) (o := .tup (List.replicate k.toNat xs).flatten) (fun b ob q => Heap.get?_push_of_some _ q) (Nat.le_refl _) ?_, rfl, q _ (I.hok.fresh (Nat.le_refl _))⟩
      exact ⟨by rw [flat_len, sizeLine_eq]; omega, _, r.rep k.toNat, IsTup.new _ _⟩
end

section
variable {X : Cx} {xv : Nat → Value} {W : WX}
/-- two rules for one operation, by what the evaluator meets -/
theorem opE_add : OpE X xv W (binaryOp .Add) (binD .add) := by
  refine ⟨_, op_add.or (op_catA.or (op_cat.or op_add_str)), fun m H st x y v u σ Q gd rs hx hy p => ?_⟩
  have lists : ∀ {l : List D}, madeItems st x = some l → PostF X.K xv W σ m H (binLst .add l y st) Q → rCat v u H (fun z H1 => Good X.K H1 → Q z H1) := fun {l} hl p => by
    obtain ⟨a, vs, rfl, q1, q2⟩ := madeItems_at rs hx hl
    have p' : PostF X.K xv W σ m H (.ofO (madeItems st y) fun r => .ofO (cat .add l r) fun z => .ok (.lst z) st) Q := by
      cases y <;> first | exact p | exact False.elim p
    obtain ⟨r, hr, p⟩ := p'.ofO
    obtain ⟨b, us, rfl, q3, q4⟩ := madeItems_at rs hy hr
    obtain ⟨z, hz, p⟩ := p.ofO
    simp only [cat] at hz
    split at hz
    · cases hz
      rename_i hlen
      rw [q1.length, q3.length, line_eq] at hlen
      exact ⟨a, b, vs, us, rfl, rfl, q2, q4, hlen, fun c hc g => p m H c _ .refl rs (q1.append q3) hc g⟩
    · cases hz
  cases x with
  | int i =>
    cases y with
    | int j =>
      dsimp only [binD, binInt] at p
      obtain ⟨k, hk, p⟩ := PostF.ofO p
      cases hk
      simp only [RD] at hx hy
      exact .inl ⟨i, j, hx, hy, fun g => PostF.here (fun _ z => by cases z) p (by simp only [RD]) rs g⟩
    | _ => exact False.elim p
  | tup l =>
    cases y with
    | tup r =>
      dsimp only [binD, binTup, binStr, binLst] at p
      obtain ⟨z, hz, p⟩ := PostF.ofO p
      simp only [cat] at hz
      split at hz
      · cases hz
        rename_i hlen
        have hx' := hx
        have hy' := hy
        simp only [RD] at hx hy
        obtain ⟨a, vs, rfl, q1, q2⟩ := hx
        obtain ⟨b, us, rfl, q3, q4⟩ := hy
        rw [q2.length, q4.length, line_eq] at hlen
        refine .inr (.inl ⟨a, b, vs, us, rfl, rfl, q1, q3, hlen, fun e g => ?_, fun e e2 g => ?_, fun e e2 c hc g => PostF.at_ (fun _ z => by cases z) p (.alloc hc) (RD.newT rs (q2.append q4) hc) (rs.alloc hc) g⟩)
        · subst e
          have : l = [] := List.eq_nil_of_length_eq_zero q2.length
          subst this
          exact PostF.here (fun _ z => by cases z) p hy' rs g
        · subst e2
          have : r = [] := List.eq_nil_of_length_eq_zero q4.length
          subst this
          rw [List.append_nil] at p
          exact PostF.here (fun _ z => by cases z) p hx' rs g
      · cases hz
    | int k =>
      dsimp only [binD, binTup, binStr, binLst] at p
      obtain ⟨z, hz, p⟩ := PostF.ofO p
      cases hz
    | _ => exact False.elim p
  | str s =>
    cases y with
    | str t =>
      dsimp only [binD, binTup, binStr, binLst] at p
      obtain ⟨z, hz, p⟩ := PostF.ofO p
      simp only [catS] at hz
      split at hz
      · cases hz
        rename_i hlen
        rw [line_eq] at hlen
        simp only [RD] at hx hy
        exact .inr (.inr (.inr ⟨s, t, hx, hy, hlen, fun g => PostF.here (fun _ z => by cases z) p (by simp only [RD]) rs g⟩))
      · cases hz
    | _ => exact False.elim p
  | lst l => exact .inr (.inr (.inl (lists (l := l) rfl (by dsimp only [binD] at p; obtain ⟨l', e, p⟩ := PostF.ofO p; cases e; exact p))))
  | ref i =>
    dsimp only [binD] at p
    obtain ⟨l', e, p⟩ := PostF.ofO p
    exact .inr (.inr (.inl (lists e p)))
  | fl l => exact False.elim p
  | non => exact False.elim p
  | bl b => exact False.elim p
theorem small_cmul {i : Int} (h : small i = true) : -(2 ^ 64) < i ∧ i < 2 ^ 64 := by
  simp only [small, Bool.and_eq_true, decide_eq_true_eq] at h
  exact h
theorem opE_mul : OpE X xv W (binaryOp .Mult) (binD .mul) := by
  refine ⟨_, op_mul.or (op_mulW.or (op_repE.or op_rep)), fun m H st x y v u σ Q gd rs hx hy p => ?_⟩
  have lists : ∀ {l : List D}, madeItems st x = some l → PostF X.K xv W σ m H (binLst .mul l y st) Q → rRep v u H (fun z H1 => Good X.K H1 → Q z H1) := fun {l} hl p => by
    obtain ⟨a, vs, rfl, q1, q2⟩ := madeItems_at rs hx hl
    cases y with
    | int k =>
      dsimp only [binD, binTup, binStr, binLst] at p
      obtain ⟨z, hz, p⟩ := PostF.ofO p
      simp only [binL] at hz
      split at hz
      · cases hz
        rename_i hk
        simp only [RD] at hy
        obtain ⟨h1, h2, h3⟩ := hk
        rw [q1.length, line_eq] at h3
        exact ⟨a, k, vs, rfl, hy, q2, by omega, by omega, h3, fun c hc g => p m H c _ .refl rs (q1.rep k.toNat) hc g⟩
      · cases hz
    | _ =>
      dsimp only [binLst] at p
      obtain ⟨r, hr, p⟩ := PostF.ofO p
      obtain ⟨z, hz, p⟩ := PostF.ofO p
      cases hz
  cases x with
  | int i =>
    cases y with
    | int j =>
      dsimp only [binD, binInt] at p
      obtain ⟨k, hk, p⟩ := PostF.ofO p
      simp only [binI] at hk
      split at hk
      · cases hk
        rename_i hc
        simp only [Bool.or_eq_true, decide_eq_true_eq] at hc
        simp only [RD] at hx hy
        have fin : Good X.K H → Q (.int (i * j)) H := fun g => PostF.here (fun _ z => by cases z) p (by simp only [RD]) rs g
        rcases hc with (hc | hc) | hc
        · exact .inl ⟨i, j, hx, hy, .inl (small_cmul hc), fin⟩
        · exact .inl ⟨i, j, hx, hy, .inr (small_cmul hc), fin⟩
        · exact .inr (.inl ⟨i, j, hx, hy, hc, fin⟩)
      · cases hk
    | _ => exact False.elim p
  | tup l =>
    cases y with
    | tup r =>
      dsimp only [binD, binTup, binStr, binLst] at p
      obtain ⟨z, hz, p⟩ := PostF.ofO p
      cases hz
    | int k =>
      dsimp only [binD, binTup, binStr, binLst] at p
      obtain ⟨z, hz, p⟩ := PostF.ofO p
      simp only [binT] at hz
      split at hz
      · cases hz
        rename_i hk
        obtain ⟨h1, h2, h3⟩ := hk
        have hx' := hx
        simp only [RD] at hx hy
        obtain ⟨a, vs, rfl, q1, q2⟩ := hx
        rw [q2.length] at h3
        refine .inr (.inr (.inl ⟨a, k, vs, rfl, hy, q1, h1, h2, h3, fun e g => ?_, fun e e2 c hc g => PostF.at_ (fun _ z => by cases z) p (.alloc hc) (RD.newT rs (q2.rep k.toNat) hc) (rs.alloc hc) g⟩))
        have e' : rep l k = l := by
          rcases e with e | e
          · subst e
            have : l = [] := List.eq_nil_of_length_eq_zero q2.length
            subst this
            unfold rep
            generalize k.toNat = n
            induction n with
            | zero => rfl
            | succ n ih => rw [List.replicate_succ, List.flatten_cons, ih]; rfl
          · subst e
            unfold rep
            simp
        rw [e'] at p
        exact PostF.here (fun _ z => by cases z) p hx' rs g
      · cases hz
    | _ => exact False.elim p
  | str s =>
    cases y with
    | str t =>
      dsimp only [binD, binTup, binStr, binLst] at p
      obtain ⟨z, hz, p⟩ := PostF.ofO p
      cases hz
    | _ => exact False.elim p
  | lst l => exact .inr (.inr (.inr (lists (l := l) rfl (by dsimp only [binD] at p; obtain ⟨l', e, p⟩ := PostF.ofO p; cases e; exact p))))
  | ref i =>
    dsimp only [binD] at p
    obtain ⟨l', e, p⟩ := PostF.ofO p
    exact .inr (.inr (.inr (lists e p)))
  | fl l => exact False.elim p
  | non => exact False.elim p
  | bl b => exact False.elim p
/-- whole numbers alone -/
theorem opE_int {op : Operator} {o : BO} (hT : ∀ l y st, binTup o l y st = .stuck) (hS : ∀ l y st, binStr o l y st = .stuck) (hL : ∀ l y st, binLst o l y st = .stuck) {r : R2} (hr : OpR X (binaryOp op) r)
    (w : ∀ (i j k : Int) (H : Hp) (Q : VK), binI o i j = some k → Q (.int k) H → r (.int i) (.int j) H Q) : OpE X xv W (binaryOp op) (binD o) := by
  refine ⟨r, hr, fun m H st x y v u σ Q gd rs hx hy p => ?_⟩
  cases x with
  | int i =>
    cases y with
    | int j =>
      dsimp only [binD, binInt] at p
      obtain ⟨k, hk, p⟩ := PostF.ofO p
      simp only [RD] at hx hy
      subst hx hy
      exact w i j k H _ hk fun g => PostF.here (fun _ z => by cases z) p (by simp only [RD]) rs g
    | _ => exact False.elim p
  | tup l =>
    rw [show binD o (.tup l) y st = binTup o l y st from rfl, hT l y st] at p
    exact False.elim p
  | str s =>
    rw [show binD o (.str s) y st = binStr o s y st from rfl, hS] at p
    exact False.elim p
  | lst l =>
    rw [show binD o (.lst l) y st = binLst o l y st from rfl, hL] at p
    exact False.elim p
  | ref i =>
    dsimp only [binD] at p
    obtain ⟨l', e, p⟩ := PostF.ofO p
    rw [hL] at p
    exact False.elim p
  | fl l => exact False.elim p
  | non => exact False.elim p
  | bl b => exact False.elim p
theorem noT {o : BO} (h1 : ∀ l r, cat o l r = none) (h2 : ∀ l r, binT o l r = none) (l : List D) (y : D) (st : Store) : binTup o l y st = .stuck := by
  cases y <;> simp [binTup, h1, h2, R.ofO]
theorem noS {o : BO} (h1 : ∀ l r, catS o l r = none) (l : Str) (y : D) (st : Store) : binStr o l y st = .stuck := by
  cases y <;> simp [binStr, h1, R.ofO]
theorem noL {o : BO} (h1 : ∀ l r, cat o l r = none) (h2 : ∀ l r, binL o l r = none) (l : List D) (y : D) (st : Store) : binLst o l y st = .stuck := by
  cases y <;> simp [binLst, h1, h2, R.ofO, madeItems]
  split <;> simp
theorem opE_sub : OpE X xv W (binaryOp .Sub) (binD .sub) :=
  opE_int (noT (fun _ _ => rfl) fun _ _ => rfl) (noS fun _ _ => rfl) (noL (fun _ _ => rfl) fun _ _ => rfl) op_sub fun i j k H Q e q => by
    cases e
    exact ⟨i, j, rfl, rfl, q⟩
theorem opE_pow : OpE X xv W (binaryOp .Pow) (binD .pow) :=
  opE_int (noT (fun _ _ => rfl) fun _ _ => rfl) (noS fun _ _ => rfl) (noL (fun _ _ => rfl) fun _ _ => rfl) op_pow fun i j k H Q e q => by
    simp only [binI] at e
    split at e
    · cases e
      rename_i hc
      exact ⟨i, j, rfl, rfl, hc, q⟩
    · cases e
theorem opE_mod : OpE X xv W (binaryOp .Mod) (binD .mod) :=
  opE_int (noT (fun _ _ => rfl) fun _ _ => rfl) (noS fun _ _ => rfl) (noL (fun _ _ => rfl) fun _ _ => rfl) (op_mod.or op_modN) fun i j k H Q e q => by
    simp only [binI] at e
    split at e
    · cases e
      rename_i hc
      exact .inl ⟨i, j, rfl, rfl, hc, q⟩
    · split at e
      · cases e
        rename_i hc
        exact .inr ⟨i, j, rfl, rfl, by omega, q⟩
      · cases e
theorem opE_fdiv : OpE X xv W (binaryOp .FloorDiv) (binD .fdiv) :=
  opE_int (noT (fun _ _ => rfl) fun _ _ => rfl) (noS fun _ _ => rfl) (noL (fun _ _ => rfl) fun _ _ => rfl) (op_fdivW.or op_fdivN) fun i j k H Q e q => by
    simp only [binI] at e
    split at e
    · rename_i h0
      split at e
      · cases e
        rename_i hc
        exact .inl ⟨i, j, rfl, rfl, ⟨h0, hc⟩, q⟩
      · cases e
    · split at e
      · cases e
        rename_i hc
        exact .inr ⟨i, j, rfl, rfl, ⟨by omega, hc.2⟩, q⟩
      · cases e
end
end Ev

set_option Elab.async false
set_option linter.all false
set_option maxRecDepth 100000
set_option autoImplicit false
/-! Ev, part F: comparisons, tests. -/
namespace Ev
open PySem PySem.Spec PyProof.Rows L2

/-! ### data -/
mutual
theorem pd_lay : ∀ (n : Nat) (d : D) (p : PyData), pd n d = some p → p.canLay0 = true ∧ p.depth ≤ n
  | n, .non, p, h => by
    simp only [pd, Option.some.injEq] at h
    subst h
    exact ⟨by simp only [PyData.canLay0], by simp [PyData.depth]⟩
  | n, .bl b, p, h => by
    simp only [pd, Option.some.injEq] at h
    subst h
    exact ⟨by simp only [PyData.canLay0], by simp [PyData.depth]⟩
  | n, .int b, p, h => by
    simp only [pd, Option.some.injEq] at h
    subst h
    exact ⟨by simp only [PyData.canLay0], by simp [PyData.depth]⟩
  | n, .str s, p, h => by
    simp only [pd] at h
    split at h
    · rename_i hc
      cases h
      exact ⟨hc.2, by simp [PyData.depth]⟩
    · cases h
  | 0, .tup l, p, h => by simp [pd] at h
  | 0, .lst l, p, h => by simp [pd] at h
  | 0, .fl l, p, h => by simp [pd] at h
  | 0, .ref l, p, h => by simp [pd] at h
  | n + 1, .ref l, p, h => by simp [pd] at h
  | n + 1, .tup l, p, h => by
    simp only [pd, Option.map_eq_some_iff] at h
    obtain ⟨q, h1, h2⟩ := h
    subst h2
    obtain ⟨a, b⟩ := pds_lay n l q h1
    exact ⟨by simp only [PyData.canLay0]; exact a, by simp only [PyData.depth]; omega⟩
  | n + 1, .lst l, p, h => by
    simp only [pd, Option.map_eq_some_iff] at h
    obtain ⟨q, h1, h2⟩ := h
    subst h2
    obtain ⟨a, b⟩ := pds_lay n l q h1
    exact ⟨by simp only [PyData.canLay0]; exact a, by simp only [PyData.depth]; omega⟩
  | n + 1, .fl l, p, h => by
    simp only [pd, Option.map_eq_some_iff] at h
    obtain ⟨q, h1, h2⟩ := h
    subst h2
    obtain ⟨a, b⟩ := pds_lay n l q h1
    exact ⟨by simp only [PyData.canLay0]; exact a, by simp only [PyData.depth]; omega⟩
theorem pds_lay : ∀ (n : Nat) (d : List D) (p : List PyData), pds n d = some p → PyData.canLayAll0 p = true ∧ PyData.depthAll p ≤ n
  | n, [], p, h => by
    simp only [pds, Option.some.injEq] at h
    subst h
    exact ⟨by simp only [PyData.canLayAll0], by simp [PyData.depthAll]⟩
  | n, d :: ds, p, h => by
    simp only [pds] at h
    split at h
    · rename_i q qs e1 e2
      cases h
      obtain ⟨a, b⟩ := pd_lay n d q e1
      obtain ⟨a', b'⟩ := pds_lay n ds qs e2
      exact ⟨by simp only [PyData.canLayAll0, a, a', Bool.and_self], by simp only [PyData.depthAll]; omega⟩
    · cases h
end
theorem pd_shaped {d : D} {p : PyData} (h : pd 60 d = some p) : SeqAt.shaped p = true := by
  obtain ⟨a, b⟩ := pd_lay 60 d p h
  show (p.canLay0 && decide (p.depth ≤ 64)) = true
  rw [a, Bool.true_and]
  exact decide_eq_true (by omega)
section
variable {K : PySem.W.Frag} {m : Ms} {H : Hp} {st : Store}
mutual
theorem pd_at : ∀ (n : Nat) (d : D) (p : PyData) (v : V), pd n d = some p → RD K m H d v → Dp K H v p
  | n, .non, p, v, h, x => by
    simp only [pd, Option.some.injEq] at h
    simp only [RD] at x
    subst h x
    exact .non
  | n, .bl b, p, v, h, x => by
    simp only [pd, Option.some.injEq] at h
    simp only [RD] at x
    subst h x
    exact .bl b
  | n, .int b, p, v, h, x => by
    simp only [pd, Option.some.injEq] at h
    simp only [RD] at x
    subst h x
    exact .int b
  | n, .str s, p, v, h, x => by
    simp only [pd] at h
    simp only [RD] at x
    subst x
    split at h
    · cases h
      exact .str s
    · cases h
  | 0, .tup l, p, v, h, x => by simp [pd] at h
  | 0, .lst l, p, v, h, x => by simp [pd] at h
  | 0, .fl l, p, v, h, x => by simp [pd] at h
  | 0, .ref l, p, v, h, x => by simp [pd] at h
  | n + 1, .ref l, p, v, h, x => by simp [pd] at h
  | n + 1, .tup l, p, v, h, x => by
    simp only [pd, Option.map_eq_some_iff] at h
    obtain ⟨q, h1, h2⟩ := h
    subst h2
    simp only [RD] at x
    obtain ⟨a, vs, rfl, q1, q2⟩ := x
    exact .tup q1 (pds_at n l q vs h1 q2)
  | n + 1, .lst l, p, v, h, x => by
    simp only [pd, Option.map_eq_some_iff] at h
    obtain ⟨q, h1, h2⟩ := h
    subst h2
    simp only [RD] at x
    obtain ⟨a, vs, rfl, q1, _, q2⟩ := x
    exact .lst (.of q1) (pds_at n l q vs h1 q2)
  | n + 1, .fl l, p, v, h, x => by
    simp only [pd, Option.map_eq_some_iff] at h
    obtain ⟨q, h1, h2⟩ := h
    subst h2
    simp only [RD] at x
    obtain ⟨a, vs, rfl, q1, q2⟩ := x
    exact .lst q1.sq (pds_at n l q vs h1 q2)
theorem pds_at : ∀ (n : Nat) (d : List D) (p : List PyData) (v : List V), pds n d = some p → RDs K m H d v → DpAll K H v p
  | n, [], p, v, h, x => by
    simp only [pds, Option.some.injEq] at h
    simp only [RDs] at x
    subst h x
    exact .nil
  | n, d :: ds, p, v, h, x => by
    simp only [pds] at h
    simp only [RDs] at x
    obtain ⟨v1, r, rfl, x1, x2⟩ := x
    split at h
    · rename_i q qs e1 e2
      cases h
      exact .cons (pd_at n d q v1 e1 x1) (pds_at n ds qs r e2 x2)
    · cases h
end
/-- the outermost thing as its content -/
theorem flat_at {n : Nat} {d : D} {p : PyData} {v : V} (rs : RS K m H st) (h : pd n (flat1 st d) = some p) (x : RD K m H d v) : Dp K H v p := by
  cases d with
  | ref i =>
    simp only [flat1] at h
    split at h
    · rename_i l e
      simp only [RD] at x
      obtain ⟨a, e1, rfl⟩ := x
      obtain ⟨vs, q, y⟩ := rs.at_ i _ a e e1
      cases n with
      | zero => simp [pd] at h
      | succ n =>
        simp only [pd, Option.map_eq_some_iff] at h
        obtain ⟨q', h1, h2⟩ := h
        subst h2
        exact .lst (.of q) (pds_at n l q' vs h1 y)
    · cases n <;> simp [pd] at h
  | non => exact pd_at n _ p v h x
  | bl _ => exact pd_at n _ p v h x
  | int _ => exact pd_at n _ p v h x
  | str _ => exact pd_at n _ p v h x
  | tup _ => exact pd_at n _ p v h x
  | lst _ => exact pd_at n _ p v h x
  | fl _ => exact pd_at n _ p v h x
end

section
variable {X : Cx} {xv : Nat → Value} {W : WX} {a b c e : Expr} {pos : Pos} {f g h : Env → Store → R D} {ft gt : Env → Store → R Bool} {fs : Env → Store → R (List D)}
/-- a comparison, said by the evaluator -/
def CmpE (X : Cx) (op : CmpOp) (o : CO) : Prop :=
  ∃ r : R2, OpR X (compareOp op) r ∧ ∀ (m : Ms) (H : Hp) (st : Store) (x y : D) (v u : V) (k : Bool) (Q : VK), RS X.K m H st → RD X.K m H x v → RD X.K m H y u → cmpD o x y st = some k → Q (.bl k) H → r v u H Q
theorem cmpE_eq (hu : X.A.units + 64 < cLine) : CmpE X .Eq .eq := ⟨_, op_eqD hu, fun m H st x y v u k Q rs hx hy e q => by
  simp only [cmpD, deq] at e
  split at e
  · rename_i p p' e1 e2
    cases e
    exact ⟨p, p', flat_at rs e1 hx, flat_at rs e2 hy, pd_shaped e1, pd_shaped e2, q⟩
  · cases e⟩
theorem cmpE_ne (hu : X.A.units + 64 < cLine) : CmpE X .NotEq .ne := ⟨_, op_neD hu, fun m H st x y v u k Q rs hx hy e q => by
  simp only [cmpD, deq] at e
  split at e
  · rename_i p p' e1 e2
    cases e
    exact ⟨p, p', flat_at rs e1 hx, flat_at rs e2 hy, pd_shaped e1, pd_shaped e2, q⟩
  · cases e⟩
theorem non_iff {K : PySem.W.Frag} {m : Ms} {H : Hp} {x : D} {v : V} (hx : RD K m H x v) : decide (v = .non) = isNon x := by
  cases x <;> simp only [RD] at hx
  case non => subst hx; rfl
  case bl => subst hx; rfl
  case int => subst hx; rfl
  case str => subst hx; rfl
  case tup => obtain ⟨a, vs, rfl, _⟩ := hx; rfl
  case lst => obtain ⟨a, vs, rfl, _⟩ := hx; rfl
  case fl => obtain ⟨a, vs, rfl, _⟩ := hx; rfl
  case ref => obtain ⟨a, _, rfl⟩ := hx; rfl
theorem cmpE_is : CmpE X .Is .is := ⟨_, op_isN, fun m H st x y v u k Q rs hx hy e q => by
  cases y <;> simp only [cmpD] at e
  case non =>
    simp only [RD] at hy
    cases e
    exact ⟨hy, by rw [non_iff hx]; exact q⟩
  all_goals cases e⟩
theorem cmpE_isnot : CmpE X .IsNot .isnot := ⟨_, op_notN, fun m H st x y v u k Q rs hx hy e q => by
  cases y <;> simp only [cmpD] at e
  case non =>
    simp only [RD] at hy
    cases e
    exact ⟨hy, by rw [non_iff hx]; exact q⟩
  all_goals cases e⟩
theorem cmpE_int {op : CmpOp} {o : CO} {r : Int → Int → Bool} (hr : OpR X (compareOp op) (rI0 fun i j => .bl (r i j))) (h1 : ∀ x y st, cmpD o x y st = match x, y with | .int i, .int j => some (r i j) | _, _ => none) : CmpE X op o := ⟨_, hr, fun m H st x y v u k Q rs hx hy e q => by
  rw [h1] at e
  cases x <;> first | cases e | skip
  cases y <;> first | cases e | skip
  simp only [RD] at hx hy
  exact ⟨_, _, hx, hy, q⟩⟩
theorem cmpE_lt : CmpE X .Lt .lt := cmpE_int op_lt fun x y st => by cases x <;> cases y <;> rfl
theorem cmpE_le : CmpE X .LtE .le := cmpE_int op_le fun x y st => by cases x <;> cases y <;> rfl
theorem cmpE_gt : CmpE X .Gt .gt := cmpE_int op_gt fun x y st => by cases x <;> cases y <;> rfl
theorem cmpE_ge : CmpE X .GtE .ge := cmpE_int op_ge fun x y st => by cases x <;> cases y <;> rfl

theorem vD_at {K : PySem.W.Frag} {m : Ms} {H : Hp} {d : D} {v : V} (h : flatB d = true) (x : RD K m H d v) : v = vD d := by
  cases d <;> first | (simp only [RD] at x; exact x) | simp [flatB] at h
theorem vDs_at {K : PySem.W.Frag} {m : Ms} {H : Hp} : ∀ {l : List D} {vs : List V}, l.all flatB = true → RDs K m H l vs → vs = l.map vD
  | [], vs, _, x => by simpa only [RDs, List.map_nil] using x
  | d :: l, vs, h, x => by
    simp only [RDs] at x
    obtain ⟨v, r, rfl, q, x⟩ := x
    simp only [List.all_cons, Bool.and_eq_true] at h
    rw [vD_at h.1 q, vDs_at h.2 x]
    rfl
theorem lay_plain {d : D} {p : PyData} (h : pd 60 d = some p) : p.plain = true ∧ p.depth ≤ 63 := by
  obtain ⟨a, b⟩ := pd_lay 60 d p h
  exact ⟨PyData.plain_of_canLay0 _ a, by omega⟩
/-- x in a list or tuple of data -/
def rInDat (K : PySem.W.Frag) (neg : Bool) : R2 := fun x y H Q => ∃ d e ps, Dp K H x d ∧ Dp K H y e ∧ (e = .tuple ps ∨ e = .list ps) ∧ d.plain = true ∧ e.plain = true ∧ d.depth ≤ 63 ∧ Q (.bl (if neg then !(ps.any fun y => PyData.eqv y d) else ps.any fun y => PyData.eqv y d)) H
theorem op_inDat (hu : X.A.units + 64 < cLine) : OpR X (compareOp .In) (rInDat X.K false) := by
  intro pins s σ H x y v u Q I rx ry h
  obtain ⟨d, e, ps, hd, he, hp, pd1, pe1, dd, q⟩ := h
  obtain ⟨as, r1⟩ := Dp.reads I d x v hd rx
  obtain ⟨bs, r2⟩ := Dp.reads I e y u he ry
  have hz : X.A.units + 1 + min (PyData.depthAll ps) d.depth < cLine := by
    have := Nat.min_le_right (PyData.depthAll ps) d.depth
    omega
  rcases hp with rfl | rfl
  · exact SeqAt.in_tuple_data r2 r1 (by simpa [PyData.plain] using pe1) pd1 hz ⟨.bl _, H, I, rfl, q⟩
  · exact SeqAt.in_list_data r2 r1 (by simpa [PyData.plain] using pe1) pd1 hz ⟨.bl _, H, I, rfl, q⟩
theorem op_notInDat (hu : X.A.units + 64 < cLine) : OpR X (compareOp .NotIn) (rInDat X.K true) := by
  intro pins s σ H x y v u Q I rx ry h
  obtain ⟨d, e, ps, hd, he, hp, pd1, pe1, dd, q⟩ := h
  obtain ⟨as, r1⟩ := Dp.reads I d x v hd rx
  obtain ⟨bs, r2⟩ := Dp.reads I e y u he ry
  have hz : X.A.units + 1 + min (PyData.depthAll ps) d.depth < cLine := by
    have := Nat.min_le_right (PyData.depthAll ps) d.depth
    omega
  rcases hp with rfl | rfl
  · exact SeqAt.notIn_tuple_data r2 r1 (by simpa [PyData.plain] using pe1) pd1 hz ⟨.bl _, H, I, rfl, q⟩
  · exact SeqAt.notIn_list_data r2 r1 (by simpa [PyData.plain] using pe1) pd1 hz ⟨.bl _, H, I, rfl, q⟩
theorem OpR.or {op : Value → Value → Sem Value} {r r' : R2} (h : OpR X op r) (h' : OpR X op r') : OpR X op (fun x y H Q => r x y H Q ∨ r' x y H Q) :=
  fun pins s σ H x y v u Q I rx ry hw => hw.elim (h pins s σ H x y v u Q I rx ry) (h' pins s σ H x y v u Q I rx ry)
theorem inD_at {K : PySem.W.Frag} {m : Ms} {H : Hp} {st : Store} {x y : D} {v u : V} {k : Bool} (rs : RS K m H st) (hx : RD K m H x v) (hy : RD K m H y u) (e : inD st x y = some k) : (∃ p xs, u = .ref p ∧ (SqL K H p xs ∨ SqT K H p xs) ∧ flatV v = true ∧ xs.all flatV = true ∧ k = inV v xs) ∨
    ∃ d e ps, Dp K H v d ∧ Dp K H u e ∧ (e = .tuple ps ∨ e = .list ps) ∧ d.plain = true ∧ e.plain = true ∧ d.depth ≤ 63 ∧ k = ps.any fun y => PyData.eqv y d := by
  unfold inD at e
  split at e
  · rename_i l el
    split at e
    · rename_i hc
      simp only [Bool.and_eq_true] at hc
      obtain ⟨c1, c2, c3, c4⟩ := hc
      cases e
      obtain ⟨a, vs, rfl, r, q⟩ := items_at rs hy el
      have ev := vD_at c1 hx
      have evs := vDs_at c3 r
      refine .inl ⟨a, vs, rfl, ?_, by rw [ev]; exact c2, by rw [evs]; exact c4, by rw [ev, evs]⟩
      rcases q with ⟨q, _⟩ | ⟨q, _⟩
      · exact .inr q
      · exact .inl q
    · unfold inDat at e
      split at e
      · rename_i p ps e1 e2
        cases e
        obtain ⟨a1, b1⟩ := lay_plain e1
        obtain ⟨a2, b2⟩ := lay_plain e2
        exact .inr ⟨p, _, ps, flat_at rs e1 hx, flat_at rs e2 hy, .inl rfl, a1, a2, b1, rfl⟩
      · rename_i p ps e1 e2
        cases e
        obtain ⟨a1, b1⟩ := lay_plain e1
        obtain ⟨a2, b2⟩ := lay_plain e2
        exact .inr ⟨p, _, ps, flat_at rs e1 hx, flat_at rs e2 hy, .inr rfl, a1, a2, b1, rfl⟩
      · cases e
  · cases e
theorem cmpE_in (hu : X.A.units + 64 < cLine) : CmpE X .In .in_ := ⟨_, OpR.or op_in_seq (op_inDat hu), fun m H st x y v u k Q rs hx hy e q => by
  rcases inD_at rs hx hy e with ⟨p, xs, rfl, h1, h2, h3, rfl⟩ | ⟨d, e0, ps, h1, h2, h3, h4, h5, h6, rfl⟩
  · exact .inl ⟨p, xs, rfl, h1, h2, h3, q⟩
  · exact .inr ⟨d, e0, ps, h1, h2, h3, h4, h5, h6, q⟩⟩
theorem cmpE_notin (hu : X.A.units + 64 < cLine) : CmpE X .NotIn .notin := ⟨_, OpR.or op_notIn_seq (op_notInDat hu), fun m H st x y v u k Q rs hx hy e q => by
  have e : (inD st x y).map (!·) = some k := e
  rw [Option.map_eq_some_iff] at e
  obtain ⟨k', e', rfl⟩ := e
  rcases inD_at rs hx hy e' with ⟨p, xs, rfl, h1, h2, h3, rfl⟩ | ⟨d, e0, ps, h1, h2, h3, h4, h5, h6, rfl⟩
  · exact .inl ⟨p, xs, rfl, h1, h2, h3, q⟩
  · exact .inr ⟨d, e0, ps, h1, h2, h3, h4, h5, h6, q⟩⟩
theorem e_cmp {op : CmpOp} {o : CO} (hc : CmpE X op o) (ha : PE X a (tEv X.K xv W f)) (hb : PE X b (tEv X.K xv W g)) (hm : behindInMarks op b = false) :
    PE X (.Compare a [op] [b] pos) (tEv X.K xv W fun env st => (f env st).bind fun x st => (g env st).bind fun y st => .ofO (cmpD o x y st) fun k => .ok (.bl k) st) := by
  obtain ⟨r, hr, w⟩ := hc
  refine PE.use (pe_cmpR hr ha hb hm) fun σ H Q ⟨m, env, st, re, rs, p⟩ => ?_
  refine read2 (k := fun x y st => .ofO (cmpD o x y st) fun k => .ok (.bl k) st) re rs p fun m H st x y v u gd re rs hx hy p => ?_
  obtain ⟨k, e, p⟩ := p.ofO
  exact w m H st x y v u k _ rs hx hy e fun g => p.here (by simp only [RD]) rs g
theorem t_cmp {op : CmpOp} {o : CO} (hc : CmpE X op o) (ha : PE X a (tEv X.K xv W f)) (hb : PE X b (tEv X.K xv W g)) (hm : behindInMarks op b = false) :
    PT X (.Compare a [op] [b] pos) (tTv X.K xv W fun env st => (f env st).bind fun x st => (g env st).bind fun y st => .ofO (cmpD o x y st) fun k => .ok k st) := by
  obtain ⟨r, hr, w⟩ := hc
  refine PT.use (pt_cmpR hr ha hb hm) fun σ H Q ⟨m, env, st, re, rs, p⟩ => ?_
  refine ⟨m, env, st, re, rs, (p.bind (rel := RD X.K)).mono fun v H1 ⟨x, m1, st1, L1, x1, rs1, g1, p1⟩ => ?_⟩
  refine ⟨m1, env, st1, re.lat L1 rs, rs1, (p1.bind (rel := RD X.K)).mono fun u H2 ⟨y, m2, st2, L2, y2, rs2, g2, p2⟩ => ?_⟩
  obtain ⟨k, e, p⟩ := p2.ofO
  exact w m2 H2 st2 x y v u k _ rs2 (x1.lat L2 rs1 _ _) y2 e ⟨k, rfl, fun g => p.here rfl rs2 g⟩
theorem e_chain {op op' : CmpOp} {o o' : CO} (hc : CmpE X op o) (hc' : CmpE X op' o') (ha : PE X a (tEv X.K xv W f)) (hb : PE X b (tEv X.K xv W g)) (hd : PE X c (tEv X.K xv W h)) (hm : lastMarks [op, op'] [b, c] = false) :
    PE X (.Compare a [op, op'] [b, c] pos) (tEv X.K xv W fun env st => (f env st).bind fun x st => (g env st).bind fun y st => .ofO (cmpD o x y st) fun k =>
      if k = true then (h env st).bind fun z st => .ofO (cmpD o' y z st) fun k => .ok (.bl k) st else .ok (.bl false) st) := by
  obtain ⟨r, hr, w⟩ := hc
  obtain ⟨r', hr', w'⟩ := hc'
  refine PE.use (pe_chain hr hr' ha hb hd hm) fun σ H Q ⟨m, env, st, re, rs, p⟩ => ?_
  refine ⟨m, env, st, re, rs, (p.bind (rel := RD X.K)).mono fun v H1 ⟨x, m1, st1, L1, x1, rs1, g1, p1⟩ => ?_⟩
  refine ⟨m1, env, st1, re.lat L1 rs, rs1, (p1.bind (rel := RD X.K)).mono fun u H2 ⟨y, m2, st2, L2, y2, rs2, g2, p2⟩ => ?_⟩
  obtain ⟨k, e, p⟩ := p2.ofO
  refine w m2 H2 st2 x y v u k _ rs2 (x1.lat L2 rs1 _ _) y2 e ⟨k, rfl, ?_⟩
  cases k with
  | true =>
    rw [if_pos rfl] at p ⊢
    refine ⟨m2, env, st2, (re.lat L1 rs).lat L2 rs1, rs2, (p.bind (rel := RD X.K)).mono fun z H3 ⟨d, m3, st3, L3, z3, rs3, g3, p3⟩ => ?_⟩
    obtain ⟨k, e, p⟩ := p3.ofO
    exact w' m3 H3 st3 y d u z k _ rs3 (y2.lat L3 rs2 _ _) z3 e fun g => p.here (by simp only [RD]) rs3 g
  | false =>
    rw [if_neg Bool.false_ne_true] at p ⊢
    exact fun g => p.here (by simp only [RD]) rs2 g
theorem t_chain {op op' : CmpOp} {o o' : CO} (hc : CmpE X op o) (hc' : CmpE X op' o') (ha : PE X a (tEv X.K xv W f)) (hb : PE X b (tEv X.K xv W g)) (hd : PE X c (tEv X.K xv W h)) (hm : lastMarks [op, op'] [b, c] = false) :
    PT X (.Compare a [op, op'] [b, c] pos) (tTv X.K xv W fun env st => (f env st).bind fun x st => (g env st).bind fun y st => .ofO (cmpD o x y st) fun k =>
      if k = true then (h env st).bind fun z st => .ofO (cmpD o' y z st) fun k => .ok k st else .ok false st) := by
  obtain ⟨r, hr, w⟩ := hc
  obtain ⟨r', hr', w'⟩ := hc'
  refine PT.use (pt_chain hr hr' ha hb hd hm) fun σ H Q ⟨m, env, st, re, rs, p⟩ => ?_
  refine ⟨m, env, st, re, rs, (p.bind (rel := RD X.K)).mono fun v H1 ⟨x, m1, st1, L1, x1, rs1, g1, p1⟩ => ?_⟩
  refine ⟨m1, env, st1, re.lat L1 rs, rs1, (p1.bind (rel := RD X.K)).mono fun u H2 ⟨y, m2, st2, L2, y2, rs2, g2, p2⟩ => ?_⟩
  obtain ⟨k, e, p⟩ := p2.ofO
  refine w m2 H2 st2 x y v u k _ rs2 (x1.lat L2 rs1 _ _) y2 e ⟨k, rfl, ?_⟩
  cases k with
  | true =>
    rw [if_pos rfl] at p ⊢
    refine ⟨m2, env, st2, (re.lat L1 rs).lat L2 rs1, rs2, (p.bind (rel := RD X.K)).mono fun z H3 ⟨d, m3, st3, L3, z3, rs3, g3, p3⟩ => ?_⟩
    obtain ⟨k, e, p⟩ := p3.ofO
    exact w' m3 H3 st3 y d u z k _ rs3 (y2.lat L3 rs2 _ _) z3 e ⟨k, rfl, fun g => p.here rfl rs3 g⟩
  | false =>
    rw [if_neg Bool.false_ne_true] at p ⊢
    exact ⟨false, rfl, fun g => p.here rfl rs2 g⟩

/-! ### truth, and, or, not, if -/
theorem tru_at {K : PySem.W.Frag} {m : Ms} {H : Hp} {st : Store} {d : D} {v : V} {k : Bool} (rs : RS K m H st) (x : RD K m H d v) (e : truD st d = some k) : TruV K v H k := by
  have emp : ∀ {l : List D} {vs : List V}, RDs K m H l vs → l.isEmpty = vs.isEmpty := fun {l vs} h => by
    cases l <;> cases vs <;> simp_all [RDs]
  cases d with
  | non =>
    simp only [RD] at x
    subst x
    cases e
    rfl
  | bl b =>
    simp only [RD] at x
    subst x
    cases e
    rfl
  | int i =>
    simp only [RD] at x
    subst x
    cases e
    rfl
  | str s =>
    simp only [RD] at x
    subst x
    simp only [truD] at e
    split at e
    · rename_i h
      cases e
      exact ⟨by rw [← line_eq]; exact h, rfl⟩
    · cases e
  | tup l =>
    simp only [RD] at x
    obtain ⟨a, vs, rfl, q, y⟩ := x
    cases e
    exact .inr (.inl ⟨vs, q, by rw [emp y]⟩)
  | lst l =>
    simp only [RD] at x
    obtain ⟨a, vs, rfl, q, _, y⟩ := x
    cases e
    exact .inl ⟨vs, .of q, by rw [emp y]⟩
  | fl l =>
    simp only [RD] at x
    obtain ⟨a, vs, rfl, q, y⟩ := x
    cases e
    exact .inl ⟨vs, q.sq, by rw [emp y]⟩
  | ref i =>
    simp only [RD] at x
    obtain ⟨a, e1, rfl⟩ := x
    simp only [truD] at e
    split at e
    · rename_i l e2
      cases e
      obtain ⟨vs, q, y⟩ := rs.at_ i _ a e2 e1
      exact .inl ⟨vs, .of q, by rw [emp y]⟩
    · rename_i l e2
      cases e
      obtain ⟨vs, q, y⟩ := rs.at_ i _ a e2 e1
      refine .inr (.inr ⟨vs, q, ?_⟩)
      cases l with
      | nil =>
        have y' : vs = [] := y
        rw [y']
        rfl
      | cons p r =>
        obtain ⟨v, r', h, _⟩ := y
        rw [h]
        rfl
    · cases e
theorem t_truth (ha : PE X a (tEv X.K xv W f)) (he : ∀ whole, isTrue a X.env whole = (do let v ← whole; standAt a.pos; holding [v] (truthy v))) :
    PT X a (tTv X.K xv W fun env st => (f env st).bind fun d st => .ofO (truD st d) fun k => .ok k st) :=
  PT.use (pt_truth ha he) fun σ H Q ⟨m, env, st, re, rs, p⟩ => by
    refine ⟨m, env, st, re, rs, (p.bind (rel := RD X.K)).mono fun v H1 ⟨d, m1, st1, L1, x1, rs1, g1, p1⟩ => ?_⟩
    obtain ⟨k, e, p⟩ := p1.ofO
    exact ⟨k, tru_at rs1 x1 e, fun g => p.here rfl rs1 g⟩
theorem e_not (ha : PE X a (tEv X.K xv W f)) : PE X (.UnaryOp .Not a pos) (tEv X.K xv W fun env st => (f env st).bind fun d st => .ofO (truD st d) fun b => .ok (.bl (!b)) st) :=
  PE.use (pe_notT ha) fun σ H Q ⟨m, env, st, re, rs, p⟩ => by
    refine ⟨m, env, st, re, rs, (p.bind (rel := RD X.K)).mono fun v H1 ⟨d, m1, st1, L1, x1, rs1, g1, p1⟩ => ?_⟩
    obtain ⟨k, e, p⟩ := p1.ofO
    exact ⟨k, tru_at rs1 x1 e, fun g => p.here (by simp only [RD]) rs1 g⟩
theorem t_not (ha : PT X a (tTv X.K xv W ft)) : PT X (.UnaryOp .Not a pos) (tTv X.K xv W fun env st => (ft env st).bind fun b st => .ok (!b) st) :=
  PT.use (pt_not ha) fun σ H Q ⟨m, env, st, re, rs, p⟩ => by
    refine ⟨m, env, st, re, rs, (p.bind (rel := eqR)).mono fun v H1 ⟨d, m1, st1, L1, x1, rs1, g1, p1⟩ => ?_⟩
    exact fun g => p1.here (congrArg (!·) x1) rs1 g
theorem t_and1 (ha : PT X a (tTv X.K xv W ft)) : PW X (.BoolOp .And [a] pos) (tTv X.K xv W ft) := pw_and1 ha
theorem t_or1 (ha : PT X a (tTv X.K xv W ft)) : PW X (.BoolOp .Or [a] pos) (tTv X.K xv W ft) := pw_or1 ha
theorem t_and {r : List Expr} (ha : PT X a (tTv X.K xv W ft)) (hb : PW X (.BoolOp .And (b :: r) pos) (tTv X.K xv W gt)) :
    PW X (.BoolOp .And (a :: b :: r) pos) (tTv X.K xv W fun env st => (ft env st).bind fun k st => if k = true then gt env st else .ok false st) :=
  PW.use (pw_and ha hb) fun σ H Q ⟨m, env, st, re, rs, p⟩ => by
    refine ⟨m, env, st, re, rs, (p.bind (rel := eqR)).mono fun v H1 ⟨d, m1, st1, L1, x1, rs1, g1, p1⟩ => ?_⟩
    subst x1
    cases d with
    | true =>
      rw [if_pos rfl] at p1 ⊢
      exact ⟨m1, env, st1, re.lat L1 rs, rs1, p1.mono fun b H2 q g => q⟩
    | false =>
      rw [if_neg Bool.false_ne_true] at p1 ⊢
      exact fun g => p1.here rfl rs1 g
theorem t_or {r : List Expr} (ha : PT X a (tTv X.K xv W ft)) (hb : PW X (.BoolOp .Or (b :: r) pos) (tTv X.K xv W gt)) :
    PW X (.BoolOp .Or (a :: b :: r) pos) (tTv X.K xv W fun env st => (ft env st).bind fun k st => if k = true then .ok true st else gt env st) :=
  PW.use (pw_or ha hb) fun σ H Q ⟨m, env, st, re, rs, p⟩ => by
    refine ⟨m, env, st, re, rs, (p.bind (rel := eqR)).mono fun v H1 ⟨d, m1, st1, L1, x1, rs1, g1, p1⟩ => ?_⟩
    subst x1
    cases d with
    | false =>
      rw [if_neg Bool.false_ne_true] at p1 ⊢
      exact ⟨m1, env, st1, re.lat L1 rs, rs1, p1.mono fun b H2 q g => q⟩
    | true =>
      rw [if_pos rfl] at p1 ⊢
      exact fun g => p1.here rfl rs1 g
theorem e_one {op : BoolOp} (ha : PE X a (tEv X.K xv W f)) : PE X (.BoolOp op [a] pos) (tEv X.K xv W f) := pe_one ha
theorem e_and {r : List Expr} (ha : PE X a (tEv X.K xv W f)) (hb : PE X (.BoolOp .And (b :: r) pos) (tEv X.K xv W g)) :
    PE X (.BoolOp .And (a :: b :: r) pos) (tEv X.K xv W fun env st => (f env st).bind fun d st => .ofO (truD st d) fun k => if k = true then g env st else .ok d st) :=
  PE.use (pe_andT ha hb) fun σ H Q ⟨m, env, st, re, rs, p⟩ => by
    refine ⟨m, env, st, re, rs, (p.bind (rel := RD X.K)).mono fun v H1 ⟨d, m1, st1, L1, x1, rs1, g1, p1⟩ => ?_⟩
    obtain ⟨k, e, p⟩ := p1.ofO
    refine ⟨k, tru_at rs1 x1 e, ?_⟩
    cases k with
    | true =>
      rw [if_pos rfl] at p ⊢
      exact ⟨m1, env, st1, re.lat L1 rs, rs1, p.mono fun b H2 q g => q⟩
    | false =>
      rw [if_neg Bool.false_ne_true] at p ⊢
      exact fun g => p.here x1 rs1 g
theorem e_or {r : List Expr} (ha : PE X a (tEv X.K xv W f)) (hb : PE X (.BoolOp .Or (b :: r) pos) (tEv X.K xv W g)) :
    PE X (.BoolOp .Or (a :: b :: r) pos) (tEv X.K xv W fun env st => (f env st).bind fun d st => .ofO (truD st d) fun k => if k = true then .ok d st else g env st) :=
  PE.use (pe_orT ha hb) fun σ H Q ⟨m, env, st, re, rs, p⟩ => by
    refine ⟨m, env, st, re, rs, (p.bind (rel := RD X.K)).mono fun v H1 ⟨d, m1, st1, L1, x1, rs1, g1, p1⟩ => ?_⟩
    obtain ⟨k, e, p⟩ := p1.ofO
    refine ⟨k, tru_at rs1 x1 e, ?_⟩
    cases k with
    | false =>
      rw [if_neg Bool.false_ne_true] at p ⊢
      exact ⟨m1, env, st1, re.lat L1 rs, rs1, p.mono fun b H2 q g => q⟩
    | true =>
      rw [if_pos rfl] at p ⊢
      exact fun g => p.here x1 rs1 g
theorem e_ife (hc : PT X c (tTv X.K xv W ft)) (ha : PE X a (tEv X.K xv W f)) (hb : PE X b (tEv X.K xv W g)) :
    PE X (.IfExp c a b pos) (tEv X.K xv W fun env st => (ft env st).bind fun k st => if k = true then f env st else g env st) :=
  PE.use (pe_ifExp hc ha hb) fun σ H Q ⟨m, env, st, re, rs, p⟩ => by
    refine ⟨m, env, st, re, rs, (p.bind (rel := eqR)).mono fun v H1 ⟨d, m1, st1, L1, x1, rs1, g1, p1⟩ => ?_⟩
    subst x1
    cases d with
    | true =>
      rw [if_pos rfl] at p1 ⊢
      exact ⟨m1, env, st1, re.lat L1 rs, rs1, p1.mono fun b H2 q g => q⟩
    | false =>
      rw [if_neg Bool.false_ne_true] at p1 ⊢
      exact ⟨m1, env, st1, re.lat L1 rs, rs1, p1.mono fun b H2 q g => q⟩
theorem e_neg (ha : PE X a (tEv X.K xv W f)) : PE X (.UnaryOp .USub a pos) (tEv X.K xv W fun env st => (f env st).bind fun x st => .ofO (negD x) fun i => .ok (.int i) st) :=
  PE.use (pe_un un_neg ha) fun σ H Q ⟨m, env, st, re, rs, p⟩ => by
    refine ⟨m, env, st, re, rs, (p.bind (rel := RD X.K)).mono fun v H1 ⟨d, m1, st1, L1, x1, rs1, g1, p1⟩ => ?_⟩
    obtain ⟨k, e, p⟩ := p1.ofO
    cases d with
    | int i =>
      cases e
      simp only [RD] at x1
      exact ⟨i, x1, fun g => p.here (by simp only [RD]) rs1 g⟩
    | _ => cases e

/-! ### argument lists, displays -/
theorem a_nil : PA X [] (tAv X.K xv W fun _ st => .ok [] st) := PA.use pa_nil fun σ H Q ⟨m, env, st, re, rs, p⟩ g => p.here .nil rs g
theorem a_cons {es : List Expr} (ha : PE X e (tEv X.K xv W f)) (hr : PA X es (tAv X.K xv W fs)) (hs : starEach (e :: es) X.env = (false, eval e X.env) :: starEach es X.env) :
    PA X (e :: es) (tAv X.K xv W fun env st => (f env st).bind fun d st => (fs env st).bind fun ds st => .ok (d :: ds) st) :=
  PA.use (pa_cons ha hr hs) fun σ H Q ⟨m, env, st, re, rs, p⟩ => by
    refine ⟨m, env, st, re, rs, (p.bind (rel := RD X.K)).mono fun v H1 ⟨d, m1, st1, L1, x1, rs1, g1, p1⟩ => ?_⟩
    refine ⟨m1, env, st1, re.lat L1 rs, rs1, (p1.bind (rel := RDs X.K)).mono fun vs H2 ⟨ds, m2, st2, L2, y2, rs2, g2, p2⟩ => ?_⟩
    exact fun g => p2.here (.cons (x1.lat L2 rs1 _ _) y2) rs2 g
theorem e_tup {es : List Expr} {k : Nat} (h : PA X es (tAv X.K xv W fs)) (hl : ∀ env st ds st', fs env st = .ok ds st' → ds.length ≤ 1000) : PE X (.Tuple es k pos) (tEv X.K xv W fun env st => (fs env st).bind fun ds st => .ok (.tup ds) st) :=
  PE.use (pe_tup h) fun σ H Q ⟨m, env, st, re, rs, p⟩ => by
    refine ⟨m, env, st, re, rs, (p.bindE (rel := RDs X.K)).mono fun v H1 ⟨ds, m1, st1, er, L1, x1, rs1, g1, p1⟩ => ?_⟩
    have e := hl env st ds st1 er
    rw [x1.length] at e
    exact ⟨Nat.le_trans e (by decide), fun q hq g => p1.at_ (.alloc hq) (RD.newT rs1 x1 hq) (rs1.alloc hq) g⟩
theorem e_lst {es : List Expr} (h : PA X es (tAv X.K xv W fs)) (hl : ∀ env st ds st', fs env st = .ok ds st' → ds.length ≤ 1000) : PE X (.List es pos) (tEv X.K xv W fun env st => (fs env st).bind fun ds st => .ok (.lst ds) st) :=
  PE.use (pe_lst h) fun σ H Q ⟨m, env, st, re, rs, p⟩ => by
    refine ⟨m, env, st, re, rs, (p.bindE (rel := RDs X.K)).mono fun v H1 ⟨ds, m1, st1, er, L1, x1, rs1, g1, p1⟩ => ?_⟩
    have e := hl env st ds st1 er
    rw [x1.length] at e
    exact ⟨Nat.le_trans e (by decide), fun q hq g => p1.at_ (.alloc hq) (RD.newL rs1 x1 hq) (rs1.alloc hq) g⟩
theorem e_lstOwn {es : List Expr} (h : PA X es (tAv X.K xv W fs)) (hl : ∀ env st ds st', fs env st = .ok ds st' → ds.length ≤ 1000) : PE X (.List es pos) (tEv X.K xv W fun env st => ((fs env st).bind fun ds st => .ok (.lst ds) st).bind ownD) :=
  PE.use (pe_lst h) fun σ H Q ⟨m, env, st, re, rs, p⟩ => by
    simp only [R.bind_assoc] at p
    refine ⟨m, env, st, re, rs, (p.bindE (rel := RDs X.K)).mono fun v H1 ⟨ds, m1, st1, er, L1, x1, rs1, g1, p1⟩ => ?_⟩
    have e := hl env st ds st1 er
    rw [x1.length] at e
    exact ⟨Nat.le_trans e (by decide), fun q hq g => p1.own m1 H1 q v .refl rs1 x1 hq g⟩
end
end Ev

set_option Elab.async false
set_option linter.all false
set_option maxRecDepth 100000
set_option autoImplicit false
/-! Ev, part G: places, slices, calls, built-ins, methods. -/
namespace Ev
open PySem PySem.Spec PyProof.Rows L2
/-! ### a tuple's slice, whatever its step -/
section
variable {prog : Program} {w : World} {A : Around} {E : Value → Shared → Prop} {s : Shared}
theorem sliceApplied_any {sl : Addr} {vl vu vs : Value} {lo hi st : Option Int} {n : Nat} {Q : Int × Int × Nat → Shared → Prop} (hs : s.heap.IsSliceOf sl vl vu vs) (pl : IsPart vl lo) (pu : IsPart vu hi) (ps : IsPart vs st) (h0 : st.getD 1 ≠ 0)
    (h : Q ((Builtin.Slice.sliceAdjust lo hi (st.getD 1) n).1, st.getD 1, Builtin.Slice.slicePlaces (Builtin.Slice.sliceAdjust lo hi (st.getD 1) n).1 (Builtin.Slice.sliceAdjust lo hi (st.getD 1) n).2 (st.getD 1)) s) :
    wpAny (model prog w) A (Builtin.Slice.sliceApplied (.ref sl) (pure (n : Int))) Q E s := by
  obtain ⟨os, hos, hcs, hds⟩ := id hs
  unfold Builtin.Slice.sliceApplied Builtin.Slice.sliceFields
  refine wpAny_bind (wpAny_bind (wpAny_field hos hds (x := vl) rfl (wpAny_bind (wpAny_field hos hds (x := vu) rfl (wpAny_bind (wpAny_field hos hds (x := vs) rfl (wpAny_pure ?_)))))))
  refine wpAny_bind (HT.slicePart_ ps ?_)
  have hb : ¬ ((st.getD 1 == 0) = true) := by
    rw [beq_iff_eq]
    exact h0
  show wpAny _ _ (if (st.getD 1 == 0) = true then _ else _) _ _ s
  rw [if_neg hb]
  exact wpAny_bind (HT.slicePart_ pl (wpAny_bind (HT.slicePart_ pu (wpAny_bind (wpAny_pure (wpAny_pure h))))))
theorem getItem_tuple_any {t sl : Addr} {items : Array Value} {vl vu vs : Value} {lo hi st : Option Int} {Q : Value → Shared → Prop} (ht : IsTup s.heap t items) (hs : s.heap.IsSliceOf sl vl vu vs) (pl : IsPart vl lo) (pu : IsPart vu hi) (ps : IsPart vs st)
    (h0 : st.getD 1 ≠ 0) {i k : Int} {n : Nat} (ei : (Builtin.Slice.sliceAdjust lo hi (st.getD 1) (items.size : Nat)).1 = i) (ek : st.getD 1 = k) (en : Builtin.Slice.slicePlaces (Builtin.Slice.sliceAdjust lo hi (st.getD 1) (items.size : Nat)).1 (Builtin.Slice.sliceAdjust lo hi (st.getD 1) (items.size : Nat)).2 (st.getD 1) = n)
    (hsame : (i == 0 && k == 1 && n == items.size) = true → Q (.ref t) s)
    (hnew : Q (.ref s.heap.objs.size) { s with heap := s.heap.push { cls := .type "tuple", data := .seq ((List.range n).filterMap fun (m : Nat) => items[(i + (m : Int) * k).toNat]?).toArray } })
    (hsz : ((List.range n).filterMap fun (m : Nat) => items[(i + (m : Int) * k).toNat]?).length ≤ sizeLine) : wpAny (model prog w) A (getItem (.ref t) (.ref sl)) Q E s := by
  obtain ⟨os, hos, hcs, hds⟩ := id hs
  have hTs : s.TypeIs (.ref sl) "slice" := ⟨os, hos, hcs⟩
  have hfit : sizeOk (.seq ((List.range n).filterMap fun (m : Nat) => items[(i + (m : Int) * k).toNat]?).toArray) := by
    show (((List.range n).filterMap fun (m : Nat) => items[(i + (m : Int) * k).toNat]?).toArray).size ≤ sizeLine
    rw [List.size_toArray]
    exact hsz
  unfold getItem
  try with_reducible refine wpAny_holding ?_
  first | refine wpAny_bind (wpAny_pure ?_) | skip
  refine wpAny_bind (wpAny_sequenceKey ht.typeIs (by decide) ?_)
  refine wpAny_bind (wpAny_callSpecial?_slot (name := Str.ofString "__getitem__") ht.typeIs PyProof.Rows.slot_tuple_getitem
    (wpAny_call_entry PyProof.Rows.slot_tuple_getitem ht.typeIs entry_tuple_getitem ?_ (args_tuple_getitem _ _)))
  show wpAny _ _ (Builtin.Tuple.tupleItemsOf (.ref t) >>= _) _ _ s
  refine wpAny_bind (tupleItemsOf_ ht ?_)
  refine wpAny_bind (wpAny_typeOf hTs ?_)
  rw [if_pos (by decide)]
  refine wpAny_bind (sliceApplied_any (n := items.size) hs pl pu ps h0 ?_)
  rw [en, ei, ek]
  show wpAny _ _ (if (i == 0 && k == 1 && n == items.size) = true then _ else _) _ _ s
  by_cases hc : (i == 0 && k == 1 && n == items.size) = true
  · rw [if_pos hc]
    refine wpAny_bind ?_
    show wpAny _ _ (typeOf (.ref t) >>= fun T => pure (T == .type "tuple")) _ _ s
    refine wpAny_bind (wpAny_typeOf ht.typeIs (wpAny_pure ?_))
    first
      | rw [if_pos (by decide)]
      | simp only [beq_self_eq_true, if_true]
    first
      | exact wpAny_bind (wpAny_rule (wpAny_pure ⟨_, rfl, wpAny_pure (hsame hc)⟩))
      | exact wpAny_bind (wpAny_rule (wpAny_bind (wpAny_pure (wpAny_pure ⟨_, rfl, wpAny_pure (hsame hc)⟩))))
  · rw [if_neg hc]
    first
      | exact wpAny_bind (m := Builtin.Tuple.tupleExact _) (wpAny_newObj_type (wpAny_pure ⟨_, rfl, wpAny_pure hnew⟩) hfit)
      | exact wpAny_bind (m := Builtin.Tuple.tupleExact _) (wpAny_newObj_type (wpAny_bind (wpAny_pure (wpAny_pure ⟨_, rfl, wpAny_pure hnew⟩))) hfit)
      | exact wpAny_bind (wpAny_bind (m := Builtin.Tuple.tupleExact _) (wpAny_newObj_type (wpAny_pure (wpAny_pure ⟨_, rfl, wpAny_pure hnew⟩)) hfit))
      | exact wpAny_bind (wpAny_bind (m := Builtin.Tuple.tupleExact _) (wpAny_newObj_type (wpAny_pure ⟨_, rfl, wpAny_pure hnew⟩) hfit))
end
def pickV (l : List V) (lo hi : Option Int) (k : Int) : List V :=
  (List.range (Builtin.Slice.slicePlaces (Builtin.Slice.sliceAdjust lo hi k l.length).1 (Builtin.Slice.sliceAdjust lo hi k l.length).2 k)).filterMap fun (m : Nat) => l[((Builtin.Slice.sliceAdjust lo hi k l.length).1 + (m : Int) * k).toNat]?
def tSl3 (K : PySem.W.Frag) (te : TE) (tl th tk : TO) : TE := fun σ H Q => te σ H fun x H1 => tl σ H1 fun l H2 => th σ H2 fun u H3 => tk σ H3 fun o H4 => ∃ a xs k, x = .ref a ∧ SqT K H4 a xs ∧ o = some k ∧ k ≠ 0 ∧ (pickV xs l u k).length ≤ sizeLine ∧
  (pickV xs l u k = xs → Q (.ref a) H4) ∧ ∀ p, H4 p = none → Q (.ref p) (upd H4 p (.tup (pickV xs l u k)))
theorem filterMap_get {α β : Type} {R : α → β → Prop} (f : Nat → Nat) (as : List α) (bs : List β) (hl : as.length = bs.length) (h : ∀ (i : Nat) (a : α), as[i]? = some a → ∃ b, bs[i]? = some b ∧ R a b) (P : List α → List β → Prop) (hn : P [] []) (hc : ∀ a b as bs, R a b → P as bs → P (a :: as) (b :: bs)) :
    ∀ ns : List Nat, P (ns.filterMap fun m => as[f m]?) (ns.filterMap fun m => bs[f m]?)
  | [] => hn
  | n :: ns => by
    have ih := filterMap_get f as bs hl h P hn hc ns
    cases e : as[f n]? with
    | none =>
      have e2 : bs[f n]? = none := by
        rw [List.getElem?_eq_none_iff] at e ⊢
        omega
      rw [List.filterMap_cons, List.filterMap_cons, e, e2]
      exact ih
    | some a =>
      obtain ⟨b, e2, r⟩ := h _ _ e
      rw [List.filterMap_cons, List.filterMap_cons, e, e2]
      exact hc a b _ _ r ih
theorem range_get {α : Type} : ∀ l : List α, (List.range l.length).filterMap (fun (m : Nat) => l[m]?) = l
  | [] => rfl
  | a :: l => by
    rw [List.length_cons, List.range_succ_eq_map, List.filterMap_cons, List.filterMap_map]
    have : ((fun (m : Nat) => (a :: l)[m]?) ∘ Nat.succ) = fun (m : Nat) => l[m]? := by
      funext m
      simp
    rw [this, range_get l]
    rfl
theorem whole_pick {α : Type} (l : List α) (i k : Int) (n : Nat) (h : (i == 0 && k == 1 && n == l.length) = true) : ((List.range n).filterMap fun (m : Nat) => l[(i + (m : Int) * k).toNat]?) = l := by
  simp only [Bool.and_eq_true, beq_iff_eq] at h
  obtain ⟨⟨rfl, rfl⟩, rfl⟩ := h
  have e : (fun (m : Nat) => l[((0 : Int) + (m : Int) * 1).toNat]?) = fun (m : Nat) => l[m]? := by
    funext m
    have : ((0 : Int) + (m : Int) * 1).toNat = m := by omega
    rw [this]
  rw [e, range_get]
def RDpick (its : List Value) (xs : List V) (l u : Option Int) (k : Int) : Prop :=
  Vals (pickV xs l u k) ((List.range (Builtin.Slice.slicePlaces (Builtin.Slice.sliceAdjust l u k (xs.length : Nat)).1 (Builtin.Slice.sliceAdjust l u k (xs.length : Nat)).2 k)).filterMap fun (m : Nat) => its.toArray[((Builtin.Slice.sliceAdjust l u k (xs.length : Nat)).1 + (m : Int) * k).toNat]?)
theorem pick_rel {its : List Value} {xs : List V} (r : Vals xs its) (l u : Option Int) (k : Int) : RDpick its xs l u k := by
  unfold RDpick pickV
  have e : (fun (m : Nat) => its.toArray[((Builtin.Slice.sliceAdjust l u k (xs.length : Nat)).1 + (m : Int) * k).toNat]?) = fun (m : Nat) => its[((Builtin.Slice.sliceAdjust l u k (xs.length : Nat)).1 + (m : Int) * k).toNat]? := by
    funext m
    simp
  rw [e]
  exact filterMap_get (R := RelV) (fun (m : Nat) => ((Builtin.Slice.sliceAdjust l u k (xs.length : Nat)).1 + (m : Int) * k).toNat) xs its r.length (fun i a h => r.get h) Vals .nil (fun a b as bs h t => .cons h t) _
section
variable {X : Cx} {xv : Nat → Value} {W : WX} {a b c e : Expr} {pos p2 : Pos}
theorem pe_slice3 {te : TE} {lo hi : Option Expr} {k : Expr} {tl th tk : TO} (he : PE X e te) (hl : PO X lo tl) (hu : PO X hi th) (hk : PO X (some k) tk) : PE X (.Subscript e (.Slice lo hi (some k) p2) pos) (tSl3 X.K te tl th tk) := by
  refine ⟨fun pins s σ H Q I h => ?_⟩
  refine Subscript_ (thn (he.run pins s σ H _ I h) fun v s1 ⟨x, H1, I1, r1, q1⟩ => ?_)
  refine wpAny_Slice (thn (hl.run pins s1 σ H1 _ I1 q1) fun vl s2 ⟨l, H2, I2, pl, q2⟩ => thn (hu.run pins s2 σ H2 _ I2 q2) fun vu s3 ⟨u, H3, I3, pu, q3⟩ => ?_)
  refine thn (hk.run pins s3 σ H3 _ I3 q3) fun vs s4 ⟨o, H4, I4, ps, q4⟩ => ?_
  obtain ⟨a, xs, k, rfl, hx, rfl, h0, hz, qs, qn⟩ := q4
  cases r1
  have I5 : Inv X pins σ H4 { s4 with heap := s4.heap.push { cls := .type "slice", data := .fields #[vl, vu, vs] } } := I4.kept (t' := s4.toks) fun b ob q => Heap.get?_push_of_some _ q
  obtain ⟨its, r, ht, hz2⟩ := I5.tuple hx
  have hlen := r.length
  show wpAny (model X.prog X.w) X.A (subscriptTail e (.Slice lo hi (some _) p2) (.ref a) (.ref s4.heap.objs.size)) (EP X pins σ Q) X.xe { s4 with heap := s4.heap.push { cls := .type "slice", data := .fields #[vl, vu, vs] } }
  have key := pick_rel r l u k
  unfold RDpick at key
  refine tail_any (ops := [.ref a, .ref s4.heap.objs.size]) ht.typeIs PyProof.Rows.slot_tuple_getitem.lookup ?_ (by with_unfolding_all rfl)
  have en : (its.toArray.size : Nat) = xs.length := by rw [List.size_toArray, hlen]
  refine getItem_tuple_any ht (Heap.IsSliceOf.new _ vl vu vs) pl pu ps h0 (i := (Builtin.Slice.sliceAdjust l u k (xs.length : Nat)).1) (k := k)
    (n := Builtin.Slice.slicePlaces (Builtin.Slice.sliceAdjust l u k (xs.length : Nat)).1 (Builtin.Slice.sliceAdjust l u k (xs.length : Nat)).2 k) (by rw [en]; rfl) rfl (by rw [en]; rfl) (fun hc => ?_) ?_ ?_
  · rw [en] at hc
    exact ⟨.ref a, H4, I5, rfl, qs (whole_pick xs _ _ _ hc)⟩
  · refine ⟨.ref _, _, I5.laid (t' := s4.toks) (o := .tup (pickV xs l u k)) (fun b ob q => Heap.get?_push_of_some _ q) (Nat.le_refl _) ?_, rfl, qn _ (I5.hok.fresh (Nat.le_refl _))⟩
    exact ⟨hz, _, key, IsTup.new _ _⟩
  · have := key.length
    unfold pickV at this hz
    omega
end

/-! ### by the evaluator -/
section
variable {X : Cx} {xv : Nat → Value} {W : WX} {a b c e : Expr} {pos p2 : Pos} {f g h fk : Env → Store → R D} {fs fl fh : Env → Store → R (List D)}
theorem atI_at {K : PySem.W.Frag} {m : Ms} {H : Hp} {l : List D} {vs : List V} {k : Int} {d : D} (x : RDs K m H l vs) (h : atI l k = some d) : ∃ v, atI vs k = some v ∧ RD K m H d v := by
  unfold atI at h ⊢
  rw [← x.length]
  cases e : ixN l.length k with
  | none =>
    rw [e] at h
    cases h
  | some j =>
    rw [e] at h
    exact x.get h
theorem e_ix (ha : PE X a (tEv X.K xv W f)) (hb : PE X b (tEv X.K xv W g)) (hs : PlainIx b) : PE X (.Subscript a b pos) (tEv X.K xv W fun env st => (f env st).bind fun x st => (g env st).bind fun y st => ixD x y st) :=
  PE.use (pe_ix ix_seq ha hb hs) fun σ H Q ⟨m, env, st, re, rs, p⟩ => by
    refine read2 re rs p fun m H st x y v u gd re rs hx hy p => ?_
    cases y with
    | int k =>
      simp only [RD] at hy
      subst hy
      have seq : Post X.K xv W (RD X.K) σ m H (.ofO (items st x) fun l => .ofO (atI l k) fun d => .ok d st) Q → rIx X.K v (.int k) H fun v H1 => Good X.K H1 → Q v H1 := fun p => by
        obtain ⟨l, e, p⟩ := p.ofO
        obtain ⟨d, e2, p⟩ := p.ofO
        obtain ⟨A, vs, rfl, q1, q2⟩ := items_at rs hx e
        obtain ⟨w, q3, q4⟩ := atI_at q1 e2
        rcases q2 with ⟨q2, _⟩ | ⟨q2, _⟩
        · exact .inr (.inl ⟨A, vs, k, w, rfl, rfl, q2, q3, fun g => p.here q4 rs g⟩)
        · exact .inl ⟨A, vs, k, w, rfl, rfl, q2, q3, fun g => p.here q4 rs g⟩
      cases x with
      | str s =>
        dsimp only [ixD] at p
        obtain ⟨d, e, p⟩ := p.ofO
        simp only [strAt] at e
        split at e
        · rename_i hl
          rw [Option.map_eq_some_iff] at e
          obtain ⟨c, e, e2⟩ := e
          subst e2
          simp only [RD] at hx
          exact .inr (.inr ⟨s, k, c, hx, rfl, by rw [← line_eq]; exact hl, e, fun g => p.here (by simp only [RD]) rs g⟩)
        · cases e
      | _ => exact seq p
    | _ => exact False.elim p
/-- a slice's part -/
abbrev tOv (K : PySem.W.Frag) (xv : Nat → Value) (W : WX) (f : Env → Store → R (Option Int)) : TO := tX K xv W eqR f
theorem PO.use {e : Option Expr} {t t' : TO} (h : PO X e t) (w : ∀ σ H Q, t' σ H Q → t σ H (fun v H1 => Good X.K H1 → Q v H1)) : PO X e t' :=
  ⟨fun pins s σ H Q I q => thn (h.run pins s σ H _ I (w σ H Q q)) fun v s1 ⟨x, H1, I1, r, q1⟩ => ⟨x, H1, I1, r, q1 (good_of I1)⟩⟩
theorem o_none : PO X none (tOv X.K xv W fun _ st => (R.ok [] st).bind fun l st => .ofO (oI l) fun l => .ok l st) := PO.use po_none fun σ H Q ⟨m, env, st, re, rs, p⟩ g => Post.here (a := none) p rfl rs g
theorem o_some (ha : PE X a (tEv X.K xv W f)) : PO X (some a) (tOv X.K xv W fun env st => ((f env st).bind fun d st => (R.ok [] st).bind fun ds st => .ok (d :: ds) st).bind fun l st => .ofO (oI l) fun l => .ok l st) :=
  PO.use (po_some ha) fun σ H Q ⟨m, env, st, re, rs, p⟩ => by
    simp only [R.bind_assoc] at p
    refine ⟨m, env, st, re, rs, (p.bind (rel := RD X.K)).mono fun v H1 ⟨d, m1, st1, L1, x1, rs1, g1, p1⟩ => ?_⟩
    obtain ⟨o, e, p1⟩ := Post.ofO (o := oI [d]) p1
    cases d with
    | int i =>
      cases e
      simp only [RD] at x1
      exact ⟨i, x1, fun g => p1.here rfl rs1 g⟩
    | _ => cases e
theorem o_key (ha : PE X a (tEv X.K xv W f)) : PO X (some a) (tX X.K xv W (fun _ _ (d : D) (o : Option Int) => ∃ i, d = .int i ∧ o = some i) fun env st => (f env st).bind fun d st => .ofO (oI [d]) fun _ => .ok d st) :=
  PO.use (po_some ha) fun σ H Q ⟨m, env, st, re, rs, p⟩ => by
    refine ⟨m, env, st, re, rs, (p.bind (rel := RD X.K)).mono fun v H1 ⟨d, m1, st1, L1, x1, rs1, g1, p1⟩ => ?_⟩
    obtain ⟨o, e, p1⟩ := Post.ofO (o := oI [d]) p1
    cases d with
    | int i =>
      simp only [RD] at x1
      exact ⟨i, x1, fun g => p1.here ⟨i, rfl, rfl⟩ rs1 g⟩
    | _ => cases e
theorem cut_at {K : PySem.W.Frag} {m : Ms} {H : Hp} {l : List D} {vs : List V} (x : RDs K m H l vs) (lo hi : Option Int) : RDs K m H (cutD l lo hi) (cutV vs lo hi) := by
  unfold cutD cutV
  rw [x.length]
  exact (x.drop _).take _
theorem slW {σ : L2.St} {m : Ms} {H : Hp} {st : Store} {x : D} {v : V} {lo hi : Option Int} {Q : VK} (gd : Good X.K H) (rs : RS X.K m H st) (hx : RD X.K m H x v) (p : PostF X.K xv W σ m H (cut1 x lo hi st) Q) :
    rSlL X.K v lo hi H (fun v H1 => Good X.K H1 → Q v H1) ∨ rSlA X.K v lo hi H (fun v H1 => Good X.K H1 → Q v H1) := by
  have lists : ∀ {l}, listItems st x = some l → PostF X.K xv W σ m H (.ok (.lst (cutD l lo hi)) st) Q → rSlL X.K v lo hi H (fun v H1 => Good X.K H1 → Q v H1) := fun {l} e p => by
    obtain ⟨a, vs, rfl, q1, q2⟩ := listItems_at rs hx e
    exact ⟨a, vs, rfl, q2, fun c hc g => p m H c _ .refl rs (cut_at q1 lo hi) hc g⟩
  cases x with
  | tup l =>
    have hx' := hx
    simp only [RD] at hx
    obtain ⟨a, vs, rfl, q1, q2⟩ := hx
    refine .inr ⟨a, vs, rfl, q1, fun e g => ?_, fun _ c hc g => PostF.at_ (fun _ z => by cases z) p (.alloc hc) (RD.newT rs (cut_at q2 lo hi) hc) (rs.alloc hc) g⟩
    have e2 : cutD l lo hi = l := by
      unfold cutD
      rw [q2.length, e.1, e.2, ← q2.length]
      simp
    have p' : PostF X.K xv W σ m H (.ok (.tup (cutD l lo hi)) st) Q := p
    rw [e2] at p'
    exact PostF.here (fun _ z => by cases z) p' hx' rs g
  | _ =>
    dsimp only [cut1] at p
    obtain ⟨l, e, p⟩ := PostF.ofO p
    exact .inl (lists e p)
theorem e_sl {lo hi : Option Expr} {fl fh : Env → Store → R (Option Int)} (ha : PE X a (tEv X.K xv W f)) (hl : PO X lo (tOv X.K xv W fl)) (hh : PO X hi (tOv X.K xv W fh)) :
    PE X (.Subscript a (.Slice lo hi none p2) pos) (tEv X.K xv W fun env st => (f env st).bind fun x st => (fl env st).bind fun l st => (fh env st).bind fun h st => cut1 x l h st) :=
  PE.use (pe_slice (sl_list.or sl_tupA) ha hl hh) fun σ H Q ⟨m, env, st, re, rs, p⟩ => by
    refine ⟨m, env, st, re, rs, (p.bind (rel := RD X.K)).mono fun v H1 ⟨x, m1, st1, L1, x1, rs1, g1, p1⟩ => ?_⟩
    refine ⟨m1, env, st1, re.lat L1 rs, rs1, (p1.bind (rel := eqR)).mono fun l H2 ⟨l', m2, st2, L2, y2, rs2, g2, p2⟩ => ?_⟩
    subst y2
    refine ⟨m2, env, st2, (re.lat L1 rs).lat L2 rs1, rs2, (p2.bind (rel := eqR)).mono fun h H3 ⟨h', m3, st3, L3, y3, rs3, g3, p3⟩ => ?_⟩
    subst y3
    exact slW g3 rs3 ((x1.lat L2 rs1 _ _).lat L3 rs2 _ _) p3.toF
theorem e_slOwn {lo hi : Option Expr} {fl fh : Env → Store → R (Option Int)} (ha : PE X a (tEv X.K xv W f)) (hl : PO X lo (tOv X.K xv W fl)) (hh : PO X hi (tOv X.K xv W fh)) :
    PE X (.Subscript a (.Slice lo hi none p2) pos) (tEv X.K xv W fun env st => ((f env st).bind fun x st => (fl env st).bind fun l st => (fh env st).bind fun h st => cut1 x l h st).bind ownD) :=
  PE.use (pe_slice (sl_list.or sl_tupA) ha hl hh) fun σ H Q ⟨m, env, st, re, rs, p⟩ => by
    simp only [R.bind_assoc] at p
    refine ⟨m, env, st, re, rs, (p.bind (rel := RD X.K)).mono fun v H1 ⟨x, m1, st1, L1, x1, rs1, g1, p1⟩ => ?_⟩
    refine ⟨m1, env, st1, re.lat L1 rs, rs1, (p1.bind (rel := eqR)).mono fun l H2 ⟨l', m2, st2, L2, y2, rs2, g2, p2⟩ => ?_⟩
    subst y2
    refine ⟨m2, env, st2, (re.lat L1 rs).lat L2 rs1, rs2, (p2.bind (rel := eqR)).mono fun h H3 ⟨h', m3, st3, L3, y3, rs3, g3, p3⟩ => ?_⟩
    subst y3
    exact slW g3 rs3 ((x1.lat L2 rs1 _ _).lat L3 rs2 _ _) p3.own
theorem pick_at {K : PySem.W.Frag} {m : Ms} {H : Hp} {l : List D} {vs : List V} (x : RDs K m H l vs) (lo hi : Option Int) (k : Int) : RDs K m H (pickD l lo hi k) (pickV vs lo hi k) := by
  unfold pickD pickV
  rw [x.length]
  exact filterMap_get (R := RD K m H) (fun (i : Nat) => ((Builtin.Slice.sliceAdjust lo hi k (vs.length : Nat)).1 + (i : Int) * k).toNat) l vs x.length (fun i a h => x.get h) (RDs K m H) .nil (fun a b as bs h t => .cons h t) _
theorem e_slS {lo hi : Option Expr} {fl fh : Env → Store → R (Option Int)} (ha : PE X a (tEv X.K xv W f)) (hl : PO X lo (tOv X.K xv W fl)) (hh : PO X hi (tOv X.K xv W fh))
    (hk : PO X (some b) (tX X.K xv W (fun _ _ (d : D) (o : Option Int) => ∃ i, d = .int i ∧ o = some i) fk)) :
    PE X (.Subscript a (.Slice lo hi (some b) p2) pos) (tEv X.K xv W fun env st => (f env st).bind fun x st => (fl env st).bind fun l st => (fh env st).bind fun h st => (fk env st).bind fun d st => cut3 x l h d st) :=
  PE.use (pe_slice3 ha hl hh hk) fun σ H Q ⟨m, env, st, re, rs, p⟩ => by
    refine ⟨m, env, st, re, rs, (p.bind (rel := RD X.K)).mono fun v H1 ⟨x, m1, st1, L1, x1, rs1, g1, p1⟩ => ?_⟩
    refine ⟨m1, env, st1, re.lat L1 rs, rs1, (p1.bind (rel := eqR)).mono fun l H2 ⟨l', m2, st2, L2, y2, rs2, g2, p2⟩ => ?_⟩
    subst y2
    have re2 := (re.lat L1 rs).lat L2 rs1
    refine ⟨m2, env, st2, re2, rs2, (p2.bind (rel := eqR)).mono fun h H3 ⟨h', m3, st3, L3, y3, rs3, g3, p3⟩ => ?_⟩
    subst y3
    refine ⟨m3, env, st3, re2.lat L3 rs2, rs3, (p3.bind (rel := fun _ _ (d : D) (o : Option Int) => ∃ i, d = .int i ∧ o = some i)).mono fun o H4 ⟨d, m4, st4, L4, y4, rs4, g4, p4⟩ => ?_⟩
    obtain ⟨i, rfl, rfl⟩ := y4
    have hx := ((x1.lat L2 rs1 _ _).lat L3 rs2 _ _).lat L4 rs3 _ _
    cases x with
    | tup l =>
      have hx' := hx
      simp only [RD] at hx
      obtain ⟨A, vs, rfl, q1, q2⟩ := hx
      dsimp only [cut3] at p4
      rcases p4.ite with ⟨⟨h0, hz⟩, p⟩ | ⟨_, p⟩
      · have q3 := pick_at q2 l' h' i
        refine ⟨A, vs, i, rfl, q1, rfl, h0, by rw [← q3.length, ← line_eq]; exact hz, fun e g => ?_, fun c hc g => p.at_ (.alloc hc) (RD.newT rs4 q3 hc) (rs4.alloc hc) g⟩
        refine p.here ?_ rs4 g
        simp only [RD]
        exact ⟨A, vs, rfl, q1, by rw [e] at q3; exact q3⟩
      · exact False.elim p
    | _ => exact False.elim p4
end
end Ev

set_option Elab.async false
set_option linter.all false
set_option maxRecDepth 100000
set_option autoImplicit false
/-! Ev, part Gs: sorted, of tuples of whole numbers. -/
namespace Ev
open PySem PySem.Spec PyProof.Rows L2
theorem dataLe_tups {β : Type} (x : β → List Int) : PySem.W.dataLe false (fun b => PyData.tuple ((x b).map .int)) = fun p q => decide (x p ≤ x q) := by
  rw [← PySem.W.dataLe_rows x]
  unfold PySem.W.dataLe
  congr 1
/-- an item, the numbers in it -/
abbrev NR := V × List Int
abbrev encN : NR → PyData := fun b => .tuple (b.2.map .int)
theorem reads_ints {h : Heap} : ∀ {vs : List Value} {ns : List Int}, IntsAre vs ns → ReadsAll h vs (ns.map .int) []
  | _, _, .nil => .nil
  | _, _, .cons n t r => by
    have ih := reads_ints (h := h) r
    have := ReadsAll.cons (Reads.int (h := h) n t) ih
    exact this
theorem each_n {R : Value → NR → Prop} : ∀ (bs : List NR) (its : List Value), Vals (bs.map (·.1)) its → (∀ b ∈ bs, ∀ u, RelV b.1 u → R u b) → PySem.W.EachIs R its bs
  | [], its, h, _ => by cases h; exact .nil
  | b :: bs, its, h, hr => by
    cases h with
    | cons h r => exact .cons (hr b List.mem_cons_self _ h) (each_n bs _ r fun b hb => hr b (List.mem_cons_of_mem _ hb))
theorem each_vals : ∀ {out : List Value} {cs : List NR}, PySem.W.EachIs (fun v (b : NR) => RelV b.1 v) out cs → Vals (cs.map (·.1)) out
  | _, _, .nil => .nil
  | _, _, .cons h r => .cons h (each_vals r)
theorem le_trans_rows (a b c : List Int) (h : a ≤ b) (h' : b ≤ c) : a ≤ c := List.le_trans h h'
/-- sorted(xs), tuples of whole numbers, none of them empty -/
def rSortN (K : PySem.W.Frag) : List V → Hp → VK → Prop := fun vs H Q => ∃ (a : Addr) (bs : List NR), vs = [V.ref a] ∧ SqL K H a (bs.map (·.1)) ∧ (∀ b ∈ bs, b.2 ≠ [] ∧ ∃ t, b.1 = V.ref t ∧ SqT K H t (b.2.map V.int)) ∧
  ∀ (cs : List NR) (p : Addr), cs.Perm bs → cs.Pairwise (fun x y => x.2 ≤ y.2) → H p = none → Q (.ref p) (upd H p (.lst (cs.map (·.1))))
section
variable {X : Cx}
theorem cr_sortN (hu : X.A.units + 64 < cLine) : CallR X (.builtin "sorted") (rSortN X.K) := by
  intro pins s σ H vs us Q I r h
  obtain ⟨a, bs, rfl, hs, hb, q⟩ := h
  obtain ⟨its, rv, hl, hz⟩ := I.list hs
  rw [Vals.ref1 r]
  have er : PySem.W.EachIs (fun v b => ∃ as, Reads s.heap v (encN b) as) its bs := each_n bs its rv fun b hm u ru => by
    obtain ⟨_, t, et, ht⟩ := hb b hm
    rw [et] at ru
    obtain rfl : u = Value.ref t := ru
    obtain ⟨jt, rj, ⟨o, ho, hc, n, hd⟩, _⟩ := I.tuple ht
    exact ⟨[], Reads.tuple ho hc hd (by simpa using reads_ints rj.ints)⟩
  have e0 : PySem.W.EachIs (fun v (b : NR) => RelV b.1 v) its bs := each_n bs its rv fun b _ u ru => ru
  have hdep : ∀ b : NR, (encN b).depth ≤ 1 := fun b => by
    show PyData.depth (.tuple (b.2.map .int)) ≤ 1
    have := PySem.W.depth_ints b.2
    simp only [PyData.depth, this]
    omega
  refine PySem.W.sorted_data hl.isList e0 er (PySem.W.AllAlike.of fun b b' => by simpa [PySem.W.alike] using PySem.W.alike_ints b.2 b'.2) (.inl fun d hd => ?_) (by rw [← List.length_map (f := fun b : NR => b.1) (as := bs)]; exact hz) (fun b _ => by have := hdep b; omega) fun out ho hout => ?_
  · obtain ⟨b, hm, rfl⟩ := List.mem_map.mp hd
    obtain ⟨hne, _⟩ := hb b hm
    cases hq : b.2 with
    | nil => exact absurd hq hne
    | cons x r => exact ⟨.int x, r.map .int, by simp [encN, hq]⟩
  · have hle : PySem.W.dataLe false encN = fun p q => decide (p.2 ≤ q.2) := dataLe_tups (fun b : NR => b.2)
    have hp : (bs.mergeSort (PySem.W.dataLe false encN)).Perm bs := List.mergeSort_perm _ _
    have hs2 : (bs.mergeSort (PySem.W.dataLe false encN)).Pairwise (fun x y => x.2 ≤ y.2) := by
      rw [hle]
      have := List.pairwise_mergeSort (le := fun p q : NR => decide (p.2 ≤ q.2)) (fun a b c h1 h2 => by simp only [decide_eq_true_eq] at h1 h2 ⊢; exact List.le_trans h1 h2) (fun a b => by simp only [Bool.or_eq_true, decide_eq_true_eq]; exact List.le_total _ _) bs
      exact this.imp fun h => by simpa using h
    obtain ⟨ep, he'⟩ := PyProof.Rows.sortedAll_at s.heap its out.toArray
    have hlen : ((bs.mergeSort (PySem.W.dataLe false encN)).map (fun b : NR => b.1)).length ≤ sizeLine := by
      rw [List.length_map, hp.length_eq]
      rw [List.length_map] at hz
      exact hz
    exact ⟨.ref _, upd H (s.heap.objs.size + 1) (.lst ((bs.mergeSort (PySem.W.dataLe false encN)).map (fun b : NR => b.1))), I.laid (t' := s.toks) (fun _ _ => PyProof.Rows.sortedAll_old) (Nat.le_succ _) ⟨hlen, out, ep, each_vals hout, he'⟩, rfl, q _ _ hp hs2 (I.hok.fresh (Nat.le_succ _))⟩
theorem dataLt_tups (x y : List Int) : PySem.W.dataLt (.tuple (x.map .int)) (.tuple (y.map .int)) = decide (x < y) := by
  rw [PySem.W.dataLt_tuple]
  exact PySem.W.dataLt_ints x y
theorem minD_tups : ∀ (r : List (List Int)) (x : List Int), ∃ y ∈ x :: r, PySem.W.minD (.tuple (x.map .int)) (r.map fun r => .tuple (r.map .int)) = .tuple (y.map .int) ∧ ∀ z ∈ x :: r, y ≤ z
  | [], x => ⟨x, by simp, rfl, fun z h => by rw [List.mem_singleton.mp h]; exact List.le_refl _⟩
  | y :: r, x => by
    unfold PySem.W.minD
    simp only [List.map_cons, List.foldl_cons, dataLt_tups]
    by_cases q : y < x
    · simp only [decide_eq_true q, if_true]
      obtain ⟨w, hw, e, hl⟩ := minD_tups r y
      refine ⟨w, List.mem_cons_of_mem _ hw, e, fun z hz => ?_⟩
      rcases List.mem_cons.mp hz with rfl | hz
      · exact List.le_trans (hl y List.mem_cons_self) (List.le_of_lt q)
      · exact hl z hz
    · simp only [decide_eq_false q, Bool.false_eq_true, if_false]
      obtain ⟨w, hw, e, hl⟩ := minD_tups r x
      refine ⟨w, ?_, e, fun z hz => ?_⟩
      · rcases List.mem_cons.mp hw with rfl | h
        · exact List.mem_cons_self
        · exact List.mem_cons_of_mem _ (List.mem_cons_of_mem _ h)
      · rcases List.mem_cons.mp hz with rfl | hz
        · exact hl z List.mem_cons_self
        · rcases List.mem_cons.mp hz with rfl | hz
          · exact List.le_trans (hl x List.mem_cons_self) (List.not_lt.mp q)
          · exact hl z (List.mem_cons_of_mem _ hz)
/-- min(xs), tuples of whole numbers, none of them empty -/
def rMinN (K : PySem.W.Frag) : List V → Hp → VK → Prop := fun vs H Q => ∃ (a : Addr) (bs : List NR), vs = [V.ref a] ∧ SqL K H a (bs.map (·.1)) ∧ bs ≠ [] ∧ (∀ b ∈ bs, b.2 ≠ [] ∧ ∃ t, b.1 = V.ref t ∧ SqT K H t (b.2.map V.int)) ∧
  ∀ b ∈ bs, (∀ c ∈ bs, b.2 ≤ c.2) → Q b.1 H
theorem cr_minN (hcalm : X.calm = true) (hu : X.A.units + 64 < cLine) : CallR X (.builtin "min") (rMinN X.K) := by
  intro pins s σ H vs us Q I r h
  obtain ⟨a, bs, rfl, hs, hne, hb, q⟩ := h
  obtain ⟨its, rv, hl, hz⟩ := I.list hs
  rw [Vals.ref1 r]
  have er : PySem.W.EachIs (fun v b => ∃ as, Reads s.heap v (encN b) as) its bs := each_n bs its rv fun b hm u ru => by
    obtain ⟨_, t, et, ht⟩ := hb b hm
    rw [et] at ru
    obtain rfl : u = Value.ref t := ru
    obtain ⟨jt, rj, ⟨o, ho, hc, n, hd⟩, _⟩ := I.tuple ht
    exact ⟨[], Reads.tuple ho hc hd (by simpa using reads_ints rj.ints)⟩
  obtain ⟨as, hr⟩ := PySem.W.each_readsAll encN er
  cases bs with
  | nil => exact absurd rfl hne
  | cons b0 br =>
    have hal : PySem.W.AlikeAll ((b0 :: br).map encN) := ⟨fun x hx y hy => by
      obtain ⟨p, _, rfl⟩ := List.mem_map.mp hx
      obtain ⟨p', _, rfl⟩ := List.mem_map.mp hy
      simpa [PySem.W.alike] using PySem.W.alike_ints p.2 p'.2, fun x hx => by
      obtain ⟨p, _, rfl⟩ := List.mem_map.mp hx
      intro z
      cases z⟩
    have hdep : ∀ l : List NR, PyData.depthAll (l.map encN) ≤ 1 := fun l => by
      induction l with
      | nil => simp [PyData.depthAll]
      | cons p r ih =>
        have := PySem.W.depth_ints p.2
        simp only [List.map_cons, PyData.depthAll, PyData.depth, this]
        omega
    refine PySem.W.min_list_data (x := encN b0) (xs := br.map encN) (I.ok.hd hcalm) hl.isList (by simpa using hr) hal (by have := hdep (b0 :: br); simp only [List.map_cons] at this; omega) fun i v h' tk bs' hi hv hk => ?_
    obtain ⟨w, hw, ew, hle⟩ := minD_tups (br.map (·.2)) b0.2
    have ew' : PySem.W.minD (encN b0) (br.map encN) = .tuple (w.map .int) := by
      rw [← ew, List.map_map]
      rfl
    rw [ew'] at hv
    have hi' : its[i]? = some v := by simpa using hi
    obtain ⟨hlt, _⟩ := List.getElem?_eq_some_iff.mp hi'
    have hlen : its.length = ((b0 :: br).map (·.1)).length := rv.length.symm
    have hlt' : i < (b0 :: br).length := by rw [hlen, List.length_map] at hlt; exact hlt
    have hbi : ((b0 :: br).map (·.1))[i]? = some ((b0 :: br)[i].1) := by rw [List.getElem?_map, List.getElem?_eq_getElem hlt']; rfl
    obtain ⟨u, hu1, ru⟩ := rv.get hbi
    rw [hi'] at hu1
    cases hu1
    have hmem : (b0 :: br)[i] ∈ b0 :: br := List.getElem_mem hlt'
    obtain ⟨_, t, et, ht⟩ := hb _ hmem
    rw [et] at ru
    obtain rfl : v = Value.ref t := ru
    obtain ⟨jt, rj, ⟨o, ho, hc, n, hd⟩, _⟩ := I.tuple ht
    have hv2 : Reads h' (Value.ref t) (.tuple ((b0 :: br)[i].2.map .int)) [] := Reads.tuple (hk _ _ ho) hc hd (by simpa using reads_ints rj.ints)
    have can : ∀ l : List Int, PyData.canLayAll0 (l.map PyData.int) = true := fun l => by
      induction l with
      | nil => rfl
      | cons x r ih => simpa [PyData.canLayAll0, PyData.canLay0] using ih
    have eq1 := PySem.SeqAt.Reads.unique _ _ _ _ _ (by simpa [PyData.canLay0] using can _) hv2 hv
    have eq2 : ((b0 :: br)[i].2.map PyData.int) = w.map .int := by injection eq1
    have inj : ∀ l l' : List Int, l.map PyData.int = l'.map .int → l = l' := by
      intro l
      induction l with
      | nil => intro l' h; cases l' with
        | nil => rfl
        | cons _ _ => simp at h
      | cons x r ih => intro l' h; cases l' with
        | nil => simp at h
        | cons y r' =>
          simp only [List.map_cons, List.cons.injEq, PyData.int.injEq] at h
          rw [h.1, ih _ h.2]
    have eq3 := inj _ _ eq2
    have fin := q _ hmem fun c hc' => by
      rw [eq3]
      exact hle c.2 (by rw [← List.map_cons (f := fun b : NR => b.2)]; exact List.mem_map_of_mem hc')
    rw [et] at fin
    exact ⟨.ref t, H, I.kept (t' := tk) hk, rfl, fin⟩
/-- sorted(xs), one item or none -/
def rSort1 (K : PySem.W.Frag) : List V → Hp → VK → Prop := fun vs H Q => ∃ (a : Addr) (xs : List V), vs = [V.ref a] ∧ SqL K H a xs ∧ xs.length ≤ 1 ∧ ∀ (p : Addr), H p = none → Q (.ref p) (upd H p (.lst xs))
theorem perm_small {α : Type} : ∀ {xs ys : List α}, xs.Perm ys → ys.length ≤ 1 → xs = ys
  | xs, [], h, _ => List.Perm.eq_nil h
  | xs, [y], h, _ => List.perm_singleton.mp h
  | _, _ :: _ :: _, _, l => by simp at l
theorem cr_sort1 : CallR X (.builtin "sorted") (rSort1 X.K) := by
  intro pins s σ H vs us Q I r h
  obtain ⟨a, xs, rfl, hs, h1, q⟩ := h
  obtain ⟨its, rv, hl, hz⟩ := I.list hs
  rw [Vals.ref1 r]
  have hl1 : its.length ≤ 1 := by rw [← rv.length]; exact h1
  refine SrtO.sorted_ord SrtO.swo_int hl.isList (by rw [← rv.length]; exact hz) (fun h2 => absurd h2 (by omega)) fun out _ h2 => ?_
  obtain rfl : out = its := perm_small h2.perm hl1
  obtain ⟨ep, he'⟩ := PyProof.Rows.sortedAll_at s.heap out out.toArray
  exact ⟨.ref _, upd H (s.heap.objs.size + 1) (.lst xs), I.laid (t' := s.toks) (fun _ _ => PyProof.Rows.sortedAll_old) (Nat.le_succ _) ⟨hz, out, ep, rv, he'⟩, rfl, q _ (I.hok.fresh (Nat.le_succ _))⟩
end
end Ev

set_option Elab.async false
set_option linter.all false
set_option maxRecDepth 100000
set_option autoImplicit false
/-! Ev, part H: calls, built-ins, methods. -/
namespace Ev
open PySem PySem.Spec PyProof.Rows L2
def notStar : Expr → Bool
  | .Starred _ _ => false
  | _ => true
theorem star_cons {e : Expr} {es : List Expr} {env : PySem.Env} (h : notStar e = true) : starEach (e :: es) env = (false, eval e env) :: starEach es env := by
  cases e <;> first | rfl | simp [notStar] at h
theorem star_any : ∀ {es : List Expr} {env : PySem.Env} {pos : Pos}, es.all notStar = true → (backTo pos (starEach es env)).any (·.1) = false
  | [], _, _, _ => rfl
  | e :: es, env, pos, h => by
    simp only [List.all_cons, Bool.and_eq_true] at h
    rw [star_cons h.1]
    have := star_any (env := env) (pos := pos) h.2
    show (false || (backTo pos (starEach es env)).any (·.1)) = false
    rw [this]
    rfl
/-- a def's promise, by what the evaluator says of it -/
def spD (K : PySem.W.Frag) (xv : Nat → Value) (n : Nat) (g : List D → Store → R D) : Sp := fun vs H Q E => vs.length = n ∧ ∃ m ds st, RDs K m H ds vs ∧ RS K m H st ∧ (match g ds st with
  | .ok d st' => ∀ m' H' v, Lat m H m' H' → RD K m' H' d v → RS K m' H' st' → Q v H'
  | .exc c st' => ∀ m' H', Lat m H m' H' → RS K m' H' st' → E (xv c) none H'
  | .stuck => False)
section
variable {X : Cx} {xv : Nat → Value} {W : WX} {a b c e : Expr} {pos p2 p : Pos} {f h fk : Env → Store → R D} {fs : Env → Store → R (List D)} {g : List D → Store → R D}
theorem e_call {k n : Nat} {fa : Addr} {fd : FuncData} {ps : List Str} {x : Str} {es : List Expr} (F : FnOk X.prog X.w X.K X.mg X.base (L2.CX X.prog X.w) k fa fd ps (spD X.K xv n g)) (hr : Room k X.A) (tk : Takes X W) (hg : Gl X x) (hm : X.mg x = some (.ref fa))
    (hk : PySem.W.keepIn X.K (.ref fa) = true) (hb : Binds X.K fd ps []) (ha : PA X (e :: es) (tAv X.K xv W fs)) (hl : ∀ env st ds st', fs env st = .ok ds st' → ds.length = n) (hdb : (x == ("__debug__" : Str)) = false) (hst : (e :: es).all notStar = true) :
    PE X (.Call (.Name x p) (e :: es) [] pos) (tEv X.K xv W fun env st => (fs env st).bind fun ds st => g ds st) := by
  simp only [List.all_cons, Bool.and_eq_true] at hst
  refine PE.use (pe_callSD (E := fun σ => WE W σ) F hr hg hm hk hb .nil (fun σ => passAt tk σ) ha hdb (star_cons hst.1) (star_any hst.2)) fun σ H Q ⟨m, env, st, re, rs, p⟩ => ?_
  refine ⟨m, env, st, re, rs, (p.bindE (rel := RDs X.K)).mono fun vs H1 ⟨ds, m1, st1, er, L1, x1, rs1, g1, p1⟩ => ?_⟩
  rw [List.append_nil]
  refine ⟨by rw [← x1.length]; exact hl env st ds st1 er, m1, ds, st1, x1, rs1, ?_⟩
  revert p1
  generalize g ds st1 = r
  intro p1
  cases r with
  | ok d st' => exact fun m' H' v L y rs' gd => p1 m' H' v L y rs' gd
  | exc c st' => exact fun m' H' L rs' => p1 m' H' L rs'
  | stuck => exact p1
theorem e_call0 {k : Nat} {fa : Addr} {fd : FuncData} {ps : List Str} {x : Str} (F : FnOk X.prog X.w X.K X.mg X.base (L2.CX X.prog X.w) k fa fd ps (spD X.K xv 0 g)) (hr : Room k X.A) (tk : Takes X W) (hg : Gl X x) (hm : X.mg x = some (.ref fa))
    (hk : PySem.W.keepIn X.K (.ref fa) = true) (hb : Binds X.K fd ps []) (hdb : (x == ("__debug__" : Str)) = false) :
    PE X (.Call (.Name x p) [] [] pos) (tEv X.K xv W fun _ st => g [] st) := by
  refine ⟨fun pins s σ H Q I ⟨m, env, st, re, rs, p⟩ => ?_⟩
  refine wpAny_Call_Name_kw (ld_glob I hg hm ?_ hdb)
  refine thn (PySem.W.callWith_K0 I.kIn hk (run_fnSD (us := []) (vs := []) (dvs := []) (E := fun σ => WE W σ) (Q := fun v H' => Good X.K H' → Q v H') F hr hb .nil (passAt tk σ) I .nil ?_)) fun v s1 ⟨x, H1, I1, r, q1⟩ => ⟨x, H1, I1, r, q1 (good_of I1)⟩
  refine ⟨rfl, m, [], st, .nil, rs, ?_⟩
  have p : Post X.K xv W (RD X.K) σ m H (g [] st) Q := p
  revert p
  generalize g [] st = r
  intro p1
  cases r with
  | ok d st' => exact fun m' H' v L y rs' gd => p1 m' H' v L y rs' gd
  | exc c st' => exact fun m' H' L rs' => p1 m' H' L rs'
  | stuck => exact p1

/-! ### built-ins -/
def BiE (X : Cx) (xv : Nat → Value) (W : WX) (F : Value) (k : List D → Store → R D) : Prop :=
  ∃ r : List V → Hp → VK → Prop, CallR X F r ∧ ∀ (m : Ms) (H : Hp) (st : Store) (ds : List D) (vs : List V) (σ : L2.St) (Q : VK), Good X.K H → RS X.K m H st → RDs X.K m H ds vs → PostF X.K xv W σ m H (k ds st) Q → r vs H (fun z H1 => Good X.K H1 → Q z H1)
theorem e_bi {id : String} {k : List D → Store → R D} {x : Str} {es : List Expr} (B : BiE X xv W (.builtin id) k) (hg : Gl X x) (hm : X.mg x = none) (hv : bootBuiltins x = some (.builtin id)) (hn : x ≠ "__name__") (hdb : (x == ("__debug__" : Str)) = false)
    (ha : PA X (e :: es) (tAv X.K xv W fs)) (hst : (e :: es).all notStar = true) : PE X (.Call (.Name x p) (e :: es) [] pos) (tEv X.K xv W fun env st => (fs env st).bind fun ds st => k ds st) := by
  simp only [List.all_cons, Bool.and_eq_true] at hst
  obtain ⟨r, hr, w⟩ := B
  refine PE.use (pe_callB hr hg hm hv ha hn hdb (star_cons hst.1) (star_any hst.2)) fun σ H Q ⟨m, env, st, re, rs, p⟩ => ?_
  refine ⟨m, env, st, re, rs, (p.bind (rel := RDs X.K)).mono fun vs H1 ⟨ds, m1, st1, L1, x1, rs1, g1, p1⟩ => ?_⟩
  exact w m1 H1 st1 ds vs σ Q g1 rs1 x1 p1.toF
theorem e_biOwn {id : String} {k : List D → Store → R D} {x : Str} {es : List Expr} (B : BiE X xv W (.builtin id) k) (hg : Gl X x) (hm : X.mg x = none) (hv : bootBuiltins x = some (.builtin id)) (hn : x ≠ "__name__") (hdb : (x == ("__debug__" : Str)) = false)
    (ha : PA X (e :: es) (tAv X.K xv W fs)) (hst : (e :: es).all notStar = true) : PE X (.Call (.Name x p) (e :: es) [] pos) (tEv X.K xv W fun env st => ((fs env st).bind fun ds st => k ds st).bind ownD) := by
  simp only [List.all_cons, Bool.and_eq_true] at hst
  obtain ⟨r, hr, w⟩ := B
  refine PE.use (pe_callB hr hg hm hv ha hn hdb (star_cons hst.1) (star_any hst.2)) fun σ H Q ⟨m, env, st, re, rs, p⟩ => ?_
  simp only [R.bind_assoc] at p
  refine ⟨m, env, st, re, rs, (p.bind (rel := RDs X.K)).mono fun vs H1 ⟨ds, m1, st1, L1, x1, rs1, g1, p1⟩ => ?_⟩
  exact w m1 H1 st1 ds vs σ Q g1 rs1 x1 p1.own
theorem e_ty {T : String} {k : List D → Store → R D} {x : Str} {es : List Expr} (B : BiE X xv W (.type T) k) (hg : Gl X x) (hm : X.mg x = none) (hv : bootBuiltins x = some (.type T)) (hn : x ≠ "__name__") (hdb : (x == ("__debug__" : Str)) = false)
    (ha : PA X (e :: es) (tAv X.K xv W fs)) (hst : (e :: es).all notStar = true) : PE X (.Call (.Name x p) (e :: es) [] pos) (tEv X.K xv W fun env st => (fs env st).bind fun ds st => k ds st) := by
  simp only [List.all_cons, Bool.and_eq_true] at hst
  obtain ⟨r, hr, w⟩ := B
  refine PE.use (pe_callTy hr hg hm hv ha hn hdb (star_cons hst.1) (star_any hst.2)) fun σ H Q ⟨m, env, st, re, rs, p⟩ => ?_
  refine ⟨m, env, st, re, rs, (p.bind (rel := RDs X.K)).mono fun vs H1 ⟨ds, m1, st1, L1, x1, rs1, g1, p1⟩ => ?_⟩
  exact w m1 H1 st1 ds vs σ Q g1 rs1 x1 p1.toF
theorem e_tyOwn {T : String} {k : List D → Store → R D} {x : Str} {es : List Expr} (B : BiE X xv W (.type T) k) (hg : Gl X x) (hm : X.mg x = none) (hv : bootBuiltins x = some (.type T)) (hn : x ≠ "__name__") (hdb : (x == ("__debug__" : Str)) = false)
    (ha : PA X (e :: es) (tAv X.K xv W fs)) (hst : (e :: es).all notStar = true) : PE X (.Call (.Name x p) (e :: es) [] pos) (tEv X.K xv W fun env st => ((fs env st).bind fun ds st => k ds st).bind ownD) := by
  simp only [List.all_cons, Bool.and_eq_true] at hst
  obtain ⟨r, hr, w⟩ := B
  refine PE.use (pe_callTy hr hg hm hv ha hn hdb (star_cons hst.1) (star_any hst.2)) fun σ H Q ⟨m, env, st, re, rs, p⟩ => ?_
  simp only [R.bind_assoc] at p
  refine ⟨m, env, st, re, rs, (p.bind (rel := RDs X.K)).mono fun vs H1 ⟨ds, m1, st1, L1, x1, rs1, g1, p1⟩ => ?_⟩
  exact w m1 H1 st1 ds vs σ Q g1 rs1 x1 p1.own

/-- one argument -/
theorem bi1 {F : Value} {b : BI} (h2 : b ≠ .max ∧ b ≠ .min ∧ b ≠ .gcd) (r : List V → Hp → VK → Prop) (hr : CallR X F r) (w : ∀ (m : Ms) (H : Hp) (st : Store) (d : D) (v : V) (σ : L2.St) (Q : VK), Good X.K H → RS X.K m H st → RD X.K m H d v → PostF X.K xv W σ m H (biD1 b d st) Q → r [v] H (fun z H1 => Good X.K H1 → Q z H1)) : BiE X xv W F (biD b) := by
  refine ⟨r, hr, fun m H st ds vs σ Q gd rs x p => ?_⟩
  match ds, x, p with
  | [], x, p => exact False.elim p
  | [d], x, p =>
    simp only [RDs] at x
    obtain ⟨v, r', rfl, x1, rfl⟩ := x
    exact w m H st d v σ Q gd rs x1 p
  | [d, d'], x, p =>
    cases b <;> first | exact False.elim p | exact absurd rfl h2.1 | exact absurd rfl h2.2.1 | exact absurd rfl h2.2.2
  | _ :: _ :: _ :: _, x, p => exact False.elim p
theorem bi_len : BiE X xv W (.builtin "len") (biD .len) := bi1 ⟨by decide, by decide, by decide⟩ _ call_len fun m H st d v σ Q gd rs x p => by
  obtain ⟨n, e, p⟩ := PostF.ofO (o := lenD st d) p
  have fin : ∀ k : Nat, n = k → LenV X.K v H k → ∃ x n, [v] = [x] ∧ LenV X.K x H n ∧ (Good X.K H → Q (.int n) H) := fun k ek lv => ⟨v, k, rfl, lv, fun g => by
    subst ek
    exact PostF.here (fun _ z => by cases z) p (by simp only [RD]) rs g⟩
  have seq : (items st d).map (fun l => (l.length : Int)) = some n → ∃ x n, [v] = [x] ∧ LenV X.K x H n ∧ (Good X.K H → Q (.int n) H) := fun e' => by
    rw [Option.map_eq_some_iff] at e'
    obtain ⟨l, e', e2⟩ := e'
    obtain ⟨a, vs, rfl, q1, q2⟩ := items_at rs x e'
    refine fin l.length e2.symm ?_
    rw [q1.length]
    rcases q2 with ⟨q2, _⟩ | ⟨q2, _⟩
    · exact .inr ⟨vs, q2, rfl⟩
    · exact .inl ⟨vs, q2, rfl⟩
  cases d with
  | str s =>
    simp only [lenD] at e
    split at e
    · rename_i hl
      cases e
      simp only [RD] at x
      subst x
      exact fin s.length rfl ⟨by rw [← line_eq]; exact hl, rfl⟩
    · cases e
  | _ => exact seq e
theorem bi_abs : BiE X xv W (.builtin "abs") (biD .abs) := bi1 ⟨by decide, by decide, by decide⟩ _ call_abs fun m H st d v σ Q gd rs x p => by
  obtain ⟨n, e, p⟩ := PostF.ofO (o := absD d) p
  cases d with
  | int i =>
    cases e
    simp only [RD] at x
    subst x
    exact ⟨i, rfl, fun g => PostF.here (fun _ z => by cases z) p (by simp only [RD]) rs g⟩
  | _ => cases e
theorem bi_int : BiE X xv W (.type "int") (biD .int) := bi1 ⟨by decide, by decide, by decide⟩ _ call_int1 fun m H st d v σ Q gd rs x p => by
  obtain ⟨n, e, p⟩ := PostF.ofO (o := intD d) p
  cases d with
  | int i =>
    cases e
    simp only [RD] at x
    subst x
    exact .inl ⟨n, rfl, fun g => PostF.here (fun _ z => by cases z) p (by simp only [RD]) rs g⟩
  | bl i =>
    cases e
    simp only [RD] at x
    subst x
    exact .inr ⟨i, rfl, fun g => PostF.here (fun _ z => by cases z) p (by simp only [RD]) rs g⟩
  | _ => cases e
theorem intsD_eq : ∀ {l : List D} {ns : List Int}, intsD l = some ns → l = ns.map D.int
  | [], ns, h => by
    simp only [intsD, Option.some.injEq] at h
    subst h
    rfl
  | d :: l, ns, h => by
    cases d <;> simp only [intsD] at h
    case int i =>
      rw [Option.map_eq_some_iff] at h
      obtain ⟨r, h, rfl⟩ := h
      rw [intsD_eq h]
      rfl
    all_goals cases h
theorem boolsD_eq : ∀ {l : List D} {ns : List Bool}, boolsD l = some ns → l = ns.map D.bl
  | [], ns, h => by
    simp only [boolsD, Option.some.injEq] at h
    subst h
    rfl
  | d :: l, ns, h => by
    cases d <;> simp only [boolsD] at h
    case bl i =>
      rw [Option.map_eq_some_iff] at h
      obtain ⟨r, h, rfl⟩ := h
      rw [boolsD_eq h]
      rfl
    all_goals cases h
theorem intsOf_at {K : PySem.W.Frag} {m : Ms} {H : Hp} {st : Store} {d : D} {v : V} {ns : List Int} (rs : RS K m H st) (x : RD K m H d v) (h : intsOf st d = some ns) : ∃ a, v = .ref a ∧ SqL K H a (ns.map V.int) := by
  unfold intsOf at h
  rw [Option.bind_eq_some_iff] at h
  obtain ⟨l, h1, h2⟩ := h
  obtain ⟨a, vs, rfl, q1, q2⟩ := listItems_at rs x h1
  rw [intsD_eq h2] at q1
  rw [q1.ints] at q2
  exact ⟨a, rfl, q2⟩
theorem boolsOf_at {K : PySem.W.Frag} {m : Ms} {H : Hp} {st : Store} {d : D} {v : V} {ns : List Bool} (rs : RS K m H st) (x : RD K m H d v) (h : boolsOf st d = some ns) : ∃ a, v = .ref a ∧ SqL K H a (ns.map V.bl) := by
  unfold boolsOf at h
  rw [Option.bind_eq_some_iff] at h
  obtain ⟨l, h1, h2⟩ := h
  obtain ⟨a, vs, rfl, q1, q2⟩ := listItems_at rs x h1
  rw [boolsD_eq h2] at q1
  rw [q1.bls] at q2
  exact ⟨a, rfl, q2⟩
theorem bi_sum (hc : X.calm = true) : BiE X xv W (.builtin "sum") (biD .sum) := bi1 ⟨by decide, by decide, by decide⟩ _ (cr_sum hc) fun m H st d v σ Q gd rs x p => by
  obtain ⟨ns, e, p⟩ := PostF.ofO (o := intsOf st d) p
  obtain ⟨a, rfl, q⟩ := intsOf_at rs x e
  exact ⟨a, ns, rfl, q, fun g => PostF.here (fun _ z => by cases z) p (by simp only [RD]) rs g⟩
theorem bi_all (hc : X.calm = true) : BiE X xv W (.builtin "all") (biD .all) := bi1 ⟨by decide, by decide, by decide⟩ _ (cr_all hc) fun m H st d v σ Q gd rs x p => by
  obtain ⟨ns, e, p⟩ := PostF.ofO (o := boolsOf st d) p
  obtain ⟨a, rfl, q⟩ := boolsOf_at rs x e
  exact ⟨a, ns, rfl, q, fun g => PostF.here (fun _ z => by cases z) p (by simp only [RD]) rs g⟩
theorem bi_any (hc : X.calm = true) : BiE X xv W (.builtin "any") (biD .any) := bi1 ⟨by decide, by decide, by decide⟩ _ (cr_any hc) fun m H st d v σ Q gd rs x p => by
  obtain ⟨ns, e, p⟩ := PostF.ofO (o := boolsOf st d) p
  obtain ⟨a, rfl, q⟩ := boolsOf_at rs x e
  exact ⟨a, ns, rfl, q, fun g => PostF.here (fun _ z => by cases z) p (by simp only [RD]) rs g⟩
theorem bi_tuple : BiE X xv W (.type "tuple") (biD .tuple) := bi1 ⟨by decide, by decide, by decide⟩ _ call_tuple_of fun m H st d v σ Q gd rs x p => by
  obtain ⟨l, e, p⟩ := PostF.ofO (o := items st d) p
  obtain ⟨a, vs, rfl, q1, q2⟩ := items_at rs x e
  rcases q2 with ⟨q2, rfl⟩ | ⟨q2, _⟩
  · exact ⟨a, vs, rfl, .inr ⟨q2, fun g => PostF.here (fun _ z => by cases z) p x rs g⟩⟩
  · exact ⟨a, vs, rfl, .inl ⟨q2, fun c hc g => PostF.at_ (fun _ z => by cases z) p (.alloc hc) (RD.newT rs q1 hc) (rs.alloc hc) g⟩⟩
theorem bi_list : BiE X xv W (.type "list") (biD .list) := bi1 ⟨by decide, by decide, by decide⟩ _ call_list_of fun m H st d v σ Q gd rs x p => by
  obtain ⟨l, e, p⟩ := PostF.ofO (o := items st d) p
  obtain ⟨a, vs, rfl, q1, q2⟩ := items_at rs x e
  refine ⟨a, vs, rfl, ?_, fun c hc g => p m H c vs .refl rs q1 hc g⟩
  rcases q2 with ⟨q2, _⟩ | ⟨q2, _⟩
  · exact .inr q2
  · exact .inl q2
theorem insI_perm (x : Int) : ∀ l : List Int, (insI x l).Perm (x :: l)
  | [] => .refl _
  | y :: r => by
    unfold insI
    split
    · exact .refl _
    · exact ((insI_perm x r).cons y).trans (.swap x y r)
theorem sortI_perm : ∀ l : List Int, (sortI l).Perm l
  | [] => .refl _
  | x :: r => (insI_perm x _).trans ((sortI_perm r).cons x)
theorem insI_sorted (x : Int) : ∀ l : List Int, l.Pairwise (· ≤ ·) → (insI x l).Pairwise (· ≤ ·)
  | [], _ => by simp [insI]
  | y :: r, h => by
    unfold insI
    rw [List.pairwise_cons] at h
    split
    · rename_i hxy
      rw [List.pairwise_cons, List.pairwise_cons]
      exact ⟨fun z hz => by
        rcases List.mem_cons.mp hz with rfl | hz
        · exact hxy
        · exact Int.le_trans hxy (h.1 z hz), h⟩
    · rename_i hxy
      rw [List.pairwise_cons]
      refine ⟨fun z hz => ?_, insI_sorted x r h.2⟩
      rcases List.mem_cons.mp ((insI_perm x r).mem_iff.mp hz) with rfl | hz
      · omega
      · exact h.1 z hz
theorem sortI_sorted : ∀ l : List Int, (sortI l).Pairwise (· ≤ ·)
  | [] => .nil
  | x :: r => insI_sorted x _ (sortI_sorted r)
theorem perm_sorted_eq : ∀ {l r : List Int}, l.Perm r → l.Pairwise (· ≤ ·) → r.Pairwise (· ≤ ·) → l = r
  | [], r, p, _, _ => by
    have := p.length_eq
    cases r with
    | nil => rfl
    | cons _ _ => simp at this
  | a :: l, [], p, _, _ => by
    have := p.length_eq
    simp at this
  | a :: l, b :: r, p, h1, h2 => by
    rw [List.pairwise_cons] at h1 h2
    have ab : a = b := by
      have m1 : a ∈ b :: r := p.mem_iff.mp List.mem_cons_self
      have m2 : b ∈ a :: l := p.mem_iff.mpr List.mem_cons_self
      rcases List.mem_cons.mp m1 with e | e
      · exact e
      · rcases List.mem_cons.mp m2 with e2 | e2
        · exact e2.symm
        · have := h1.1 b e2
          have := h2.1 a e
          omega
    subst ab
    rw [perm_sorted_eq (List.Perm.cons_inv p) h1.2 h2.2]
theorem leR_iff : ∀ a b : List Int, leR a b = true ↔ a ≤ b
  | [], b => by simp [leR]
  | x :: xs, [] => by simp [leR]
  | x :: xs, y :: ys => by
    simp only [leR]
    by_cases h : x = y
    · subst h
      rw [if_pos rfl, leR_iff xs ys, List.cons_le_cons_iff]
      simp
    · rw [if_neg h, decide_eq_true_eq, List.cons_le_cons_iff]
      simp [h]
theorem insR_perm (x : List Int) : ∀ l, (insR x l).Perm (x :: l)
  | [] => List.Perm.refl _
  | y :: r => by
    simp only [insR]
    split
    · exact List.Perm.refl _
    · exact (List.Perm.cons y (insR_perm x r)).trans (List.Perm.swap x y r)
theorem insR_sorted (x : List Int) : ∀ l : List (List Int), l.Pairwise (· ≤ ·) → (insR x l).Pairwise (· ≤ ·)
  | [], _ => List.pairwise_singleton _ _
  | y :: r, h => by
    simp only [insR]
    rw [List.pairwise_cons] at h
    split
    · rename_i q
      rw [leR_iff] at q
      rw [List.pairwise_cons]
      refine ⟨fun z hz => ?_, List.pairwise_cons.mpr h⟩
      rcases List.mem_cons.mp hz with rfl | hz
      · exact q
      · exact List.le_trans q (h.1 z hz)
    · rename_i q
      rw [leR_iff] at q
      rw [List.pairwise_cons]
      refine ⟨fun z hz => ?_, insR_sorted x r h.2⟩
      rcases List.mem_cons.mp ((insR_perm x r).mem_iff.mp hz) with rfl | hz
      · exact (List.le_total _ _).resolve_left q
      · exact h.1 z hz
theorem sortR_ok : ∀ (r acc : List (List Int)), acc.Pairwise (· ≤ ·) → (sortR acc r).Perm (r ++ acc) ∧ (sortR acc r).Pairwise (· ≤ ·)
  | [], acc, h => ⟨List.Perm.refl _, h⟩
  | x :: r, acc, h => by
    obtain ⟨a, b⟩ := sortR_ok r (insR x acc) (insR_sorted x acc h)
    refine ⟨a.trans ?_, b⟩
    exact (List.Perm.append_left r (insR_perm x acc)).trans List.perm_middle
theorem rows_uniq : ∀ {l m : List (List Int)}, l.Perm m → l.Pairwise (· ≤ ·) → m.Pairwise (· ≤ ·) → l = m := fun h h1 h2 => h.eq_of_pairwise (fun a b _ _ h h' => List.le_antisymm h h') h1 h2
theorem rowsD_eq : ∀ {l : List D} {rs : List (List Int)}, rowsD l = some rs → l = rs.map (fun r => D.tup (r.map .int)) ∧ ∀ r ∈ rs, r ≠ []
  | [], rs, h => by
    cases h
    exact ⟨rfl, fun r hr => by simp at hr⟩
  | d :: r, rs, h => by
    cases d with
    | tup l =>
      simp only [rowsD] at h
      split at h
      · rename_i x xs rs' h1 h2
        cases h
        obtain ⟨e, q⟩ := rowsD_eq h2
        have e1 := intsD_eq h1
        refine ⟨by rw [List.map_cons, ← e, e1], fun r hr => ?_⟩
        rcases List.mem_cons.mp hr with rfl | hr
        · simp
        · exact q r hr
      · cases h
    | _ => simp [rowsD] at h
/-- the items with the numbers in them -/
theorem rows_at {K : PySem.W.Frag} {m : Ms} {H : Hp} : ∀ {rs : List (List Int)} {vs : List V}, RDs K m H (rs.map fun r => D.tup (r.map .int)) vs → ∃ bs : List NR, vs = bs.map (·.1) ∧ rs = bs.map (·.2) ∧ ∀ b ∈ bs, (∃ t, b.1 = V.ref t ∧ SqT K H t (b.2.map V.int)) ∧ RD K m H (.tup (b.2.map .int)) b.1
  | [], vs, h => by
    simp only [List.map_nil, RDs] at h
    subst h
    exact ⟨[], rfl, rfl, fun b hb => by simp at hb⟩
  | r :: rs, vs, h => by
    simp only [List.map_cons, RDs] at h
    obtain ⟨v, vs', rfl, x, h⟩ := h
    obtain ⟨bs, e1, e2, q⟩ := rows_at h
    have x' := x
    simp only [RD] at x
    obtain ⟨a, ws, rfl, hT, y⟩ := x
    rw [RDs.ints y] at hT
    refine ⟨(.ref a, r) :: bs, by rw [e1]; rfl, by rw [e2]; rfl, fun b hb => ?_⟩
    rcases List.mem_cons.mp hb with rfl | hb
    · exact ⟨⟨a, rfl, hT⟩, x'⟩
    · exact q b hb
theorem rows_back {K : PySem.W.Frag} {m : Ms} {H : Hp} : ∀ {bs : List NR}, (∀ b ∈ bs, RD K m H (.tup (b.2.map .int)) b.1) → RDs K m H (bs.map fun b => D.tup (b.2.map .int)) (bs.map (·.1))
  | [], _ => RDs.nil
  | b :: bs, h => RDs.cons (h b List.mem_cons_self) (rows_back fun c hc => h c (List.mem_cons_of_mem _ hc))
theorem bi_sorted (hu : X.A.units + 64 < cLine) : BiE X xv W (.builtin "sorted") (biD .sorted) := bi1 ⟨by decide, by decide, by decide⟩ (fun vs H Q => rSortedI X.K vs H Q ∨ (rSortN X.K vs H Q ∨ rSort1 X.K vs H Q))
  (fun pins s σ H vs us Q I r h => h.elim (cr_sortedI pins s σ H vs us Q I r) fun h => h.elim (cr_sortN hu pins s σ H vs us Q I r) (cr_sort1 pins s σ H vs us Q I r)) fun m H st d v σ Q gd rs x p => by
  obtain ⟨l, e, p⟩ := PostF.ofO (o := sortAny st d) p
  unfold sortAny at e
  cases e1 : intsOf st d with
  | some ns =>
    rw [e1] at e
    cases e
    obtain ⟨a, rfl, q⟩ := intsOf_at rs x e1
    refine .inl ⟨a, ns, rfl, q, fun ns' c pm so hc g => ?_⟩
    have e : ns' = sortI ns := perm_sorted_eq (pm.trans (sortI_perm ns).symm) so (sortI_sorted ns)
    subst e
    exact p m H c _ .refl rs (RDs.ofInts _) hc g
  | none =>
    rw [e1] at e
    have e : sortO st d = some l := e
    unfold sortO at e
    rw [Option.bind_eq_some_iff] at e
    obtain ⟨l0, h1, h2⟩ := e
    obtain ⟨a, vs, rfl, q1, q2⟩ := listItems_at rs x h1
    split at h2
    · rename_i hl
      cases h2
      exact .inr (.inr ⟨a, vs, rfl, q2, by rw [← q1.length]; exact hl, fun c hc g => p m H c _ .refl rs q1 hc g⟩)
    · rw [Option.map_eq_some_iff] at h2
      obtain ⟨rows, h2, rfl⟩ := h2
      obtain ⟨el, hne⟩ := rowsD_eq h2
      rw [el] at q1
      obtain ⟨bs, rfl, er, hb⟩ := rows_at q1
      refine .inr (.inl ⟨a, bs, rfl, q2, fun b hm => ⟨hne b.2 (by rw [er]; exact List.mem_map_of_mem hm), (hb b hm).1⟩, fun cs c pm so hc g => ?_⟩)
      have s1 := sortR_ok rows [] List.Pairwise.nil
      rw [List.append_nil] at s1
      have e3 : cs.map (·.2) = sortR [] rows := rows_uniq (((pm.map (·.2)).trans (by rw [← er])).trans s1.1.symm) (List.pairwise_map.mpr so) s1.2
      have q5 := rows_back (K := X.K) (m := m) (H := H) (bs := cs) fun b hm => (hb b (pm.mem_iff.mp hm)).2
      have e4 : (sortR [] rows).map (fun r => D.tup (r.map .int)) = cs.map fun b => D.tup (b.2.map .int) := by rw [← e3, List.map_map]; rfl
      rw [e4] at p
      exact p m H c _ .refl rs q5 hc g
theorem maxI_mem : ∀ (l : List Int) (x : Int), maxI x l ∈ x :: l
  | [], x => by simp [maxI]
  | y :: r, x => by
    unfold maxI
    have h := maxI_mem r (if x < y then y else x)
    rcases List.mem_cons.mp h with h | h
    · rw [h]
      split <;> simp
    · exact List.mem_cons_of_mem _ (List.mem_cons_of_mem _ h)
theorem maxI_ge : ∀ (l : List Int) (x : Int), ∀ y ∈ x :: l, y ≤ maxI x l
  | [], x, y, h => by
    have : y = x := by simpa using h
    subst this
    exact Int.le_refl _
  | z :: r, x, y, h => by
    unfold maxI
    have ih := maxI_ge r (if x < z then z else x)
    have h0 := ih _ List.mem_cons_self
    rcases List.mem_cons.mp h with rfl | h
    · refine Int.le_trans ?_ h0
      split <;> omega
    · rcases List.mem_cons.mp h with rfl | h
      · refine Int.le_trans ?_ h0
        split <;> omega
      · exact ih y (List.mem_cons_of_mem _ h)
theorem minI_mem : ∀ (l : List Int) (x : Int), minI x l ∈ x :: l
  | [], x => by simp [minI]
  | y :: r, x => by
    unfold minI
    have h := minI_mem r (if y < x then y else x)
    rcases List.mem_cons.mp h with h | h
    · rw [h]
      split <;> simp
    · exact List.mem_cons_of_mem _ (List.mem_cons_of_mem _ h)
theorem minI_le : ∀ (l : List Int) (x : Int), ∀ y ∈ x :: l, minI x l ≤ y
  | [], x, y, h => by
    have : y = x := by simpa using h
    subst this
    exact Int.le_refl _
  | z :: r, x, y, h => by
    unfold minI
    have ih := minI_le r (if z < x then z else x)
    have h0 := ih _ List.mem_cons_self
    rcases List.mem_cons.mp h with rfl | h
    · refine Int.le_trans h0 ?_
      split <;> omega
    · rcases List.mem_cons.mp h with rfl | h
      · refine Int.le_trans h0 ?_
        split <;> omega
      · exact ih y (List.mem_cons_of_mem _ h)
theorem bi_gcd : BiE X xv W (.builtin "math.gcd") (biD .gcd) := by
  refine ⟨rGcd, cr_gcd, fun m H st ds vs σ Q gd rs x p => ?_⟩
  match ds, x, p with
  | [], x, p => exact False.elim p
  | [d], x, p => exact False.elim p
  | [d, d'], x, p =>
    simp only [RDs] at x
    obtain ⟨v, r', rfl, x1, v', r'', rfl, x2, rfl⟩ := x
    obtain ⟨n, e, p⟩ := PostF.ofO (o := gcdD d d') p
    cases d <;> first | cases e | skip
    cases d' <;> first | cases e | skip
    simp only [RD] at x1 x2
    subst x1 x2
    exact ⟨_, _, rfl, fun g => PostF.here (fun _ z => by cases z) p (by simp only [RD]) rs g⟩
  | _ :: _ :: _ :: _, x, p => exact False.elim p
/-- a module's name for a built-in function -/
theorem e_bfun {id : String} {k : List D → Store → R D} {x : Str} {es : List Expr} (B : BiE X xv W (.builtin id) k) (hg : Gl X x) (hm : X.mg x = some (.builtin id)) (hdb : (x == ("__debug__" : Str)) = false)
    (ha : PA X (e :: es) (tAv X.K xv W fs)) (hst : (e :: es).all notStar = true) : PE X (.Call (.Name x p) (e :: es) [] pos) (tEv X.K xv W fun env st => (fs env st).bind fun ds st => k ds st) := by
  simp only [List.all_cons, Bool.and_eq_true] at hst
  obtain ⟨r, hr, w⟩ := B
  refine PE.use (pe_callBfun hr hg hm ha hdb (star_cons hst.1) (star_any hst.2)) fun σ H Q ⟨m, env, st, re, rs, p⟩ => ?_
  refine ⟨m, env, st, re, rs, (p.bind (rel := RDs X.K)).mono fun vs H1 ⟨ds, m1, st1, L1, x1, rs1, g1, p1⟩ => ?_⟩
  exact w m1 H1 st1 ds vs σ Q g1 rs1 x1 p1.toF
theorem e_bfunOwn {id : String} {k : List D → Store → R D} {x : Str} {es : List Expr} (B : BiE X xv W (.builtin id) k) (hg : Gl X x) (hm : X.mg x = some (.builtin id)) (hdb : (x == ("__debug__" : Str)) = false)
    (ha : PA X (e :: es) (tAv X.K xv W fs)) (hst : (e :: es).all notStar = true) : PE X (.Call (.Name x p) (e :: es) [] pos) (tEv X.K xv W fun env st => ((fs env st).bind fun ds st => k ds st).bind ownD) := by
  simp only [List.all_cons, Bool.and_eq_true] at hst
  obtain ⟨r, hr, w⟩ := B
  refine PE.use (pe_callBfun hr hg hm ha hdb (star_cons hst.1) (star_any hst.2)) fun σ H Q ⟨m, env, st, re, rs, p⟩ => ?_
  simp only [R.bind_assoc] at p
  refine ⟨m, env, st, re, rs, (p.bind (rel := RDs X.K)).mono fun vs H1 ⟨ds, m1, st1, L1, x1, rs1, g1, p1⟩ => ?_⟩
  exact w m1 H1 st1 ds vs σ Q g1 rs1 x1 p1.own
theorem bi_max (hc : X.calm = true) : BiE X xv W (.builtin "max") (biD .max) := by
  refine ⟨fun vs H Q => rMax X.K vs H Q ∨ ∃ i j, vs = [.int i, .int j] ∧ Q (.int (if j > i then j else i)) H, fun pins s σ H xs us Q I r h => h.elim (cr_max hc pins s σ H xs us Q I r) (call_max2 hc pins s σ H xs us Q I r), fun m H st ds vs σ Q gd rs x p => ?_⟩
  match ds, x, p with
  | [], x, p => exact False.elim p
  | [d], x, p =>
    simp only [RDs] at x
    obtain ⟨v, r', rfl, x1, rfl⟩ := x
    obtain ⟨n, e, p⟩ := PostF.ofO (o := (intsOf st d).bind maxL) p
    rw [Option.bind_eq_some_iff] at e
    obtain ⟨ns, e1, e2⟩ := e
    obtain ⟨a, rfl, q⟩ := intsOf_at rs x1 e1
    cases ns with
    | nil => cases e2
    | cons y ys =>
      cases e2
      refine .inl ⟨a, y :: ys, rfl, q, by simp, fun k hk hg g => ?_⟩
      have : k = maxI y ys := Int.le_antisymm (maxI_ge ys y k hk) (hg _ (maxI_mem ys y))
      subst this
      exact PostF.here (fun _ z => by cases z) p (by simp only [RD]) rs g
  | [d, d'], x, p =>
    simp only [RDs] at x
    obtain ⟨v, r', rfl, x1, v', r'', rfl, x2, rfl⟩ := x
    obtain ⟨n, e, p⟩ := PostF.ofO (o := max2D d d') p
    cases d <;> first | cases e | skip
    cases d' <;> first | cases e | skip
    simp only [RD] at x1 x2
    subst x1 x2
    exact .inr ⟨_, _, rfl, fun g => PostF.here (fun _ z => by cases z) p (by simp only [RD]) rs g⟩
  | _ :: _ :: _ :: _, x, p => exact False.elim p
theorem minRow_ok : ∀ (r : List (List Int)) (x : List Int), minRow x r ∈ x :: r ∧ ∀ z ∈ x :: r, minRow x r ≤ z
  | [], x => ⟨by simp [minRow], fun z h => by rw [List.mem_singleton.mp h]; exact List.le_refl _⟩
  | y :: r, x => by
    unfold minRow
    by_cases q : leR x y = true
    · rw [if_pos q]
      obtain ⟨h1, h2⟩ := minRow_ok r x
      refine ⟨?_, fun z hz => ?_⟩
      · rcases List.mem_cons.mp h1 with h | h
        · rw [h]; exact List.mem_cons_self
        · exact List.mem_cons_of_mem _ (List.mem_cons_of_mem _ h)
      · rcases List.mem_cons.mp hz with rfl | hz
        · exact h2 _ List.mem_cons_self
        · rcases List.mem_cons.mp hz with rfl | hz
          · exact List.le_trans (h2 x List.mem_cons_self) ((leR_iff _ _).mp q)
          · exact h2 z (List.mem_cons_of_mem _ hz)
    · rw [if_neg q]
      obtain ⟨h1, h2⟩ := minRow_ok r y
      refine ⟨List.mem_cons_of_mem _ h1, fun z hz => ?_⟩
      rcases List.mem_cons.mp hz with rfl | hz
      · exact List.le_trans (h2 y List.mem_cons_self) (List.le_of_lt (List.not_le.mp fun c => q ((leR_iff _ _).mpr c)))
      · exact h2 z hz
theorem bi_min (hc : X.calm = true) (hu : X.A.units + 64 < cLine) : BiE X xv W (.builtin "min") (biD .min) := by
  refine ⟨fun vs H Q => (rMin X.K vs H Q ∨ rMinN X.K vs H Q) ∨ ∃ i j, vs = [.int i, .int j] ∧ Q (.int (if j < i then j else i)) H, fun pins s σ H xs us Q I r h => h.elim (fun h => h.elim (cr_min hc pins s σ H xs us Q I r) (cr_minN hc hu pins s σ H xs us Q I r)) (call_min2 hc pins s σ H xs us Q I r), fun m H st ds vs σ Q gd rs x p => ?_⟩
  match ds, x, p with
  | [], x, p => exact False.elim p
  | [d], x, p =>
    simp only [RDs] at x
    obtain ⟨v, r', rfl, x1, rfl⟩ := x
    obtain ⟨dd, e, p⟩ := PostF.ofO (o := minAny st d) p
    unfold minAny at e
    cases e1 : intsOf st d with
    | some ns =>
      rw [e1] at e
      obtain ⟨a, rfl, q⟩ := intsOf_at rs x1 e1
      cases ns with
      | nil => cases e
      | cons y ys =>
        cases e
        refine .inl (.inl ⟨a, y :: ys, rfl, q, by simp, fun k hk hg g => ?_⟩)
        have : k = minI y ys := Int.le_antisymm (hg _ (minI_mem ys y)) (minI_le ys y k hk)
        subst this
        exact PostF.here (fun _ z => by cases z) p (by simp only [RD]) rs g
    | none =>
      rw [e1] at e
      have e : ((listItems st d).bind fun l => (rowsD l).bind fun rs => match rs with
        | [] => none
        | x :: r => some (.tup ((minRow x r).map .int))) = some dd := e
      rw [Option.bind_eq_some_iff] at e
      obtain ⟨l0, h1, h2⟩ := e
      obtain ⟨a, vs, rfl, q1, q2⟩ := listItems_at rs x1 h1
      rw [Option.bind_eq_some_iff] at h2
      obtain ⟨rows, h2, h3⟩ := h2
      obtain ⟨el, hne⟩ := rowsD_eq h2
      rw [el] at q1
      obtain ⟨bs, rfl, er, hb⟩ := rows_at q1
      cases rows with
      | nil => cases h3
      | cons r0 rr =>
        cases h3
        obtain ⟨m1, m2⟩ := minRow_ok rr r0
        have ne : bs ≠ [] := fun z => by rw [z] at er; cases er
        refine .inl (.inr ⟨a, bs, rfl, q2, ne, fun b hm => ⟨hne b.2 (by rw [er]; exact List.mem_map_of_mem hm), (hb b hm).1⟩, fun b hm hl g => ?_⟩)
        have e5 : b.2 = minRow r0 rr := by
          refine List.le_antisymm ?_ (m2 _ (by rw [er]; exact List.mem_map_of_mem hm))
          rw [er] at m1
          obtain ⟨c, hc1, hc2⟩ := List.mem_map.mp m1
          rw [← hc2]
          exact hl c hc1
        rw [← e5] at p
        exact PostF.here (fun _ z => by cases z) p (hb b hm).2 rs g
  | [d, d'], x, p =>
    simp only [RDs] at x
    obtain ⟨v, r', rfl, x1, v', r'', rfl, x2, rfl⟩ := x
    obtain ⟨n, e, p⟩ := PostF.ofO (o := min2D d d') p
    cases d <;> first | cases e | skip
    cases d' <;> first | cases e | skip
    simp only [RD] at x1 x2
    subst x1 x2
    exact .inr ⟨_, _, rfl, fun g => PostF.here (fun _ z => by cases z) p (by simp only [RD]) rs g⟩
  | _ :: _ :: _ :: _, x, p => exact False.elim p

/-! ### isinstance -/
theorem ty_at {K : PySem.W.Frag} {m : Ms} {H : Hp} {st : Store} {d : D} {v : V} {n : String} (rs : RS K m H st) (x : RD K m H d v) (h : tyN st d = some n) : TyX K H v (.type n) := by
  cases d with
  | non =>
    simp only [RD] at x
    subst x
    cases h
    exact .base .non
  | bl b =>
    simp only [RD] at x
    subst x
    cases h
    exact .base (.bl b)
  | int b =>
    simp only [RD] at x
    subst x
    cases h
    exact .base (.int b)
  | str b =>
    simp only [RD] at x
    subst x
    cases h
    exact .base (.str b)
  | tup l =>
    simp only [RD] at x
    obtain ⟨a, vs, rfl, q, _⟩ := x
    cases h
    rcases q with (q | ⟨o, q⟩) | ⟨o, its, n, e, c, _⟩
    · exact .base (.tup q)
    · exact .fTuple q
    · exact .kTuple e c
  | lst l =>
    simp only [RD] at x
    obtain ⟨a, vs, rfl, q, _⟩ := x
    cases h
    exact .base (.lst q)
  | fl l =>
    simp only [RD] at x
    obtain ⟨a, vs, rfl, q, _⟩ := x
    cases h
    rcases q with ⟨q | ⟨o, q⟩, _⟩ | ⟨o, its, n, e, c, _⟩
    · exact .base (.lst q)
    · exact .base (.frz q)
    · exact .kList e c
  | ref i =>
    simp only [RD] at x
    obtain ⟨a, e1, rfl⟩ := x
    simp only [tyN] at h
    split at h
    · rename_i l e
      cases h
      obtain ⟨vs, q, _⟩ := rs.at_ i _ a e e1
      exact .base (.lst q)
    · rename_i l e
      cases h
      obtain ⟨vs, q, _⟩ := rs.at_ i _ a e e1
      exact .base (.dK q)
    · rename_i l e
      cases h
      obtain ⟨vs, q, _⟩ := rs.at_ i _ a e e1
      exact .base (.dT q)
    · cases h
theorem kit_all : ∀ n ∈ ["NoneType", "bool", "int", "str", "tuple", "list", "dict"], ∀ t ∈ [Ty.int, .bool, .str, .tuple, .list], kitB n t.n = some (n == t.n || (n == "bool" && t.n == "int")) := by decide +kernel
theorem tyN_mem {st : Store} {d : D} {n : String} (h : tyN st d = some n) : n ∈ ["NoneType", "bool", "int", "str", "tuple", "list", "dict"] := by
  cases d <;> simp only [tyN, Option.some.injEq] at h <;> first | (subst h; decide) | skip
  split at h <;> cases h <;> decide
theorem ty_mem (t : Ty) : t ∈ [Ty.int, .bool, .str, .tuple, .list] := by cases t <;> decide
theorem kit_t {K : PySem.W.Frag} {st : Store} {d : D} {n : String} (h : tyN st d = some n) (t : Ty) : PySem.W.kitOne K (.type n) (.type t.n) = some (tyB n t) := kit_ty (kit_all n (tyN_mem h) t (ty_mem t))
theorem kit_any {K : PySem.W.Frag} {st : Store} {d : D} {n : String} (h : tyN st d = some n) : ∀ ts : List Ty, ts ≠ [] → PySem.W.kitAny K (.type n) (ts.map fun t => .type t.n) = some (ts.any (tyB n))
  | [], h0 => absurd rfl h0
  | [t], _ => by
    rw [List.map_cons, List.any_cons]
    cases e : tyB n t with
    | true => exact kitAny_cons (by rw [kit_t h t, e]) (fun z => by cases z) fun _ => rfl
    | false => exact kitAny_cons (by rw [kit_t h t, e]) (fun _ => rfl) fun z => by cases z
  | t :: t' :: ts, _ => by
    rw [List.map_cons, List.any_cons]
    cases e : tyB n t with
    | true => exact kitAny_cons (by rw [kit_t h t, e]) (fun z => by cases z) fun _ => rfl
    | false => exact kitAny_cons (by rw [kit_t h t, e]) (fun _ => kit_any h (t' :: ts) (by simp)) fun z => by cases z
/-- a built-in type's name as a value -/
theorem e_tyName {t : Ty} {x : Str} (hg : Gl X x) (hm : X.mg x = none) (hv : bootBuiltins x = some (.type t.n)) (hn : x ≠ "__name__") (hdb : (x == ("__debug__" : Str)) = false) : PE X (.Name x p) (tC (.ty t.n)) := pe_bltn hg hm hv rfl hn hdb
theorem e_isi1 {t : Ty} {x y : Str} {py : Pos} (hg : Gl X x) (hm : X.mg x = none) (hx : x = "isinstance") (hgy : Gl X y) (hmy : X.mg y = none) (hvy : bootBuiltins y = some (.type t.n)) (hny : y ≠ "__name__") (hdy : (y == ("__debug__" : Str)) = false)
    (ha : PE X a (tEv X.K xv W f)) (hst : notStar a = true) : PE X (.Call (.Name x p) [a, .Name y py] [] pos) (tEv X.K xv W fun env st => (f env st).bind fun d st => .ofO (isiD [t] d st) fun b => .ok (.bl b) st) := by
  subst hx
  refine PE.use (pe_callB call_isi hg hm (by decide +kernel) (pa_cons ha (pa_cons (e_tyName hgy hmy hvy hny hdy) pa_nil rfl) (star_cons hst)) (by decide) (by decide) (star_cons hst) (star_any rfl)) fun σ H Q ⟨m, env, st, re, rs, p⟩ => ?_
  refine ⟨m, env, st, re, rs, (p.bind (rel := RD X.K)).mono fun v H1 ⟨d, m1, st1, L1, x1, rs1, g1, p1⟩ => ?_⟩
  obtain ⟨b, e, p1⟩ := p1.ofO
  unfold isiD at e
  rw [Option.map_eq_some_iff] at e
  obtain ⟨n, e, rfl⟩ := e
  refine ⟨v, .ty t.n, .type n, .type t.n, _, rfl, .ty _, ty_at rs1 x1 e, kit_t e t, fun g => p1.here ?_ rs1 g⟩
  simp only [RD, List.any_cons, List.any_nil, Bool.or_false]
theorem pa_tys : ∀ (ts : List Ty) (es : List Expr), (es.length = ts.length ∧ ∀ (i : Nat) (t : Ty) (e : Expr), ts[i]? = some t → es[i]? = some e → PE X e (tC (.ty (Ty.n t))) ∧ notStar e = true) → PA X es (fun _ H Q => Q (ts.map fun t => .ty t.n) H)
  | [], [], _ => pa_nil
  | [], _ :: _, h => by simp at h
  | _ :: _, [], h => by simp at h
  | t :: ts, e :: es, h => by
    obtain ⟨h1, h2⟩ := h
    have h0 := h2 0 t e rfl rfl
    exact pa_cons h0.1 (pa_tys ts es ⟨by simpa using h1, fun i t e a b => h2 (i + 1) t e (by simpa using a) (by simpa using b)⟩) (star_cons h0.2)
theorem paired_ty : ∀ ts : List Ty, Paired ClsV (ts.map fun t => V.ty t.n) (ts.map fun t => Value.type t.n)
  | [] => .nil
  | t :: ts => .cons (.ty _) (paired_ty ts)
theorem e_isiT {ts : List Ty} {x : Str} {es : List Expr} {k : Nat} {py : Pos} (hg : Gl X x) (hm : X.mg x = none) (hx : x = "isinstance") (h0 : ts ≠ []) (hn : ts.length ≤ 1000)
    (hes : es.length = ts.length ∧ ∀ (i : Nat) (t : Ty) (e : Expr), ts[i]? = some t → es[i]? = some e → PE X e (tC (.ty (Ty.n t))) ∧ notStar e = true)
    (ha : PE X a (tEv X.K xv W f)) (hst : notStar a = true) : PE X (.Call (.Name x p) [a, .Tuple es k py] [] pos) (tEv X.K xv W fun env st => (f env st).bind fun d st => .ofO (isiD ts d st) fun b => .ok (.bl b) st) := by
  subst hx
  refine PE.use (pe_callB call_isiT hg hm (by decide +kernel) (pa_cons ha (pa_cons (pe_tup (pa_tys ts es hes)) pa_nil rfl) (star_cons hst)) (by decide) (by decide) (star_cons hst) (star_any rfl)) fun σ H Q ⟨m, env, st, re, rs, p⟩ => ?_
  refine ⟨m, env, st, re, rs, (p.bind (rel := RD X.K)).mono fun v H1 ⟨d, m1, st1, L1, x1, rs1, g1, p1⟩ => ?_⟩
  refine ⟨by rw [List.length_map]; exact Nat.le_trans hn (by decide), fun T hT => ?_⟩
  obtain ⟨b, e, p1⟩ := p1.ofO
  unfold isiD at e
  rw [Option.map_eq_some_iff] at e
  obtain ⟨n, e, rfl⟩ := e
  have L2 : Lat m1 H1 m1 (upd H1 T (.tup (ts.map fun t => .ty t.n))) := .alloc hT
  refine ⟨v, T, _, .type n, _, _, rfl, upd_same, paired_ty ts, ty_at (rs1.alloc hT) (x1.lat L2 rs1 _ _) e, kit_any e ts h0, fun g => p1.at_ L2 ?_ (rs1.alloc hT) g⟩
  simp only [RD]

/-! ### len(set(xs)) -/
theorem ints_vals : ∀ {ns : List Int} {us : List Value}, Vals (ns.map V.int) us → PyProof.Rows.IntsAre us ns
  | [], _, .nil => .nil
  | n :: r, _, .cons q t => by
    obtain ⟨tk, rfl⟩ := q
    exact .cons n tk (ints_vals t)
theorem firstMet_le (f : Nat → Int) : ∀ i, (PyProof.Rows.firstMet f i).length ≤ i
  | 0 => Nat.le_refl _
  | i + 1 => by
    have ih := firstMet_le f i
    rw [PyProof.Rows.firstMet_succ]
    unfold PyProof.Rows.step_dedup
    split
    · omega
    · rw [List.length_append]
      exact Nat.succ_le_succ ih
theorem dd_mem (k : Int) : ∀ l : List Int, k ∈ dd l ↔ k ∈ l
  | [] => by simp [dd]
  | x :: r => by
    simp only [dd]
    split
    · rename_i h
      rw [dd_mem k r, List.mem_cons]
      exact ⟨.inr, fun q => q.elim (fun e => e ▸ h) id⟩
    · rw [List.mem_cons, List.mem_cons, dd_mem k r]
theorem dd_nodup : ∀ l : List Int, (dd l).Nodup
  | [] => List.nodup_nil
  | x :: r => by
    simp only [dd]
    split
    · exact dd_nodup r
    · rename_i h
      exact List.nodup_cons.mpr ⟨fun q => h ((dd_mem x r).mp q), dd_nodup r⟩
theorem e_lset {p2 q : Pos} (hc : X.calm = true) (hg : Gl X "len") (hm : X.mg "len" = none) (hg2 : Gl X "set") (hm2 : X.mg "set" = none) (ha : PE X a (tEv X.K xv W f)) (hst : notStar a = true) :
    PE X (.Call (.Name "len" p) [.Call (.Name "set" p2) [a] [] q] [] pos) (tEv X.K xv W fun env st => (f env st).bind fun d st => .ofO (setLen st d) fun n => .ok (.int n) st) := by
  refine PE.use (t := fun σ H Q => tEv X.K xv W f σ H fun x H1 => (∃ (l : Addr) (ns : List Int), x = .ref l ∧ SqL X.K H1 l (ns.map V.int) ∧ ns.length ≤ 4000 ∧ Q (.int (unlikes ns : Nat)) H1) ∨ ∃ (l : Addr) (ns : List Int), x = .ref l ∧ SqT X.K H1 l (ns.map V.int) ∧ ns.length ≤ 1000 ∧ Q (.int ((dd ns).length : Nat)) H1) ⟨fun pins s σ H Q I h => ?_⟩ fun σ H Q ⟨m, env, st, re, rs, p⟩ => ?_
  · have na := star_cons (es := []) (env := X.env) hst
    refine Call_ (ld_blt I hg hm boot_len (PyProof.Rows.callWith_builtin1 (PyProof.Rows.args_cons ?_ rfl) rfl rfl))
    refine Call_ (ld_blt I hg2 hm2 boot_set (PyProof.Rows.callWith_type1 (PyProof.Rows.args_cons (thn (ha.run pins s σ H _ I h) fun v s1 ⟨x, H1, I1, r1, q1⟩ => PyProof.Rows.args_nil ?_) na) na rfl))
    rcases q1.symm with q1 | q1
    · obtain ⟨l, ns, rfl, hq, hl, q1⟩ := q1
      cases r1
      obtain ⟨its, rv, pt, _⟩ := I1.tuple hq
      refine call_set_tupI ns (I1.ok.hd hc) (show s1.heap.IsTuple l its.toArray from pt) (by simpa using ints_vals rv) (by unfold scanBound; omega) fun h' tk c R1 hcn hk => PyProof.Rows.args_nil ?_
      obtain ⟨o, es, ep, t, ho, hex, hd, _, nd, hm3, _, hf, hn, _, _⟩ := R1
      have I2 : Inv X pins σ H1 { s1 with heap := h', toks := tk } := I1.kept fun b o e => hk b o e
      have hc2 : es.size = (dd ns).length := by
        have pm : (es.toList.map keyOf).Perm (dd ns) := (List.perm_ext_iff_of_nodup nd (dd_nodup ns)).mpr fun k => by
          rw [← hm3 k, decide_eq_true_eq, dd_mem]
        have := pm.length_eq
        simpa using this
      exact call_len_set ho hex hd hf (by rw [hn]; omega) ⟨.int ((dd ns).length : Nat), H1, I2.tok _, ⟨_, by rw [hc2]⟩, q1⟩
    obtain ⟨l, ns, rfl, hq, hl, q1⟩ := q1
    cases r1
    obtain ⟨its, rv, pl, _⟩ := I1.list hq
    have sz : its.toArray.size = ns.length := by
      rw [List.size_toArray, ← rv.length, List.length_map]
    refine call_set_list (I1.ok.hd hc) pl.isList (by simpa using ints_vals rv) (by rw [sz]; unfold scanBound; omega) fun h' tk hS hk => PyProof.Rows.args_nil ?_
    rw [sz] at hS
    obtain ⟨o, es, ep, t, ho, hex, hd, _, _, _, hf, hn⟩ := hS
    have I2 : Inv X pins σ H1 { s1 with heap := h', toks := tk } := I1.kept fun b o e => hk b o (Heap.lt_size e) e
    have hle := firstMet_le (fun i => ns.getD i 0) ns.length
    exact call_len_set ho hex hd hf (by rw [hn]; omega) ⟨.int (unlikes ns : Nat), H1, I2.tok _, ⟨_, by rw [hn]; rfl⟩, q1⟩
  · refine ⟨m, env, st, re, rs, (p.bind (rel := RD X.K)).mono fun v H1 ⟨d, m1, st1, L1, x1, rs1, g1, p1⟩ => ?_⟩
    obtain ⟨n, e, p1⟩ := p1.ofO
    unfold setLen at e
    cases e1 : intsOf st1 d with
    | some ns =>
      rw [e1] at e
      obtain ⟨l, rfl, q⟩ := intsOf_at rs1 x1 e1
      simp only at e
      split at e
      · rename_i hl
        cases e
        exact .inl ⟨l, ns, rfl, q, hl, fun g => p1.here (by simp only [RD]) rs1 g⟩
      · cases e
    | none =>
      rw [e1] at e
      cases d <;> simp only [reduceCtorEq] at e
      rename_i l0
      rw [Option.bind_eq_some_iff] at e
      obtain ⟨ns, h1, h2⟩ := e
      split at h2
      · rename_i hl
        cases h2
        rw [intsD_eq h1] at x1
        simp only [RD] at x1
        obtain ⟨a, vs, rfl, hT, y⟩ := x1
        rw [RDs.ints y] at hT
        exact .inr ⟨a, ns, rfl, hT, hl, fun g => p1.here (by simp only [RD]) rs1 g⟩
      · cases h2

/-! ### list(range(..)) -/
theorem rngD_ints (lo : Int) : ∀ n : Nat, rngD lo 1 n = ((List.range n).map fun i : Nat => lo + (i : Int)).map D.int := by
  intro n
  induction n generalizing lo with
  | zero => rfl
  | succ n ih =>
    rw [rngD, ih, List.range_succ_eq_map]
    simp only [List.map_cons, List.map_map]
    congr 1
    · simp
    · refine List.map_congr_left fun m _ => ?_
      simp only [Function.comp_apply, Nat.succ_eq_add_one, Int.natCast_add, D.int.injEq]
      omega
theorem rgV_ints (a b : Int) : rgV a b = ((List.range (b - a).toNat).map fun i : Nat => a + (i : Int)).map V.int := by
  unfold rgV
  rw [List.map_map]
  rfl
theorem lrg_int {x y : D} {l : List D} (h : lrg x y = some l) : ∃ i j, x = .int i ∧ y = .int j ∧ RgOk i j ∧ l = rngD i 1 (j - i).toNat := by
  cases x <;> cases y <;> simp only [lrg] at h <;> first | cases h | skip
  rename_i i j
  split at h
  · rename_i hc
    cases h
    simp only [Bool.and_eq_true, decide_eq_true_eq, near] at hc
    exact ⟨i, j, rfl, rfl, ⟨hc.1.1.1, hc.1.1.2, hc.1.2.1, hc.1.2.2, by have := hc.2; simp only [line] at this; omega⟩, rfl⟩
  · cases h
theorem e_lrng1 {p2 q : Pos} (hc : X.calm = true) (hg : Gl X "list") (hm : X.mg "list" = none) (hg2 : Gl X "range") (hm2 : X.mg "range" = none) (ha : PE X a (tEv X.K xv W f)) (hst : notStar a = true) :
    PE X (.Call (.Name "list" p) [.Call (.Name "range" p2) [a] [] q] [] pos) (tEv X.K xv W fun env st => (f env st).bind fun x st => .ofO (lrg (.int 0) x) fun l => .ok (.lst l) st) := by
  refine PE.use (pe_listRg hc hg hm (prg_1 hg2 hm2 ha (star_cons hst)) rfl) fun σ H Q ⟨m, env, st, re, rs, p⟩ => ?_
  refine ⟨m, env, st, re, rs, (p.bind (rel := RD X.K)).mono fun v H1 ⟨d, m1, st1, L1, x1, rs1, g1, p1⟩ => ?_⟩
  obtain ⟨l, e, p1⟩ := p1.ofO
  obtain ⟨i, j, e0, rfl, ok, rfl⟩ := lrg_int e
  cases e0
  simp only [RD] at x1
  subst x1
  refine ⟨j, rfl, ok, fun qa hq g => p1.at_ (.alloc hq) (RD.newL rs1 ?_ hq) (rs1.alloc hq) g⟩
  rw [rgV_ints, rngD_ints]
  exact RDs.ofInts _
theorem e_lrng2 {b : Expr} {g : Env → Store → R D} {p2 q : Pos} (hc : X.calm = true) (hg : Gl X "list") (hm : X.mg "list" = none) (hg2 : Gl X "range") (hm2 : X.mg "range" = none) (ha : PE X a (tEv X.K xv W f)) (hb : PE X b (tEv X.K xv W g)) (hst : notStar a = true) (hst2 : notStar b = true) :
    PE X (.Call (.Name "list" p) [.Call (.Name "range" p2) [a, b] [] q] [] pos) (tEv X.K xv W fun env st => (f env st).bind fun x st => (g env st).bind fun y st => .ofO (lrg x y) fun l => .ok (.lst l) st) := by
  refine PE.use (pe_listRg hc hg hm (prg_2 hg2 hm2 ha hb (star_cons hst) (star_cons hst2) (star_any (by simp [hst2]))) rfl) fun σ H Q ⟨m, env, st, re, rs, p⟩ => ?_
  refine ⟨m, env, st, re, rs, (p.bind (rel := RD X.K)).mono fun v H1 ⟨d, m1, st1, L1, x1, rs1, g1, p1⟩ => ?_⟩
  refine ⟨m1, env, st1, re.lat L1 rs, rs1, (p1.bind (rel := RD X.K)).mono fun w H2 ⟨d2, m2, st2, L2, x2, rs2, g2, p2⟩ => ?_⟩
  obtain ⟨l, e, p2⟩ := p2.ofO
  obtain ⟨i, j, rfl, rfl, ok, rfl⟩ := lrg_int e
  simp only [RD] at x1 x2
  subst x1 x2
  refine ⟨i, j, rfl, rfl, ok, fun qa hq g => p2.at_ (.alloc hq) (RD.newL rs2 ?_ hq) (rs2.alloc hq) g⟩
  rw [rgV_ints, rngD_ints]
  exact RDs.ofInts _

/-! ### methods of lists -/
theorem ownL_at {K : PySem.W.Frag} {m : Ms} {H : Hp} {st : Store} {d : D} {v : V} {i : Nat} {l : List D} (rs : RS K m H st) (x : RD K m H d v) (h : ownL st d = some (i, l)) :
    ∃ a vs, v = .ref a ∧ m.vis[i]? = some a ∧ i < st.length ∧ H a = some (.lst vs) ∧ RDs K m H l vs := by
  cases d <;> simp only [ownL] at h
  case ref j =>
    split at h
    · rename_i l' e
      cases h
      simp only [RD] at x
      obtain ⟨a, e1, rfl⟩ := x
      obtain ⟨vs, q, y⟩ := rs.at_ i _ a e e1
      exact ⟨a, vs, rfl, e1, (List.getElem?_eq_some_iff.mp e).1, q, y⟩
    · cases h
  all_goals cases h
def MtE (X : Cx) (xv : Nat → Value) (W : WX) (id : String) (mt : MT) : Prop :=
  ∃ r : V → List V → Hp → VK → Prop, MtR X id r ∧ ∀ (m : Ms) (H : Hp) (st : Store) (x : D) (ds : List D) (v : V) (vs : List V) (σ : L2.St) (Q : VK), Good X.K H → RS X.K m H st → RD X.K m H x v → RDs X.K m H ds vs →
    Post X.K xv W (RD X.K) σ m H (meD mt x ds st) Q → r v vs H (fun z H1 => Good X.K H1 → Q z H1)
theorem mt_one {m : Ms} {H : Hp} {ds : List D} {vs : List V} {K : PySem.W.Frag} {d : D} (x : RDs K m H [d] vs) : ∃ v, vs = [v] ∧ RD K m H d v := by
  simp only [RDs] at x
  obtain ⟨v, r, rfl, h, rfl⟩ := x
  exact ⟨v, rfl, h⟩
theorem set_at {K : PySem.W.Frag} {m : Ms} {H : Hp} {st : Store} {i : Nat} {a : Addr} {l : List D} {vs : List V} (rs : RS K m H st) (hi : i < st.length) (hm : m.vis[i]? = some a) (x : RDs K m H l vs) : RS K m (upd H a (.lst vs)) (st.set i (.lst l)) :=
  rs.write hi hm ⟨vs, upd_same, RDs.lat (.write (List.mem_of_getElem? hm)) rs _ _ x⟩
theorem me_append : MtE X xv W "list.append" .append := ⟨_, mt_append, fun m H st x ds v vs σ Q gd rs hx hy p => by
  obtain ⟨⟨i, l⟩, e, p⟩ := Post.ofO (o := ownL st x) p
  obtain ⟨a, us, rfl, h1, h2, h3, h4⟩ := ownL_at rs hx e
  match ds, hy, p with
  | [], _, p => exact False.elim p
  | [d], hy, p =>
    obtain ⟨w, rfl, hw⟩ := mt_one (ds := [d]) hy
    rcases Post.ite (p := l.length < line) p with ⟨hl, p⟩ | ⟨_, p⟩
    · rw [h4.length, line_eq] at hl
      exact ⟨a, us, w, rfl, rfl, h3, hl, fun g => p.at_ (.write (List.mem_of_getElem? h1)) (by simp only [RD]) (set_at rs h2 h1 (h4.append (.cons hw .nil))) g⟩
    · exact False.elim p
  | _ :: _ :: _, _, p => exact False.elim p⟩
theorem me_extend : MtE X xv W "list.extend" .extend := ⟨_, mt_extend, fun m H st x ds v vs σ Q gd rs hx hy p => by
  obtain ⟨⟨i, l⟩, e, p⟩ := Post.ofO (o := ownL st x) p
  obtain ⟨a, us, rfl, h1, h2, h3, h4⟩ := ownL_at rs hx e
  match ds, hy, p with
  | [], _, p => exact False.elim p
  | [d], hy, p =>
    obtain ⟨w, rfl, hw⟩ := mt_one (ds := [d]) hy
    obtain ⟨r, e2, p⟩ := Post.ofO (o := madeItems st d) p
    obtain ⟨b, zs, rfl, h5, h6⟩ := madeItems_at rs hw e2
    rcases Post.ite (p := l.length + r.length ≤ line) p with ⟨hl, p⟩ | ⟨_, p⟩
    · rw [h4.length, h5.length, line_eq] at hl
      exact ⟨a, b, us, zs, rfl, rfl, h3, h6, hl, fun g => p.at_ (.write (List.mem_of_getElem? h1)) (by simp only [RD]) (set_at rs h2 h1 (h4.append h5)) g⟩
    · exact False.elim p
  | _ :: _ :: _, _, p => exact False.elim p⟩
theorem RDs.dropLast {K : PySem.W.Frag} {m : Ms} {H : Hp} {l : List D} {vs : List V} (h : RDs K m H l vs) : RDs K m H l.dropLast vs.dropLast := by
  rw [List.dropLast_eq_take, List.dropLast_eq_take, h.length]
  exact h.take _
theorem me_pop : MtE X xv W "list.pop" .pop := ⟨fun x vs H Q => rPop x vs H Q ∨ rPopAt x vs H Q, fun pins s σ H x xs v us Q I rx rv h => h.elim (mt_pop pins s σ H x xs v us Q I rx rv) (mt_popAt pins s σ H x xs v us Q I rx rv), fun m H st x ds v vs σ Q gd rs hx hy p => by
  obtain ⟨⟨i, l⟩, e, p⟩ := Post.ofO (o := ownL st x) p
  obtain ⟨a, us, rfl, h1, h2, h3, h4⟩ := ownL_at rs hx e
  match ds, hy, p with
  | [], hy, p =>
    simp only [RDs] at hy
    subst hy
    obtain ⟨d, e2, p⟩ := Post.ofO (o := l[l.length - 1]?) p
    obtain ⟨w, e3, hw⟩ := h4.get e2
    rw [h4.length] at e3
    have L : Lat m H m (upd H a (.lst us.dropLast)) := .write (List.mem_of_getElem? h1)
    exact .inl ⟨a, us, w, rfl, rfl, h3, e3, fun g => p.at_ L (hw.lat L rs _ _) (set_at rs h2 h1 h4.dropLast) g⟩
  | [d], hy, p =>
    obtain ⟨w, rfl, hw⟩ := mt_one (ds := [d]) hy
    have p : Post X.K xv W (RD X.K) σ m H (mePopAt i l d st) Q := p
    have kk : ∃ k, d = .int k := by
      cases d <;> first | exact False.elim p | exact ⟨_, rfl⟩
    obtain ⟨k, rfl⟩ := kk
    obtain ⟨⟨d, l'⟩, e2, p⟩ := Post.ofO (o := popAt l k) p
    simp only [RD] at hw
    subst hw
    unfold popAt at e2
    split at e2
    · rename_i hk
      rw [Option.bind_eq_some_iff] at e2
      obtain ⟨j, e3, e2⟩ := e2
      rw [Option.map_eq_some_iff] at e2
      obtain ⟨d', e4, e2⟩ := e2
      cases e2
      obtain ⟨w, e5, hw⟩ := h4.get e4
      rw [h4.length] at e3
      have L : Lat m H m (upd H a (.lst (us.eraseIdx j))) := .write (List.mem_of_getElem? h1)
      exact .inr ⟨a, us, k, j, w, rfl, rfl, h3, hk.1, hk.2, (ixN_seq e3).1, e5, fun g => p.at_ L (hw.lat L rs _ _) (set_at rs h2 h1 (h4.eraseIdx j)) g⟩
    · cases e2
  | _ :: _ :: _, _, p => exact False.elim p⟩
theorem e_me {id : String} {mt : MT} {name : Str} {apos cpos : Pos} {o : Expr} {es : List Expr} (M : MtE X xv W id mt) (slot : Slot "list" name id) (hty : typeOf (.builtin id) = pure (.type "method_descriptor")) (ho : PE X o (tEv X.K xv W f)) (ha : PA X (e :: es) (tAv X.K xv W fs))
    (hbase : attributeBase o name X.env (eval o X.env) = eval o X.env) (hfew : (e :: es).length + 1 < 30) (hline : (apos.endLine == cpos.line) = true) (hst : (e :: es).all notStar = true) :
    PE X (.Call (.Attribute o name apos) (e :: es) [] cpos) (tEv X.K xv W fun env st => ((f env st).bind fun x st => .ofO (ownL st x) fun _ => .ok x st).bind fun x st => (fs env st).bind fun ds st => meD mt x ds st) := by
  obtain ⟨r, hr, w⟩ := M
  have hst' := hst
  simp only [List.all_cons, Bool.and_eq_true] at hst
  have few : ((backTo cpos (starEach (e :: es) X.env)).all (fun x => !x.1) && (backToKw cpos (keywordEach [] X.env)).all (fun x => x.1.isSome) && decide ((e :: es).length + ([] : List Keyword).length + (if ([] : List Keyword).isEmpty then 0 else 1) < 30)) = true := by
    have q := star_any (env := X.env) (pos := cpos) hst'
    rw [Bool.and_eq_true, Bool.and_eq_true]
    refine ⟨⟨?_, rfl⟩, decide_eq_true ?_⟩
    · rw [List.any_eq_false] at q
      rw [List.all_eq_true]
      intro x hx
      have := q x hx
      simpa using this
    · show (e :: es).length + 0 + 0 < 30
      omega
  refine PE.use (pe_bm PySem.F.plainAttrs_list slot hty hr ho ha hbase few hline (star_cons hst.1) (star_any hst.2)) fun σ H Q ⟨m, env, st, re, rs, p⟩ => ?_
  simp only [R.bind_assoc] at p
  refine ⟨m, env, st, re, rs, (p.bind (rel := RD X.K)).mono fun v H1 ⟨x, m1, st1, L1, x1, rs1, g1, p1⟩ => ?_⟩
  cases hq : ownL st1 x with
  | none =>
    rw [hq] at p1
    exact False.elim p1
  | some q =>
    rw [hq] at p1
    obtain ⟨i, l⟩ := q
    obtain ⟨a, us, rfl, h1, h2, h3, h4⟩ := ownL_at rs1 x1 hq
    have p2 : Post X.K xv W (RD X.K) σ m1 H1 ((fs env st1).bind fun ds st => meD mt x ds st) Q := p1
    refine ⟨.inl ⟨rfl, us, .of h3⟩, m1, env, st1, re.lat L1 rs, rs1, (p2.bind (rel := RDs X.K)).mono fun vs H2 ⟨ds, m2, st2, L2, y2, rs2, g2, p2⟩ => ?_⟩
    exact w m2 H2 st2 x ds _ vs σ Q g2 rs2 (x1.lat L2 rs1 _ _) y2 p2
theorem e_me0 {id : String} {mt : MT} {name : Str} {apos cpos : Pos} {o : Expr} (M : MtE X xv W id mt) (slot : Slot "list" name id) (hty : typeOf (.builtin id) = pure (.type "method_descriptor")) (ho : PE X o (tEv X.K xv W f))
    (hbase : attributeBase o name X.env (eval o X.env) = eval o X.env) (hline : (apos.endLine == cpos.line) = true) :
    PE X (.Call (.Attribute o name apos) [] [] cpos) (tEv X.K xv W fun env st => ((f env st).bind fun x st => .ofO (ownL st x) fun _ => .ok x st).bind fun x st => (R.ok [] st).bind fun ds st => meD mt x ds st) := by
  obtain ⟨r, hr, w⟩ := M
  refine PE.use (pe_bm0 PySem.F.plainAttrs_list slot hty hr ho hbase hline) fun σ H Q ⟨m, env, st, re, rs, p⟩ => ?_
  simp only [R.bind_assoc] at p
  refine ⟨m, env, st, re, rs, (p.bind (rel := RD X.K)).mono fun v H1 ⟨x, m1, st1, L1, x1, rs1, g1, p1⟩ => ?_⟩
  cases hq : ownL st1 x with
  | none =>
    rw [hq] at p1
    exact False.elim p1
  | some q =>
    rw [hq] at p1
    obtain ⟨i, l⟩ := q
    obtain ⟨a, us, rfl, h1, h2, h3, h4⟩ := ownL_at rs1 x1 hq
    exact ⟨.inl ⟨rfl, us, .of h3⟩, w m1 H1 st1 x [] _ [] σ Q g1 rs1 x1 .nil p1⟩
end
/-! ### calls by keywords -/
theorem kw_map : ∀ (kws : List Keyword) (env : PySem.Env) (pos : Pos), (backToKw pos (keywordEach kws env)).map (·.1) = kws.map (·.arg)
  | [], _, _ => rfl
  | ⟨n, v, q⟩ :: r, env, pos => by
    show n :: ((backToKw pos (keywordEach r env)).map (·.1)) = n :: r.map (·.arg)
    rw [kw_map r env pos]
theorem permL_len {α : Type} {ds : List α} : ∀ {p : List Nat}, (∀ i ∈ p, i < ds.length) → (permL p ds).length = p.length
  | [], _ => rfl
  | i :: p, h => by
    have hi := h i List.mem_cons_self
    have ih := permL_len (p := p) fun j hj => h j (List.mem_cons_of_mem _ hj)
    unfold permL at ih ⊢
    rw [List.filterMap_cons, List.getElem?_eq_getElem hi]
    simp only [List.length_cons, ih]
theorem vals_get : ∀ {vs : List V} {us : List Value}, Vals vs us → ∀ i : Nat, (vs[i]? = none ∧ us[i]? = none) ∨ ∃ v u, vs[i]? = some v ∧ us[i]? = some u ∧ RelV v u
  | _, _, .nil, _ => .inl ⟨rfl, rfl⟩
  | _, _, .cons h r, 0 => .inr ⟨_, _, rfl, rfl, h⟩
  | _, _, .cons h r, i + 1 => by simpa using vals_get r i
theorem permL_vals {vs : List V} {us : List Value} (h : Vals vs us) : ∀ p : List Nat, Vals (permL p vs) (permL p us)
  | [] => .nil
  | i :: p => by
    have ih := permL_vals h p
    unfold permL at ih ⊢
    rcases vals_get h i with ⟨a, b⟩ | ⟨v, u, a, b, r⟩
    · rw [List.filterMap_cons, List.filterMap_cons, a, b]
      exact ih
    · rw [List.filterMap_cons, List.filterMap_cons, a, b]
      exact .cons r ih
theorem permL_rds {K : PySem.W.Frag} {m : Ms} {H : Hp} {ds : List D} {vs : List V} (h : RDs K m H ds vs) : ∀ p : List Nat, RDs K m H (permL p ds) (permL p vs)
  | [] => RDs.nil
  | i :: p => by
    have ih := permL_rds h p
    unfold permL at ih ⊢
    cases e : ds[i]? with
    | none =>
      have e2 : vs[i]? = none := by
        rw [List.getElem?_eq_none_iff] at e ⊢
        rw [← h.length]
        exact e
      rw [List.filterMap_cons, List.filterMap_cons, e, e2]
      exact ih
    | some d =>
      obtain ⟨v, e2, x⟩ := h.get e
      rw [List.filterMap_cons, List.filterMap_cons, e, e2]
      exact RDs.cons x ih
/-- a def bound by keywords alone -/
abbrev KB (K : PySem.W.Frag) (fd : FuncData) (ps ks : List Str) (pm : List Nat) : Prop := KBn K fd ps 0 ks (fun _ ws => permL pm ws) (fun _ zs => permL pm zs)
def BindsB (l : Option (List (List Str × List Nat))) (K : PySem.W.Frag) (fd : FuncData) (ps : List Str) : Prop := Binds K fd ps [] ∧ ∀ r, l = some r → ∀ q ∈ r, KB K fd ps q.1 q.2
section
variable {X : Cx} {xv : Nat → Value} {W : WX} {fs : Env → Store → R (List D)} {g : List D → Store → R D}
theorem PK.use {kws : List Keyword} {t t' : TA} (h : PK X kws t) (w : ∀ σ H Q, t' σ H Q → t σ H (fun v H1 => Good X.K H1 → Q v H1)) : PK X kws t' :=
  ⟨fun pos pins s σ H Q I q => thn (h.run pos pins s σ H _ I (w σ H Q q)) fun v s1 ⟨x, H1, I1, r, q1⟩ => ⟨x, H1, I1, r, q1 (good_of I1)⟩⟩
def tCallKW (m : Nat) (sp : Sp) (pm : List Nat) (E : L2.St → XK) (t : TA) : TE := fun σ H Q => t σ H fun zs H2 => zs.length = m ∧ sp (permL pm zs) H2 Q (E σ)
theorem pe_kcall {CX : CXT} {k : Nat} {fa : Addr} {fd : FuncData} {ps ks : List Str} {x : Str} {p pos : Pos} {kws : List Keyword} {pm : List Nat} {sp : Sp} {E : L2.St → XK} {t : TA} (F : FnOk X.prog X.w X.K X.mg X.base CX k fa fd ps sp) (hr : Room k X.A) (hg : Gl X x) (hm : X.mg x = some (.ref fa))
    (hk : PySem.W.keepIn X.K (.ref fa) = true) (hb : KB X.K fd ps ks pm) (hx : ∀ σ, PassesAt CX X σ (E σ)) (ha : PK X kws t) (hdb : (x == ("__debug__" : Str)) = false) (hn : kws.map (·.arg) = ks.map some) :
    PE X (.Call (.Name x p) [] kws pos) (tCallKW ks.length sp pm E t) := by
  have e1 := (kw_map kws X.env pos).trans hn
  have a1 : (backToKw pos (keywordEach kws X.env)).all (·.1.isSome) = true := by
    have : (backToKw pos (keywordEach kws X.env)).all (·.1.isSome) = ((backToKw pos (keywordEach kws X.env)).map (·.1)).all (·.isSome) := by rw [List.all_map]; rfl
    rw [this, e1]
    simp
  have a2 : (backToKw pos (keywordEach kws X.env)).filterMap (·.1) = ks := by
    have : (backToKw pos (keywordEach kws X.env)).filterMap (·.1) = ((backToKw pos (keywordEach kws X.env)).map (·.1)).filterMap id := by rw [List.filterMap_map]; rfl
    rw [this, e1]
    simp
  have a3 : ((backTo pos (starEach [] X.env)).any (·.1) || (backToKw pos (keywordEach kws X.env)).any (·.1.isNone)) = false := by
    have : (backToKw pos (keywordEach kws X.env)).any (·.1.isNone) = ((backToKw pos (keywordEach kws X.env)).map (·.1)).any (·.isNone) := by rw [List.any_map]; rfl
    rw [this, e1]
    show (false || _) = false
    simp
  refine ⟨fun pins s σ H Q I h => ?_⟩
  refine wpAny_Call_Name_kw (ld_glob I hg hm ?_ hdb)
  refine PySem.W.callWith_KW0 (h₀ := X.base) I.ok.mod.kin hk a1 (thn (ha.run pos pins s σ H _ I h) fun ws s2 ⟨zs, H2, I2, rz, hl, q2⟩ => ⟨I2.kIn, ?_⟩) a3
  rw [a2]
  have r2 := permL_vals rz pm
  refine wpAny_call (codeAny_mono (F.run X.A X.stack s2 H2 ⟨[], ks.zip ws⟩ (permL pm ws) (permL pm zs) Q (E σ) hr I2.env0 (hb.to s2 [] ws I2.kIn rfl (rz.length.symm.trans hl)) r2 q2) fun r s' hq => ?_)
  cases r with
  | error e => exact hx σ pins H2 s2 e s' I2 hq
  | ok fl =>
    cases fl with
    | ret u => exact I2.after hq
    | next => exact False.elim hq
    | brk => exact False.elim hq
    | cont => exact False.elim hq
theorem k_nil : PK X [] (tAv X.K xv W fun _ st => .ok [] st) := PK.use pk_nil fun σ H Q ⟨m, env, st, re, rs, p⟩ g => p.here .nil rs g
theorem k_cons {e : Expr} {nm : Option Str} {kpos : Pos} {kws : List Keyword} {f : Env → Store → R D} (ha : PE X e (tEv X.K xv W f)) (hr : PK X kws (tAv X.K xv W fs)) :
    PK X (⟨nm, e, kpos⟩ :: kws) (tAv X.K xv W fun env st => (f env st).bind fun d st => (fs env st).bind fun ds st => .ok (d :: ds) st) :=
  PK.use (pk_cons ha hr) fun σ H Q ⟨m, env, st, re, rs, p⟩ => by
    refine ⟨m, env, st, re, rs, (p.bind (rel := RD X.K)).mono fun v H1 ⟨d, m1, st1, L1, x1, rs1, g1, p1⟩ => ?_⟩
    refine ⟨m1, env, st1, re.lat L1 rs, rs1, (p1.bind (rel := RDs X.K)).mono fun vs H2 ⟨ds, m2, st2, L2, y2, rs2, g2, p2⟩ => ?_⟩
    exact fun g => p2.here (.cons (x1.lat L2 rs1 _ _) y2) rs2 g
theorem e_kcall {k n : Nat} {fa : Addr} {fd : FuncData} {ps ks : List Str} {x : Str} {p pos : Pos} {kws : List Keyword} {pm : List Nat} (F : FnOk X.prog X.w X.K X.mg X.base (L2.CX X.prog X.w) k fa fd ps (spD X.K xv n g)) (hr : Room k X.A) (tk : Takes X W) (hg : Gl X x) (hm : X.mg x = some (.ref fa))
    (hk : PySem.W.keepIn X.K (.ref fa) = true) (hb : KB X.K fd ps ks pm) (ha : PK X kws (tAv X.K xv W fs)) (hl : ∀ env st ds st', fs env st = .ok ds st' → ds.length = ks.length) (hdb : (x == ("__debug__" : Str)) = false) (hn : kws.map (·.arg) = ks.map some)
    (hp : pm.length = n) (hp2 : ∀ i ∈ pm, i < ks.length) :
    PE X (.Call (.Name x p) [] kws pos) (tEv X.K xv W fun env st => (fs env st).bind fun ds st => g (permL pm ds) st) := by
  refine PE.use (pe_kcall (E := fun σ => WE W σ) F hr hg hm hk hb (fun σ => passAt tk σ) ha hdb hn) fun σ H Q ⟨m, env, st, re, rs, p⟩ => ?_
  refine ⟨m, env, st, re, rs, (p.bindE (rel := RDs X.K)).mono fun vs H1 ⟨ds, m1, st1, er, L1, x1, rs1, g1, p1⟩ => ?_⟩
  have l1 := hl env st ds st1 er
  refine ⟨by rw [← x1.length]; exact l1, ?_, m1, permL pm ds, st1, permL_rds x1 pm, rs1, ?_⟩
  · rw [permL_len (fun i hi => by rw [← x1.length, l1]; exact hp2 i hi)]
    exact hp
  revert p1
  generalize g (permL pm ds) st1 = r
  intro p1
  cases r with
  | ok d st' => exact fun m' H' v L y rs' gd => p1 m' H' v L y rs' gd
  | exc c st' => exact fun m' H' L rs' => p1 m' H' L rs'
  | stuck => exact p1
end
/-! ### dict(pairs).get(k, d) -/
theorem pairs_at {K : PySem.W.Frag} {m : Ms} {H : Hp} : ∀ {l : List D} {vs : List V} {ps : List (Int × D)}, RDs K m H l vs → pairsD l = some ps →
    ∃ (qs : List Addr) (kvs : List (Key × V)), vs = qs.map V.ref ∧ Paired (fun p kv => SqT K H p [kV kv.1, kv.2]) qs kvs ∧ Paired (fun (a : Int × D) (b : Key × V) => b.1 = Sum.inl a.1 ∧ RD K m H a.2 b.2) ps kvs
  | [], vs, ps, h, e => by
    simp only [RDs] at h
    subst h
    cases e
    exact ⟨[], [], rfl, .nil, .nil⟩
  | d :: r, vs, ps, h, e => by
    simp only [RDs] at h
    obtain ⟨v, vs', rfl, x, h⟩ := h
    unfold pairsD at e
    split at e
    · rename_i hq
      cases hq
    · rename_i k w r' heq
      cases heq
      rw [Option.map_eq_some_iff] at e
      obtain ⟨ps', e, rfl⟩ := e
      obtain ⟨qs, kvs, rfl, p1, p2⟩ := pairs_at h e
      simp only [RD, RDs] at x
      obtain ⟨a, ws, rfl, hT, v1, r1, rfl, rfl, v2, r2, rfl, y, rfl⟩ := x
      exact ⟨a :: qs, (Sum.inl k, v2) :: kvs, rfl, .cons hT p1, .cons ⟨rfl, y⟩ p2⟩
    · cases e
theorem last_at {K : PySem.W.Frag} {m : Ms} {H : Hp} (k : Int) : ∀ {ps : List (Int × D)} {kvs acc : List (Key × V)}, Paired (fun (a : Int × D) (b : Key × V) => b.1 = Sum.inl a.1 ∧ RD K m H a.2 b.2) ps kvs →
    (∀ d, lastV k ps = some d → ∃ w, valV (mergeK acc kvs) (Sum.inl k) = some w ∧ RD K m H d w) ∧ (lastV k ps = none → valV (mergeK acc kvs) (Sum.inl k) = valV acc (Sum.inl k))
  | _, _, acc, .nil => ⟨fun d h => by simp [lastV] at h, fun _ => rfl⟩
  | (j, v) :: r, (kk, w) :: kvs, acc, .cons h t => by
    obtain ⟨e, x⟩ := h
    have e : kk = Sum.inl j := e
    subst e
    have ih := last_at k (acc := putK acc (Sum.inl j) w) t
    have em : mergeK acc ((Sum.inl j, w) :: kvs) = mergeK (putK acc (Sum.inl j) w) kvs := rfl
    rw [em]
    simp only [lastV]
    cases q : lastV k r with
    | some d0 =>
      refine ⟨fun d h => ?_, fun h => by simp at h⟩
      cases h
      exact ih.1 _ q
    | none =>
      have i2 := ih.2 q
      rw [valV_put] at i2
      rw [i2]
      by_cases hj : j = k
      · subst hj
        refine ⟨fun d h => ?_, fun h => ?_⟩
        · replace h : (if j = j then some v else none) = some d := h
          rw [if_pos rfl] at h
          cases h
          exact ⟨w, if_pos rfl, x⟩
        · replace h : (if j = j then some v else none) = none := h
          rw [if_pos rfl] at h
          cases h
      · have hk : ¬ (Sum.inl k : Key) = Sum.inl j := fun z => hj (by cases z; rfl)
        refine ⟨fun d h => ?_, fun _ => if_neg hk⟩
        replace h : (if j = k then some v else none) = some d := h
        rw [if_neg hj] at h
        cases h
theorem paired_lat {K : PySem.W.Frag} {m m' : Ms} {H H' : Hp} {st : Store} (L : Lat m H m' H') (rs : RS K m H st) : ∀ {ps : List (Int × D)} {kvs : List (Key × V)}, Paired (fun (a : Int × D) (b : Key × V) => b.1 = Sum.inl a.1 ∧ RD K m H a.2 b.2) ps kvs → Paired (fun (a : Int × D) (b : Key × V) => b.1 = Sum.inl a.1 ∧ RD K m' H' a.2 b.2) ps kvs
  | _, _, .nil => .nil
  | _, _, .cons h t => .cons ⟨h.1, RD.lat L rs _ _ h.2⟩ (paired_lat L rs t)
section
variable {X : Cx} {xv : Nat → Value} {W : WX} {e a b : Expr} {p pos apos cpos : Pos} {f g h : Env → Store → R D}
theorem e_dget (hc : X.calm = true) (hu : X.A.units + 64 < cLine) (hg : Gl X "dict") (hm : X.mg "dict" = none) (he : PE X e (tEv X.K xv W f)) (ha : PE X a (tEv X.K xv W g)) (hb : PE X b (tEv X.K xv W h)) (se : notStar e = true) (sa : notStar a = true) (sb : notStar b = true) (hl : apos.endLine = cpos.line) :
    PE X (.Call (.Attribute (.Call (.Name "dict" p) [e] [] pos) "get" apos) [a, b] [] cpos) (tEv X.K xv W fun env st => (f env st).bind fun x st => .ofO ((listItems st x).bind pairsD) fun ps => (g env st).bind fun y st => (h env st).bind fun z st => dgetD ps y z st) := by
  have A1 : PA X [e] (tAv X.K xv W fun env st => (f env st).bind fun d st => (R.ok [] st : R (List D)).bind fun ds st => .ok (d :: ds) st) := a_cons he a_nil (star_cons se)
  have T1 := pe_callTy (p := p) (pos := pos) (call_dictP hc) hg hm (show bootBuiltins "dict" = some (.type "dict") from by decide +kernel) A1 (by decide) (by decide) (star_cons se) (by rfl)
  have M : M2 X (.Call (.Name "dict" p) [e] [] pos) "get" apos a b cpos := by
    refine ⟨rfl, ?_, by rw [hl]; exact beq_self_eq_true _, ?_⟩
    · rw [star_cons sa, star_cons sb]
      rfl
    · rw [star_cons sa, star_cons sb]
      rfl
  refine PE.use (pe_dget2 (by omega) T1 ha hb M) fun σ H Q ⟨m, env, st, re, rs, p⟩ => ?_
  refine ⟨m, env, st, re, rs, ?_⟩
  have p' : Post X.K xv W (RD X.K) σ m H (((f env st).bind fun d st => (R.ok [] st : R (List D)).bind fun ds st => .ok (d :: ds) st).bind fun ds st => match ds with
    | [x] => .ofO ((listItems st x).bind pairsD) fun ps => (g env st).bind fun y st => (h env st).bind fun z st => dgetD ps y z st
    | _ => .stuck) Q := by
    have p : Post X.K xv W (RD X.K) σ m H ((f env st).bind fun x st => .ofO ((listItems st x).bind pairsD) fun ps => (g env st).bind fun y st => (h env st).bind fun z st => dgetD ps y z st) Q := p
    revert p
    generalize f env st = r
    cases r <;> exact fun p => p
  refine (p'.bind (rel := RDs X.K)).mono fun vs H1 ⟨ds, m1, st1, L1, x1, rs1, g1, p1⟩ => ?_
  match ds, x1, p1 with
  | [], x1, p1 => exact p1.elim
  | _ :: _ :: _, x1, p1 => exact p1.elim
  | [x], x1, p1 =>
    simp only [RDs] at x1
    obtain ⟨v, r', ev, y1, er⟩ := x1
    subst er ev
    obtain ⟨ps, e1, p2⟩ := Post.ofO p1
    rw [Option.bind_eq_some_iff] at e1
    obtain ⟨l, e1, e2⟩ := e1
    obtain ⟨A, ws, rfl, q1, q2⟩ := listItems_at rs1 y1 e1
    obtain ⟨qs, kvs, rfl, k1, k2⟩ := pairs_at q1 e2
    refine ⟨A, qs, kvs, rfl, q2, k1, fun c hc1 => ⟨c, rfl, .inl ⟨_, .inl upd_same⟩, ?_⟩⟩
    have La : Lat m1 H1 m1 (upd H1 c (.dK (mergeK [] kvs))) := .alloc hc1
    have rsA : RS X.K m1 (upd H1 c (.dK (mergeK [] kvs))) st1 := rs1.alloc hc1
    have no := rs1.no hc1
    refine ⟨m1, env, st1, (re.lat L1 rs).lat La rs1, rsA, ((Post.later La p2).bind (rel := RD X.K)).mono fun y H3 ⟨dy, m3, st3, L3, x3, rs3, g3, p3⟩ => ?_⟩
    have re3 := ((re.lat L1 rs).lat La rs1).lat L3 rsA
    refine ⟨m3, env, st3, re3, rs3, (p3.bind (rel := RD X.K)).mono fun z H4 ⟨dz, m4, st4, L4, x4, rs4, g4, p4⟩ => ?_⟩
    have hk3 : H3 c = some (.dK (mergeK [] kvs)) := L3.keep c _ upd_same no.1
    have n3 : c ∉ m3.vis := L3.notinV no.1 upd_same
    have hk4 : H4 c = some (.dK (mergeK [] kvs)) := L4.keep c _ hk3 n3
    have k5 := paired_lat L4 rs3 (paired_lat L3 rsA (paired_lat La rs1 k2))
    obtain ⟨k, rfl⟩ : ∃ k, dy = .int k := by
      cases dy with
      | int k => exact ⟨k, rfl⟩
      | _ => exact p4.elim
    have x3 : y = V.int k := by simpa only [RD] using x3
    subst x3
    refine ⟨valV (mergeK [] kvs) (Sum.inl k), DGet.k (k := Sum.inl k) hk4, fun gd => ?_⟩
    have lk := last_at k (acc := []) k5
    have p5 : Post X.K xv W (RD X.K) σ m4 H4 (.ok ((lastV k ps).getD dz) st4) Q := p4
    refine p5.here ?_ rs4 gd
    cases e5 : lastV k ps with
    | none =>
      rw [lk.2 e5]
      exact x4
    | some d0 =>
      obtain ⟨w, ew, xw⟩ := lk.1 d0 e5
      rw [ew]
      exact xw
end
end Ev

set_option Elab.async false
set_option linter.all false
set_option maxRecDepth 100000
set_option autoImplicit false
/-! Ev, part Hd: dicts with numbers or texts as keys. -/
namespace Ev
open PySem PySem.Spec PyProof.Rows L2
theorem RKV.look {K : PySem.W.Frag} {m : Ms} {H : Hp} (k : Key) : ∀ {ds : List (Key × D)} {vs : List (Key × V)}, RKV K m H ds vs → (∀ d, lookD ds k = some d → ∃ v, valV vs k = some v ∧ RD K m H d v) ∧ (lookD ds k = none → valV vs k = none)
  | [], vs, h => by
    have h : vs = [] := h
    subst h
    exact ⟨fun d e => by simp [lookD] at e, fun _ => valV_nil⟩
  | p :: r, vs, h => by
    obtain ⟨v, w, rfl, x, t⟩ := h
    have ih := RKV.look k t
    by_cases e : p.1 = k
    · have l : lookD (p :: r) k = some p.2 := by simp [lookD, e]
      have q : valV ((p.1, v) :: w) k = some v := valV_pos (p := (p.1, v)) e
      rw [l, q]
      exact ⟨fun d h => by cases h; exact ⟨v, rfl, x⟩, fun h => by cases h⟩
    · have l : lookD (p :: r) k = lookD r k := by simp [lookD, e]
      have q : valV ((p.1, v) :: w) k = valV w k := valV_neg (p := (p.1, v)) e
      rw [l, q]
      exact ih
theorem RKV.any {K : PySem.W.Frag} {m : Ms} {H : Hp} (k : Key) : ∀ {ds : List (Key × D)} {vs : List (Key × V)}, RKV K m H ds vs → (vs.any fun kv => decide (kv.1 = k)) = (ds.any fun p => decide (p.1 = k))
  | [], vs, h => by
    have h : vs = [] := h
    subst h
    rfl
  | p :: r, vs, h => by
    obtain ⟨v, w, rfl, x, t⟩ := h
    rw [List.any_cons, List.any_cons, RKV.any k t]
theorem RKV.app {K : PySem.W.Frag} {m : Ms} {H : Hp} {k : Key} {d : D} {v : V} (x : RD K m H d v) : ∀ {ds : List (Key × D)} {vs : List (Key × V)}, RKV K m H ds vs → RKV K m H (ds ++ [(k, d)]) (vs ++ [(k, v)])
  | [], vs, h => by
    have h : vs = [] := h
    subst h
    exact ⟨v, [], rfl, x, rfl⟩
  | p :: r, vs, h => by
    obtain ⟨u, w, rfl, y, t⟩ := h
    exact ⟨u, _, rfl, y, RKV.app x t⟩
theorem RKV.map {K : PySem.W.Frag} {m : Ms} {H : Hp} {k : Key} {d : D} {v : V} (x : RD K m H d v) : ∀ {ds : List (Key × D)} {vs : List (Key × V)}, RKV K m H ds vs → RKV K m H (ds.map fun p => if p.1 = k then (p.1, d) else p) (vs.map fun kv => if kv.1 = k then (kv.1, v) else kv)
  | [], vs, h => by
    have h : vs = [] := h
    subst h
    rfl
  | p :: r, vs, h => by
    obtain ⟨u, w, rfl, y, t⟩ := h
    have ih := RKV.map (k := k) x t
    rw [List.map_cons, List.map_cons]
    by_cases e : p.1 = k
    · rw [if_pos e, if_pos e]
      exact ⟨v, _, rfl, x, ih⟩
    · rw [if_neg e, if_neg e]
      exact ⟨u, _, rfl, y, ih⟩
theorem RKV.put {K : PySem.W.Frag} {m : Ms} {H : Hp} {k : Key} {d : D} {v : V} (x : RD K m H d v) {ds : List (Key × D)} {vs : List (Key × V)} (h : RKV K m H ds vs) : RKV K m H (putD ds k d) (putK vs k v) := by
  unfold putD putK
  rw [RKV.any k h]
  split
  · exact RKV.map x h
  · exact RKV.app x h
theorem RKV.length {K : PySem.W.Frag} {m : Ms} {H : Hp} : ∀ {ds : List (Key × D)} {vs : List (Key × V)}, RKV K m H ds vs → vs.length = ds.length
  | [], vs, h => by
    have h : vs = [] := h
    subst h
    rfl
  | p :: r, vs, h => by
    obtain ⟨u, w, rfl, y, t⟩ := h
    rw [List.length_cons, List.length_cons, RKV.length t]
theorem dk_at {K : PySem.W.Frag} {m : Ms} {H : Hp} {st : Store} {d : D} {v : V} {l : List (Key × D)} (rs : RS K m H st) (x : RD K m H d v) (h : dkOf st d = some l) :
    ∃ a vs, v = .ref a ∧ H a = some (.dK vs) ∧ RKV K m H l vs := by
  cases d <;> simp only [dkOf] at h
  case ref j =>
    split at h
    · rename_i l' e
      cases h
      simp only [RD] at x
      obtain ⟨a, e1, rfl⟩ := x
      obtain ⟨vs, q, y⟩ := rs.at_ j _ a e e1
      exact ⟨a, vs, rfl, q, y⟩
    · cases h
  all_goals cases h
theorem key_at {K : PySem.W.Frag} {m : Ms} {H : Hp} {d : D} {v : V} {k : Key} (x : RD K m H d v) (h : keyD d = some k) : v = kV k := by
  cases d <;> simp only [keyD] at h <;> first | cases h | skip
  all_goals
    simp only [RD] at x
    exact x
section
variable {X : Cx} {xv : Nat → Value} {W : WX} {a b e : Expr} {pos apos cpos : Pos} {f g h : Env → Store → R D}
theorem e_dnew : PE X (.Dict [] [] pos) (tEv X.K xv W fun _ st => .ok (.ref st.length) (st ++ [.dk []])) :=
  PE.use pe_dnewK fun σ H Q ⟨m, env, st, re, rs, p⟩ => by
    intro q hq
    have p : Post X.K xv W (RD X.K) σ m H (.ok (.ref st.length) (st ++ [.dk []])) Q := p
    refine fun gd => p (m.push q) _ _ (.push hq _) ?_ (rs.push hq ⟨[], upd_same, rfl⟩) gd
    simp only [RD]
    exact ⟨q, by rw [rs.len]; exact List.getElem?_concat_length, rfl⟩
theorem e_dat (hu : X.A.units + 64 < cLine) (ha : PE X a (tEv X.K xv W f)) (hb : PE X b (tEv X.K xv W g)) (hs : NoSl b) : PE X (.Subscript a b pos) (tEv X.K xv W fun env st => (f env st).bind fun x st => (g env st).bind fun y st => .ofO (datD x y st) fun d => .ok d st) :=
  PE.use (pe_dget (by omega) ha hb hs) fun σ H Q ⟨m, env, st, re, rs, p⟩ =>
    read2 (k := fun x y st => .ofO (datD x y st) fun d => .ok d st) re rs p fun m H st x y v u gd re rs hx hy p => by
      obtain ⟨d, e, p⟩ := p.ofO
      unfold datD at e
      rw [Option.bind_eq_some_iff] at e
      obtain ⟨l, e1, e⟩ := e
      rw [Option.bind_eq_some_iff] at e
      obtain ⟨k, e2, e⟩ := e
      obtain ⟨A, vs, rfl, q, y1⟩ := dk_at rs hx e1
      have hk := key_at hy e2
      subst hk
      obtain ⟨w, ew, rw'⟩ := (RKV.look k y1).1 d e
      exact ⟨A, w, rfl, by rw [← ew]; exact DGet.k q, fun g => p.here rw' rs g⟩
theorem din_at {m : Ms} {H : Hp} {st : Store} {x y : D} {v u : V} {c : Bool} (rs : RS X.K m H st) (hx : RD X.K m H x v) (hy : RD X.K m H y u) (e : dinD x y st = some c) : ∃ A o, v = .ref A ∧ DGet H A u o ∧ o.isSome = c := by
  unfold dinD at e
  rw [Option.bind_eq_some_iff] at e
  obtain ⟨l, e1, e⟩ := e
  rw [Option.map_eq_some_iff] at e
  obtain ⟨k, e2, rfl⟩ := e
  obtain ⟨A, vs, rfl, q, y1⟩ := dk_at rs hx e1
  have hk := key_at hy e2
  subst hk
  refine ⟨A, _, rfl, DGet.k q, ?_⟩
  cases e3 : lookD l k with
  | some d =>
    obtain ⟨w, ew, _⟩ := (RKV.look k y1).1 d e3
    rw [ew]
    rfl
  | none =>
    rw [(RKV.look k y1).2 e3]
    rfl
/-- k in d, k not in d: the operator's reading -/
theorem e_din {n : Bool} {op : CmpOp} (ho : op = if n = true then .NotIn else .In) (hu : X.A.units + 64 < cLine) (hb : PE X b (tEv X.K xv W g)) (ha : PE X a (tEv X.K xv W f)) (hm : behindInMarks op a = false) :
    PE X (.Compare b [op] [a] pos) (tEv X.K xv W fun env st => (g env st).bind fun y st => (f env st).bind fun x st => .ofO (dinD x y st) fun c => .ok (.bl (c != n)) st) := by
  cases n with
  | false =>
    subst ho
    exact PE.use (pe_cmp (pc_din (by omega) hb ha) hm) fun σ H Q ⟨m, env, st, re, rs, p⟩ =>
      read2 (k := fun y x st => .ofO (dinD x y st) fun c => .ok (.bl (c != false)) st) re rs p fun m H st y x u v gd re rs hy hx p => by
        obtain ⟨c, e, p⟩ := p.ofO
        obtain ⟨A, o, rfl, q, rfl⟩ := din_at rs hx hy e
        exact ⟨A, o, rfl, q, fun g => p.here (by simp only [RD]; cases o <;> rfl) rs g⟩
  | true =>
    subst ho
    exact PE.use (pe_cmp (pc_dnotin (by omega) hb ha) hm) fun σ H Q ⟨m, env, st, re, rs, p⟩ =>
      read2 (k := fun y x st => .ofO (dinD x y st) fun c => .ok (.bl (c != true)) st) re rs p fun m H st y x u v gd re rs hy hx p => by
        obtain ⟨c, e, p⟩ := p.ofO
        obtain ⟨A, o, rfl, q, rfl⟩ := din_at rs hx hy e
        exact ⟨A, o, rfl, q, fun g => p.here (by simp only [RD]; cases o <;> rfl) rs g⟩
theorem t_din {n : Bool} {op : CmpOp} (ho : op = if n = true then .NotIn else .In) (hu : X.A.units + 64 < cLine) (hb : PE X b (tEv X.K xv W g)) (ha : PE X a (tEv X.K xv W f)) (hm : behindInMarks op a = false) :
    PT X (.Compare b [op] [a] pos) (tTv X.K xv W fun env st => (g env st).bind fun y st => (f env st).bind fun x st => .ofO (dinD x y st) fun c => .ok (c != n) st) := by
  cases n with
  | false =>
    subst ho
    refine PT.use (pt_cmp (pc_din (by omega) hb ha) hm) fun σ H Q ⟨m, env, st, re, rs, p⟩ => ?_
    refine ⟨m, env, st, re, rs, (p.bind (rel := RD X.K)).mono fun v H1 ⟨y, m1, st1, L1, y1, rs1, g1, p1⟩ => ?_⟩
    refine ⟨m1, env, st1, re.lat L1 rs, rs1, (p1.bind (rel := RD X.K)).mono fun u H2 ⟨x, m2, st2, L2, x2, rs2, g2, p2⟩ => ?_⟩
    obtain ⟨c, e, p⟩ := p2.ofO
    obtain ⟨A, o, rfl, q, rfl⟩ := din_at rs2 x2 (RD.lat L2 rs1 _ _ y1) e
    exact ⟨A, o, rfl, q, _, rfl, fun g => p.here (by cases o <;> rfl) rs2 g⟩
  | true =>
    subst ho
    refine PT.use (pt_cmp (pc_dnotin (by omega) hb ha) hm) fun σ H Q ⟨m, env, st, re, rs, p⟩ => ?_
    refine ⟨m, env, st, re, rs, (p.bind (rel := RD X.K)).mono fun v H1 ⟨y, m1, st1, L1, y1, rs1, g1, p1⟩ => ?_⟩
    refine ⟨m1, env, st1, re.lat L1 rs, rs1, (p1.bind (rel := RD X.K)).mono fun u H2 ⟨x, m2, st2, L2, x2, rs2, g2, p2⟩ => ?_⟩
    obtain ⟨c, e, p⟩ := p2.ofO
    obtain ⟨A, o, rfl, q, rfl⟩ := din_at rs2 x2 (RD.lat L2 rs1 _ _ y1) e
    exact ⟨A, o, rfl, q, _, rfl, fun g => p.here (by cases o <;> rfl) rs2 g⟩
theorem e_dg2 (hu : X.A.units + 64 < cLine) (ha : PE X a (tEv X.K xv W f)) (hb : PE X b (tEv X.K xv W g)) (he : PE X e (tEv X.K xv W h)) (hbase : attributeBase a "get" X.env (eval a X.env) = eval a X.env) (sb : notStar b = true) (se : notStar e = true) (hl : apos.endLine = cpos.line) :
    PE X (.Call (.Attribute a "get" apos) [b, e] [] cpos) (tEv X.K xv W fun env st => (f env st).bind fun x st => .ofO (dkOf st x) fun _ => (g env st).bind fun y st => (h env st).bind fun z st => .ofO (dg2D x y z st) fun d => .ok d st) := by
  have M : M2 X a "get" apos b e cpos := by
    refine ⟨hbase, ?_, by rw [hl]; exact beq_self_eq_true _, ?_⟩
    · rw [star_cons sb, star_cons se]
      rfl
    · rw [star_cons sb, star_cons se]
      rfl
  refine PE.use (pe_dget2 (by omega) ha hb he M) fun σ H Q ⟨m, env, st, re, rs, p⟩ => ?_
  refine ⟨m, env, st, re, rs, (p.bind (rel := RD X.K)).mono fun v H1 ⟨x, m1, st1, L1, x1, rs1, g1, p1⟩ => ?_⟩
  obtain ⟨l1, e1, p2⟩ := p1.ofO
  obtain ⟨A, vs, rfl, q, y1⟩ := dk_at rs1 x1 e1
  refine ⟨A, rfl, .inl ⟨_, .inl q⟩, m1, env, st1, re.lat L1 rs, rs1, (p2.bind (rel := RD X.K)).mono fun u H2 ⟨y, m2, st2, L2, y2, rs2, g2, p3⟩ => ?_⟩
  have re2 := (re.lat L1 rs).lat L2 rs1
  refine ⟨m2, env, st2, re2, rs2, (p3.bind (rel := RD X.K)).mono fun w H3 ⟨z, m3, st3, L3, z3, rs3, g3, p4⟩ => ?_⟩
  obtain ⟨d, e4, p5⟩ := p4.ofO
  unfold dg2D at e4
  rw [Option.bind_eq_some_iff] at e4
  obtain ⟨l, e4, e5⟩ := e4
  rw [Option.map_eq_some_iff] at e5
  obtain ⟨k, e5, rfl⟩ := e5
  obtain ⟨A', vs', ea, q', y'⟩ := dk_at rs3 (RD.lat L3 rs2 _ _ (RD.lat L2 rs1 _ _ x1)) e4
  cases ea
  have hk := key_at (RD.lat L3 rs2 _ _ y2) e5
  subst hk
  refine ⟨_, DGet.k q', fun gd => ?_⟩
  cases e6 : lookD l k with
  | some d =>
    obtain ⟨w', ew, rw'⟩ := (RKV.look k y').1 d e6
    rw [ew]
    rw [e6] at p5
    exact p5.here rw' rs3 gd
  | none =>
    rw [(RKV.look k y').2 e6]
    rw [e6] at p5
    exact p5.here z3 rs3 gd
end
end Ev

set_option Elab.async false
set_option linter.all false
set_option maxRecDepth 100000
set_option autoImplicit false
/-! Ev, part I: what is walked. -/
namespace Ev
open PySem PySem.Spec PyProof.Rows L2

/-! ### enumerate(v) of anything that begins -/
set_option maxHeartbeats 1000000 in
theorem enum_new1 {v : Value} {o : Obj} {H : Heap → Prop} (B : Begins v o H) :
    Meets (Builtin.«enumerate.__new__» ⟨[.type "enumerate", v], []⟩) (fun _ R s => H s.heap ∧
      R (.ok (.ret (.ref (s.heap.push o).objs.size))) { s with heap := (s.heap.push o).push { cls := .type "enumerate", data := .fields #[.none, .bool false, .ref s.heap.objs.size, rawInt 0, .none, .none] } }) :=
  .of_wp fun prog w A R s h => by
    obtain ⟨hp, g, d, tk, os⟩ := s
    obtain ⟨h1, h⟩ := h
    have hsub := sub_enumerate
    have q1 : ∀ {A' : Around} {E : Value → Shared → Prop} {Q : Value → Shared → Prop}, Q (.ref hp.objs.size) ⟨hp.push o, g, d, tk, os⟩ → wpAny (model prog w) A' (pyIter v) Q E ⟨hp, g, d, tk, os⟩ :=
      fun q => B.iter prog w _ _ ⟨hp, g, d, tk, os⟩ _ h1 q
    wp_walk using q1
    refine wpAny_stack_any fun st => wpAny_pure ?_
    split
    · rename_i c _ _ _ _ _
      cases (c == Value.type "enumerate")
      · wp_walk using q1
        exact ⟨_, rfl, h⟩
      · wp_walk using q1
        exact ⟨_, rfl, h⟩
    · wp_walk using q1
      exact ⟨_, rfl, h⟩
section
variable {prog : Program} {w : World} {A : Around} {E : Value → Shared → Prop} {s : Shared}
theorem enum_begins1 {v : Value} {o : Obj} {H : Heap → Prop} {Q : Value → Shared → Prop} (B : Begins v o H) (h1 : H s.heap)
    (h : ∀ h', IsEnum h' (s.heap.objs.size + 1) s.heap.objs.size 0 .none → h'.get? s.heap.objs.size = some o → h'.objs.size = s.heap.objs.size + 2 →
      (∀ b o, s.heap.get? b = some o → h'.get? b = some o) → Q (.ref (s.heap.objs.size + 1)) { s with heap := h' }) :
    wpAny (model prog w) A (call (.type "enumerate") [v]) Q E s := by
  refine callType_new F.called_enumerate (by decide) (F.typeCall_enumerate_1 _) (F.newCall_enumerate_1 _) (fun obj => F.args_object_init_2 obj _) F.entry_enumerate_new (enum_new1 B) ⟨h1, ?_⟩
  have hz : (s.heap.push o).objs.size = s.heap.objs.size + 1 := Heap.size_push ..
  show _ ∧ _
  rw [hz]
  have he : IsEnum ((s.heap.push o).push { cls := .type "enumerate", data := .fields #[.none, .bool false, .ref s.heap.objs.size, rawInt 0, .none, .none] }) (s.heap.objs.size + 1) s.heap.objs.size 0 .none := by
    have := Heap.get?_push_size (s.heap.push o) (o := { cls := .type "enumerate", data := .fields #[.none, .bool false, .ref s.heap.objs.size, rawInt 0, .none, .none] }) rfl
    rw [hz] at this
    exact this
  exact ⟨⟨_, he, rfl⟩, h _ he (Heap.get?_push_of_some _ (Heap.get?_push_size _ B.free)) (by rw [Heap.size_push, hz]) fun b o x => Heap.get?_push_of_some _ (Heap.get?_push_of_some _ x)⟩
end

/-! ### a list or a tuple, by a flag -/
def SqK (K : PySem.W.Frag) (t : Bool) (H : Hp) (a : Addr) (xs : List V) : Prop := if t = true then SqT K H a xs else SqL K H a xs
def SeqH (t : Bool) (h : Heap) (a : Addr) (its : Array Value) : Prop := if t = true then h.IsTuple a its else h.IsList a its
def IterH (t : Bool) (h : Heap) (it a : Addr) (i : Nat) : Prop := if t = true then h.IsTupleIter it a i else h.IsListIter it a i
def iterO (t : Bool) (a : Addr) : Obj := if t = true then { cls := .type "tuple_iterator", data := .fields #[.ref a, .int 0 0] } else { cls := .type "list_iterator", data := .fields #[.ref a, .int 0 0] }
theorem begins_K (t : Bool) (a : Addr) (its : Array Value) : Begins (.ref a) (iterO t a) fun h => SeqH t h a its := by
  cases t
  · exact begins_list a its
  · exact begins_tuple a its
theorem draws_K {prog : Program} {w : World} {A : Around} (hh : A.handled = none) (t : Bool) (it a : Addr) (hne : a ≠ it) (its : Array Value) :
    Draws prog w A it [it, a] its.size (fun i v => its[i]? = some v) (fun i h => IterH t h it a i ∧ SeqH t h a its) := by
  cases t
  · exact Draws.list hh it a hne its
  · exact Draws.tuple hh it a hne its
theorem IterH.at {t : Bool} {h h' : Heap} {it a : Addr} {i : Nat} (x : IterH t h it a i) (k : ∀ o, h.get? it = some o → h'.get? it = some o) : IterH t h' it a i := by
  cases t
  · exact Heap.IsListIter.at (show h.IsListIter it a i from x) k
  · exact Heap.IsTupleIter.at (show h.IsTupleIter it a i from x) k
theorem IterH.obj {t : Bool} {h : Heap} {it a : Addr} {i : Nat} (x : IterH t h it a i) : ∃ o, h.get? it = some o ∧ ∀ v, o.data ≠ .cell v := by
  cases t
  · obtain ⟨o, e, c, d⟩ := (show h.IsListIter it a i from x)
    exact ⟨o, e, fun v z => by rw [d] at z; cases z⟩
  · obtain ⟨o, e, c, d⟩ := (show h.IsTupleIter it a i from x)
    exact ⟨o, e, fun v z => by rw [d] at z; cases z⟩
theorem IterH.new {t : Bool} {h : Heap} {it a : Addr} (e : h.get? it = some (iterO t a)) : IterH t h it a 0 := by
  cases t
  · exact ⟨_, e, rfl, rfl⟩
  · exact ⟨_, e, rfl, rfl⟩
section
variable {X : Cx} {pins : List (Addr × Obj)} {σ : L2.St} {H : Hp} {s : Shared} {a : Addr} {xs ys : List V} {t : Bool}
theorem Inv.seqK (I : Inv X pins σ H s) (h : SqK X.K t H a xs) : ∃ its : List Value, Vals xs its ∧ SeqH t s.heap a its.toArray ∧ a < s.heap.objs.size := by
  cases t
  · obtain ⟨its, r, p, _⟩ := I.list (show SqL X.K H a xs from h)
    exact ⟨its, r, p.isList, p.lt⟩
  · obtain ⟨its, r, p, _⟩ := I.tuple (show SqT X.K H a xs from h)
    obtain ⟨o, e, _⟩ := id p
    exact ⟨its, r, p, Heap.lt_size e⟩
theorem Inv.seqK_inj (I : Inv X pins σ H s) (h : SqK X.K t H a xs) (h' : SqK X.K t H a ys) : xs = ys := by
  cases t
  · exact I.list_inj (show SqL X.K H a xs from h) h'
  · exact I.tuple_inj (show SqT X.K H a xs from h) h'
end

/-! ### enumerate -/
def ItE (K : PySem.W.Frag) (t : Bool) (a : Addr) : It :=
  ⟨fun i H => ∃ (xs : List V) (x : V), SqK K t H a xs ∧ xs[i]? = some x, fun i H v H' => ∃ T x, v = .ref T ∧ H T = none ∧ H' = upd H T (.tup [.int (i : Nat), x]) ∧ ∀ xs, SqK K t H a xs → xs[i]? = some x, fun i H => ∃ xs, SqK K t H a xs ∧ xs.length = i⟩
theorem turn_E {P : Program} {w : World} {K : PySem.W.Frag} {elts : List Expr} {kk : Nat} {tpos : Pos} {t : Bool} {a e it : Addr} (h1 : a ≠ it) (h2 : e ≠ it) (h3 : e ≠ a) :
    Turn P w K (.Tuple elts kk tpos) (ItE K t a) [e, it] e (fun i h => (∃ old, IsEnum h e it ((0 : Int) + ((i : Nat) : Int)) old) ∧ IterH t h it a i) where
  mem := by simp
  obj := fun i h st b hb => by
    obtain ⟨⟨old, he⟩, hi⟩ := st
    have e' : b = e ∨ b = it := by simpa using hb
    rcases e' with z | z
    · rw [z]
      exact ⟨_, he, fun v q => by cases q⟩
    · rw [z]
      exact hi.obj
  keep := fun i h h' st k => by
    obtain ⟨⟨old, he⟩, hi⟩ := st
    exact ⟨⟨old, k e (by simp) _ he⟩, hi.at fun o q => k it (by simp) o q⟩
  item := by
    intro X hP hw hK hc i pins s σ H E I hf st hg
    subst hP hw hK
    obtain ⟨xs, x, hq, hx⟩ := hg
    obtain ⟨its, rv, p, hlt⟩ := Inv.seqK I hq
    obtain ⟨u, hu, ru⟩ := rv.get hx
    have hi : i < its.toArray.size := by
      have := (List.getElem?_eq_some_iff.mp hu).1
      simpa using this
    have W := GoesN.enumFrom (elts := elts) (x1 := kk) (pos := tpos) 0 (draws_K (prog := X.prog) (w := X.w) (A := X.A.in1) (by show X.A.in1.handled = none; exact I.ok.hd hc) t it a h1 its.toArray) e h2 (by simp [h2, h3]) (by simp)
    obtain ⟨oe, he, _⟩ : ∃ o, s.heap.get? e = some o ∧ True := by obtain ⟨⟨old, he⟩, _⟩ := st; exact ⟨_, he, trivial⟩
    obtain ⟨oi, hio, _⟩ := st.2.obj
    refine W.goes i s _ _ hi ⟨st.1, st.2, p⟩ fun v h' tk hy st' hk htk => ?_
    obtain ⟨T, tt, u', rfl, hT, hu', hTup⟩ := hy
    have eu : u' = u := by
      have : its.toArray[i]? = some u := by simpa using hu
      rw [this] at hu'
      exact (Option.some.inj hu').symm
    subst eu
    have new : ObjOk X.prog X.w (upd H T (.tup [.int (i : Nat), x])) h' T (.tup [.int (i : Nat), x]) :=
      ⟨by show 2 ≤ sizeLine; decide, [.int ((0 : Int) + (i : Int)) tt, u'], .cons ⟨tt, by rw [Int.zero_add]⟩ (.cons ru .nil), hTup⟩
    have I1 := I.turnedNew (t' := tk) (ch := [e, it]) hk hf hT new
    refine ⟨.ref T, _, I1, rfl, ⟨T, x, rfl, I.hok.fresh hT, rfl, fun ys hy => by rw [Inv.seqK_inj I hy hq]; exact hx⟩, ⟨st'.1, st'.2.1⟩, fun b hb => ?_⟩
    have hb' : b < s.heap.objs.size := by
      have e' : b = e ∨ b = it := by simpa using hb
      rcases e' with z | z
      · rw [z]
        exact Heap.lt_size he
      · rw [z]
        exact Heap.lt_size hio
    rw [upd_ne (Nat.ne_of_lt (Nat.lt_of_lt_of_le hb' hT))]
    exact (hf b hb).1
  done := by
    intro X hP hw hK hc i pins s σ H E I hf st hg
    subst hP hw hK
    obtain ⟨xs, hq, hx⟩ := hg
    obtain ⟨its, rv, p, hlt⟩ := Inv.seqK I hq
    have hn : its.toArray.size = i := by
      rw [← hx, rv.length]
      simp
    have W := GoesN.enumFrom (elts := elts) (x1 := kk) (pos := tpos) 0 (draws_K (prog := X.prog) (w := X.w) (A := X.A.in1) (by show X.A.in1.handled = none; exact I.ok.hd hc) t it a h1 its.toArray) e h2 (by simp [h2, h3]) (by simp)
    refine thn (W.stops s (fun s1 => Inv X pins σ H s1) E (by rw [hn]; exact ⟨st.1, st.2, p⟩) fun h' tk hk htk => I.turnedL (t' := tk) (ch := [e, it]) hk hf) fun r s1 q => q
  self := fun A i s Q E st h => by
    obtain ⟨⟨old, he⟩, _⟩ := st
    exact wpAny_pyIter_enum he h
def iE (K : PySem.W.Frag) (t : Bool) (ta : TA) : TI := fun σ H R => ta σ H fun vs H1 => ∃ a xs, vs = [.ref a] ∧ SqK K t H1 a xs ∧ R (ItE K t a) H1
theorem pi_E {X : Cx} {t : Bool} {e : Expr} {ta : TA} {p pos tpos : Pos} {elts : List Expr} {kk : Nat} (hg : Gl X "enumerate") (hm : X.mg "enumerate" = none) (ha : PA X [e] ta) (hs : starEach [e] X.env = [(false, eval e X.env)]) :
    PI X (.Tuple elts kk tpos) (.Call (.Name "enumerate" p) [e] [] pos) (iE X.K t ta) := by
  refine ⟨fun pins s σ H R I h => ?_⟩
  refine Call_ (ld_blt I hg hm boot_enumerate (PyProof.Rows.callWith_type1 (thn (ha.run pos pins s σ H _ I h) fun us s1 ⟨vs, H1, I1, r1, q1⟩ => ?_) hs rfl))
  obtain ⟨a, xs, ex, hq, q⟩ := q1
  subst ex
  cases r1 with
  | cons r rr =>
    cases rr
    cases r
    obtain ⟨its, rv, p', hlt⟩ := Inv.seqK I1 hq
    refine enum_begins1 (begins_K t a its.toArray) p' fun h' he hit hsz hk => wpAny_pyIter_enum he ?_
    have I2 : Inv X pins σ H1 { s1 with heap := h' } := I1.kept (t' := s1.toks) hk
    refine ⟨s1.heap.objs.size + 1, [s1.heap.objs.size + 1, s1.heap.objs.size], _, _, H1, rfl, I2, turn_E (Nat.ne_of_lt hlt) (Nat.succ_ne_self _) (Nat.ne_of_gt (Nat.lt_succ_of_lt hlt)), ⟨⟨.none, he⟩, .new hit⟩, fun b hb => ?_, q⟩
    have e' : b = s1.heap.objs.size + 1 ∨ b = s1.heap.objs.size := by simpa using hb
    have hle : s1.heap.objs.size ≤ b := by
      rcases e' with z | z
      · rw [z]
        exact Nat.le_add_right _ _
      · rw [z]
        exact Nat.le_refl _
    exact I1.fpOk hle (I1.hok.fresh hle)

/-! ### zip of two -/
def ItZ (K : PySem.W.Frag) (t u : Bool) (a b : Addr) : It :=
  ⟨fun i H => ∃ (xs ys : List V) (x y : V), SqK K t H a xs ∧ SqK K u H b ys ∧ xs[i]? = some x ∧ ys[i]? = some y,
    fun i H v H' => ∃ T x y, v = .ref T ∧ H T = none ∧ H' = upd H T (.tup [x, y]) ∧ (∀ xs, SqK K t H a xs → xs[i]? = some x) ∧ ∀ ys, SqK K u H b ys → ys[i]? = some y,
    fun i H => ∃ xs ys : List V, SqK K t H a xs ∧ SqK K u H b ys ∧ min xs.length ys.length = i⟩
theorem turn_Z {P : Program} {w : World} {K : PySem.W.Frag} {elts : List Expr} {kk : Nat} {tpos : Pos} {t u : Bool} {a b z TI TO i1 i2 : Addr} (h1 : a ≠ i1) (h2 : b ≠ i2) (S : ZipSep2 z TI TO i1 i2 [i1, a] [i2, b]) :
    Turn P w K (.Tuple elts kk tpos) (ItZ K t u a b) [z, TI, TO, i1, i2] z (fun i h => IsZip h z TI TO .none ∧ IsTupOf2 h TI (.ref i1) (.ref i2) ∧ (∃ x y, IsTupOf2 h TO x y) ∧ IterH t h i1 a i ∧ IterH u h i2 b i) where
  mem := by simp
  obj := fun i h st c hc => by
    obtain ⟨hz, hTI, ⟨x, y, hTO⟩, q1, q2⟩ := st
    have e' : c = z ∨ c = TI ∨ c = TO ∨ c = i1 ∨ c = i2 := by simpa using hc
    rcases e' with q | q | q | q | q
    · rw [q]
      exact ⟨_, hz, fun v q => by cases q⟩
    · rw [q]
      exact ⟨_, hTI, fun v q => by cases q⟩
    · rw [q]
      exact ⟨_, hTO, fun v q => by cases q⟩
    · rw [q]
      exact q1.obj
    · rw [q]
      exact q2.obj
  keep := fun i h h' st k => by
    obtain ⟨hz, hTI, ⟨x, y, hTO⟩, q1, q2⟩ := st
    exact ⟨k z (by simp) _ hz, k TI (by simp) _ hTI, ⟨x, y, k TO (by simp) _ hTO⟩, q1.at fun o q => k i1 (by simp) o q, q2.at fun o q => k i2 (by simp) o q⟩
  item := by
    intro X hP hw hK hc i pins s σ H E I hf st hg
    subst hP hw hK
    obtain ⟨hz, hTI, ⟨x0, y0, hTO⟩, q1, q2⟩ := st
    obtain ⟨xs, ys, x, y, hqx, hqy, hx, hy⟩ := hg
    obtain ⟨its, rv, p, _⟩ := Inv.seqK I hqx
    obtain ⟨its2, rv2, p2, _⟩ := Inv.seqK I hqy
    obtain ⟨v1, hv1, ru⟩ := rv.get hx
    obtain ⟨v2, hv2, ru2⟩ := rv2.get hy
    have l1 := (List.getElem?_eq_some_iff.mp hv1).1
    have l2 := (List.getElem?_eq_some_iff.mp hv2).1
    have hi : i < min its.toArray.size its2.toArray.size := by
      simp only [List.size_toArray]
      omega
    have hh : X.A.in1.handled = none := by show X.A.in1.handled = none; exact I.ok.hd hc
    have W := GoesN.zip2 (elts := elts) (x1 := kk) (pos := tpos) S (draws_K (prog := X.prog) (w := X.w) hh t i1 a h1 its.toArray) (draws_K hh u i2 b h2 its2.toArray)
    obtain ⟨o1, ho1, _⟩ := q1.obj
    obtain ⟨o2, ho2, _⟩ := q2.obj
    refine W.goes i s _ _ hi ⟨hz, hTI, ⟨x0, y0, hTO⟩, ⟨q1, p⟩, ⟨q2, p2⟩⟩ fun v h' tk hyy st' hk htk => ?_
    obtain ⟨T, w1, w2, rfl, hT, hw1, hw2, hTup⟩ := hyy
    have e1 : w1 = v1 := by
      have : its.toArray[i]? = some v1 := by simpa using hv1
      rw [this] at hw1
      exact (Option.some.inj hw1).symm
    have e2 : w2 = v2 := by
      have : its2.toArray[i]? = some v2 := by simpa using hv2
      rw [this] at hw2
      exact (Option.some.inj hw2).symm
    subst e1 e2
    have new : ObjOk X.prog X.w (upd H T (.tup [x, y])) h' T (.tup [x, y]) := ⟨by show 2 ≤ sizeLine; decide, [w1, w2], .cons ru (.cons ru2 .nil), hTup⟩
    have I1 := I.turnedNew (t' := tk) (ch := [z, TI, TO, i1, i2]) (fun c o hc q => hk c o (fun q' => hc (by
      have q'' : c = z ∨ c = TO ∨ c = i1 ∨ c = i2 := by simpa using q'
      rcases q'' with r | r | r | r <;> simp [r])) q) hf hT new
    refine ⟨.ref T, _, I1, rfl, ⟨T, x, y, rfl, I.hok.fresh hT, rfl, fun l hl => by rw [Inv.seqK_inj I hl hqx]; exact hx, fun l hl => by rw [Inv.seqK_inj I hl hqy]; exact hy⟩, ⟨st'.1, st'.2.1, st'.2.2.1, st'.2.2.2.1.1, st'.2.2.2.2.1⟩, fun c hcm => ?_⟩
    have hlt : c < s.heap.objs.size := by
      have e' : c = z ∨ c = TI ∨ c = TO ∨ c = i1 ∨ c = i2 := by simpa using hcm
      rcases e' with q | q | q | q | q
      · rw [q]
        exact Heap.lt_size hz
      · rw [q]
        exact Heap.lt_size hTI
      · rw [q]
        exact Heap.lt_size hTO
      · rw [q]
        exact Heap.lt_size ho1
      · rw [q]
        exact Heap.lt_size ho2
    rw [upd_ne (Nat.ne_of_lt (Nat.lt_of_lt_of_le hlt hT))]
    exact (hf c hcm).1
  done := by
    intro X hP hw hK hc i pins s σ H E I hf st hg
    subst hP hw hK
    obtain ⟨hz, hTI, ⟨x0, y0, hTO⟩, q1, q2⟩ := st
    obtain ⟨xs, ys, hqx, hqy, hend⟩ := hg
    obtain ⟨its, rv, p, _⟩ := Inv.seqK I hqx
    obtain ⟨its2, rv2, p2, _⟩ := Inv.seqK I hqy
    have hn : min its.toArray.size its2.toArray.size = i := by
      rw [← hend, rv.length, rv2.length]
      simp
    have hh : X.A.in1.handled = none := by show X.A.in1.handled = none; exact I.ok.hd hc
    have W := GoesN.zip2 (elts := elts) (x1 := kk) (pos := tpos) S (draws_K (prog := X.prog) (w := X.w) hh t i1 a h1 its.toArray) (draws_K hh u i2 b h2 its2.toArray)
    refine thn (W.stops s (fun s1 => Inv X pins σ H s1) E (by rw [hn]; exact ⟨hz, hTI, ⟨x0, y0, hTO⟩, ⟨q1, p⟩, ⟨q2, p2⟩⟩) fun h' tk hk htk => I.turnedL (t' := tk) (ch := [z, TI, TO, i1, i2]) (fun c o hc q => hk c o (fun q' => hc (by
      have q'' : c = z ∨ c = TO ∨ c = i1 ∨ c = i2 := by simpa using q'
      rcases q'' with r | r | r | r <;> simp [r])) q) hf) fun r s1 q => q
  self := fun A i s Q E st h => wpAny_pyIter_zip st.1 h
def iZ (K : PySem.W.Frag) (t u : Bool) (ta : TA) : TI := fun σ H R => ta σ H fun vs H1 => ∃ a b xs ys, vs = [.ref a, .ref b] ∧ SqK K t H1 a xs ∧ SqK K u H1 b ys ∧ R (ItZ K t u a b) H1
theorem pi_Z {X : Cx} {t u : Bool} {e e2 : Expr} {ta : TA} {p pos tpos : Pos} {elts : List Expr} {kk : Nat} (hg : Gl X "zip") (hm : X.mg "zip" = none) (ha : PA X [e, e2] ta)
    (hs : starEach [e, e2] X.env = (false, eval e X.env) :: starEach [e2] X.env) (hpl : (backTo pos (starEach [e2] X.env)).any (·.1) = false) :
    PI X (.Tuple elts kk tpos) (.Call (.Name "zip" p) [e, e2] [] pos) (iZ X.K t u ta) := by
  refine ⟨fun pins s σ H R I h => ?_⟩
  refine Call_ (ld_blt I hg hm PyProof.Rows.boot_zip (PyProof.Rows.callWith_type1 (thn (ha.run pos pins s σ H _ I h) fun us s1 ⟨vs, H1, I1, r1, q1⟩ => ?_) hs hpl))
  obtain ⟨a, b, xs, ys, ex, hqx, hqy, q⟩ := q1
  subst ex
  cases r1 with
  | cons r rr =>
    cases rr with
    | cons r' rr =>
      cases rr
      cases r
      cases r'
      obtain ⟨its, rv, p1, la⟩ := Inv.seqK I1 hqx
      obtain ⟨its2, rv2, p2, lb⟩ := Inv.seqK I1 hqy
      refine zip_begins2 (begins_K t a its.toArray) (begins_K u b its2.toArray) p1 p2 fun h' hz hTI hTO h1 h2 hsz hk => wpAny_pyIter_zip hz ?_
      have I2 : Inv X pins σ H1 { s1 with heap := h' } := I1.kept (t' := s1.toks) hk
      have S : ZipSep2 (s1.heap.objs.size + 4) (s1.heap.objs.size + 2) (s1.heap.objs.size + 3) s1.heap.objs.size (s1.heap.objs.size + 1) [s1.heap.objs.size, a] [s1.heap.objs.size + 1, b] :=
        zip_sep2 (fun c hc => (show c = a by simpa using hc) ▸ la) (fun c hc => (show c = b by simpa using hc) ▸ lb)
      refine ⟨s1.heap.objs.size + 4, [s1.heap.objs.size + 4, s1.heap.objs.size + 2, s1.heap.objs.size + 3, s1.heap.objs.size, s1.heap.objs.size + 1], _, _, H1, rfl, I2, turn_Z (Nat.ne_of_lt la) (Nat.ne_of_lt (Nat.lt_succ_of_lt lb)) S, ⟨hz, hTI, ⟨_, _, hTO⟩, .new h1, .new h2⟩, fun c hcm => ?_, q⟩
      have e' : c = s1.heap.objs.size + 4 ∨ c = s1.heap.objs.size + 2 ∨ c = s1.heap.objs.size + 3 ∨ c = s1.heap.objs.size ∨ c = s1.heap.objs.size + 1 := by simpa using hcm
      have hle : s1.heap.objs.size ≤ c := by
        rcases e' with z | z | z | z | z
        · rw [z]
          exact Nat.le_add_right _ _
        · rw [z]
          exact Nat.le_add_right _ _
        · rw [z]
          exact Nat.le_add_right _ _
        · rw [z]
          exact Nat.le_refl _
        · rw [z]
          exact Nat.le_add_right _ _
      exact I1.fpOk hle (I1.hok.fresh hle)
end Ev

set_option Elab.async false
set_option linter.all false
set_option maxRecDepth 100000
set_option autoImplicit false
/-! Ev, part J: sources, targets, comprehensions. -/
namespace Ev
open PySem PySem.Spec PyProof.Rows L2

/-- what the iterator J gives is what the evaluator walks -/
structure SrcOk (K : PySem.W.Frag) (m0 : Ms) (H0 : Hp) (src : Src) (J : It) : Prop where
  len : src.ds.length ≤ sizeLine
  go : ∀ m H st i, LatZ m0 H0 m H → RS K m H st → guards src.gs st = true → i < src.ds.length → J.go i H
  stop : ∀ m H st, LatZ m0 H0 m H → RS K m H st → guards src.gs st = true → J.stop src.ds.length H
  yld : ∀ m H st i x H', LatZ m0 H0 m H → RS K m H st → guards src.gs st = true → i < src.ds.length → J.yld i H x H' → ∃ d, src.ds[i]? = some d ∧ Lat m H m H' ∧ RS K m H' st ∧ RD K m H' d x
abbrev tIv (K : PySem.W.Frag) (xv : Nat → Value) (W : WX) (f : Env → Store → R Src) : TI := tX K xv W (SrcOk K) f
theorem PI.or {X : Cx} {tg e : Expr} {t t' : TI} (h : PI X tg e t) (h' : PI X tg e t') : PI X tg e (fun σ H R => t σ H R ∨ t' σ H R) :=
  ⟨fun pins s σ H R I q => q.elim (h.run pins s σ H R I) (h'.run pins s σ H R I)⟩
/-- a sequence that stands -/
structure Stand (K : PySem.W.Frag) (t : Bool) (m0 : Ms) (H0 : Hp) (src : Src) (a : Addr) : Prop where
  at_ : ∀ m H st, LatZ m0 H0 m H → RS K m H st → guards src.gs st = true → ∃ vs, SqK K t H a vs ∧ RDs K m H src.ds vs
/-- which kind a value is -/
def isTup : D → Bool
  | .tup _ => true
  | _ => false
theorem stand_of {K : PySem.W.Frag} {m : Ms} {H : Hp} {st : Store} {d : D} {v : V} {s : Src} (rs : RS K m H st) (x : RD K m H d v) (h : srcOf st d = some s) :
    ∃ a, v = .ref a ∧ Stand K (isTup d) m H s a ∧ guards s.gs st = true := by
  cases d with
  | ref i =>
    simp only [srcOf] at h
    split at h
    · rename_i l e
      cases h
      simp only [RD] at x
      obtain ⟨a, e1, rfl⟩ := x
      refine ⟨a, rfl, ⟨fun m' H' st' L rs' g => ?_⟩, ?_⟩
      · simp only [guards, List.all_cons, List.all_nil, Bool.and_true, guard1] at g
        split at g
        · rename_i l' e2
          have := D.beqs_eq _ _ g
          subst this
          obtain ⟨vs, q, y⟩ := rs'.at_ i _ a e2 (L.get e1)
          exact ⟨vs, .of q, y⟩
        · cases g
      · simp only [guards, List.all_cons, List.all_nil, Bool.and_true, guard1, e]
        exact D.beqs_refl l
    · cases h
  | tup l =>
    simp only [srcOf, items, Option.map_some, Option.some.injEq] at h
    subst h
    simp only [RD] at x
    obtain ⟨a, vs, rfl, q, y⟩ := x
    exact ⟨a, rfl, ⟨fun m' H' st' L rs' g => ⟨vs, SqT.latz L rs q, RDs.latz L rs _ _ y⟩⟩, rfl⟩
  | lst l =>
    simp only [srcOf, items, Option.map_some, Option.some.injEq] at h
    subst h
    simp only [RD] at x
    obtain ⟨a, vs, rfl, q, n, y⟩ := x
    exact ⟨a, rfl, ⟨fun m' H' st' L rs' g => ⟨vs, .of (L.keep a _ q n), RDs.latz L rs _ _ y⟩⟩, rfl⟩
  | fl l =>
    simp only [srcOf, items, Option.map_some, Option.some.injEq] at h
    subst h
    simp only [RD] at x
    obtain ⟨a, vs, rfl, q, y⟩ := x
    exact ⟨a, rfl, ⟨fun m' H' st' L rs' g => ⟨vs, (FL.latz L q).sq, RDs.latz L rs _ _ y⟩⟩, rfl⟩
  | non => simp [srcOf, items] at h
  | bl b => simp [srcOf, items] at h
  | int i => simp [srcOf, items] at h
  | str s => simp [srcOf, items] at h
theorem Stand.len {K : PySem.W.Frag} {t : Bool} {m : Ms} {H : Hp} {s : Src} {a : Addr} {st : Store} (x : Stand K t m H s a) (rs : RS K m H st) (g : guards s.gs st = true) (gd : Good K H) : s.ds.length ≤ sizeLine := by
  obtain ⟨vs, q, y⟩ := x.at_ m H st .refl rs g
  rw [y.length]
  cases t
  · exact gd.1 a vs q
  · exact gd.2 a vs q
theorem src_list {K : PySem.W.Frag} {m : Ms} {H : Hp} {s : Src} {a : Addr} (x : Stand K false m H s a) (hl : s.ds.length ≤ sizeLine) : SrcOk K m H s (Itl K a) := by
  refine ⟨hl, fun m' H' st i L rs g hi => ?_, fun m' H' st L rs g => ?_, fun m' H' st i v H2 L rs g hi y => ?_⟩
  · obtain ⟨vs, q, r⟩ := x.at_ m' H' st L rs g
    obtain ⟨w, e, _⟩ := r.get (List.getElem?_eq_getElem hi)
    exact ⟨vs, w, q, e⟩
  · obtain ⟨vs, q, r⟩ := x.at_ m' H' st L rs g
    exact ⟨vs, q, by rw [r.length]; exact Nat.le_refl _⟩
  · obtain ⟨vs, q, r⟩ := x.at_ m' H' st L rs g
    obtain ⟨w, e, h⟩ := r.get (List.getElem?_eq_getElem hi)
    obtain ⟨rfl, y⟩ := y
    have := y vs q
    rw [e] at this
    cases this
    exact ⟨_, List.getElem?_eq_getElem hi, .refl, rs, h⟩
theorem src_tup {K : PySem.W.Frag} {m : Ms} {H : Hp} {s : Src} {a : Addr} (x : Stand K true m H s a) (hl : s.ds.length ≤ sizeLine) : SrcOk K m H s (Itt K a) := by
  refine ⟨hl, fun m' H' st i L rs g hi => ?_, fun m' H' st L rs g => ?_, fun m' H' st i v H2 L rs g hi y => ?_⟩
  · obtain ⟨vs, q, r⟩ := x.at_ m' H' st L rs g
    obtain ⟨w, e, _⟩ := r.get (List.getElem?_eq_getElem hi)
    exact ⟨vs, w, q, e⟩
  · obtain ⟨vs, q, r⟩ := x.at_ m' H' st L rs g
    exact ⟨vs, q, by rw [r.length]; exact Nat.le_refl _⟩
  · obtain ⟨vs, q, r⟩ := x.at_ m' H' st L rs g
    obtain ⟨w, e, h⟩ := r.get (List.getElem?_eq_getElem hi)
    obtain ⟨rfl, y⟩ := y
    have := y vs q
    rw [e] at this
    cases this
    exact ⟨_, List.getElem?_eq_getElem hi, .refl, rs, h⟩
theorem enumD_len : ∀ (n : Nat) (l : List D), (enumD n l).length = l.length
  | _, [] => rfl
  | n, _ :: r => congrArg (· + 1) (enumD_len (n + 1) r)
theorem enumD_get : ∀ (n : Nat) (l : List D) (i : Nat) (d : D), l[i]? = some d → (enumD n l)[i]? = some (.tup [.int ((n + i : Nat) : Int), d])
  | _, [], _, _, h => by simp at h
  | n, _ :: r, 0, d, h => by
    have : _ = d := Option.some.inj h
    subst this
    rfl
  | n, _ :: r, i + 1, d, h => by
    have := enumD_get (n + 1) r i d h
    rw [show n + (i + 1) = n + 1 + i by omega]
    exact this
theorem src_enum {K : PySem.W.Frag} {t : Bool} {m : Ms} {H : Hp} {s : Src} {a : Addr} (x : Stand K t m H s a) (hl : s.ds.length ≤ sizeLine) : SrcOk K m H ⟨enumD 0 s.ds, s.gs⟩ (ItE K t a) := by
  refine ⟨by rw [enumD_len]; exact hl, fun m' H' st i L rs g hi => ?_, fun m' H' st L rs g => ?_, fun m' H' st i v H2 L rs g hi y => ?_⟩
  · obtain ⟨vs, q, r⟩ := x.at_ m' H' st L rs g
    rw [enumD_len] at hi
    obtain ⟨w, e, _⟩ := r.get (List.getElem?_eq_getElem hi)
    exact ⟨vs, w, q, e⟩
  · obtain ⟨vs, q, r⟩ := x.at_ m' H' st L rs g
    exact ⟨vs, q, by rw [← r.length, enumD_len]⟩
  · obtain ⟨vs, q, r⟩ := x.at_ m' H' st L rs g
    rw [enumD_len] at hi
    have e1 := List.getElem?_eq_getElem hi
    obtain ⟨w, e, h⟩ := r.get e1
    obtain ⟨T, x', rfl, hT, rfl, y⟩ := y
    have := y vs q
    rw [e] at this
    cases this
    refine ⟨_, enumD_get 0 _ i _ e1, .alloc hT, rs.alloc hT, ?_⟩
    refine RD.newT rs (.cons ?_ (.cons h .nil)) hT
    simp only [RD, Nat.zero_add]
theorem zipD_len : ∀ (l r : List D), (zipD l r).length = min l.length r.length
  | [], r => by simp [zipD]
  | _ :: _, [] => by simp [zipD]
  | _ :: l, _ :: r => by
    simp only [zipD, List.length_cons, zipD_len l r]
    omega
theorem zipD_get : ∀ (l r : List D) (i : Nat) (d e : D), l[i]? = some d → r[i]? = some e → (zipD l r)[i]? = some (.tup [d, e])
  | [], _, _, _, _, h, _ => by simp at h
  | _ :: _, [], _, _, _, _, h => by simp at h
  | _ :: l, _ :: r, 0, d, e, h, h' => by
    cases Option.some.inj h
    cases Option.some.inj h'
    rfl
  | _ :: l, _ :: r, i + 1, d, e, h, h' => zipD_get l r i d e h h'
theorem src_zip {K : PySem.W.Frag} {t u : Bool} {m : Ms} {H : Hp} {s s' : Src} {a b : Addr} (x : Stand K t m H s a) (x' : Stand K u m H s' b) (hl : s.ds.length ≤ sizeLine) : SrcOk K m H ⟨zipD s.ds s'.ds, s.gs ++ s'.gs⟩ (ItZ K t u a b) := by
  have sp : ∀ {st}, guards (s.gs ++ s'.gs) st = true → guards s.gs st = true ∧ guards s'.gs st = true := fun {st} g => by
    unfold guards at g ⊢
    rw [List.all_append, Bool.and_eq_true] at g
    exact g
  refine ⟨by rw [zipD_len]; exact Nat.le_trans (Nat.min_le_left _ _) hl, fun m' H' st i L rs g hi => ?_, fun m' H' st L rs g => ?_, fun m' H' st i v H2 L rs g hi y => ?_⟩
  · obtain ⟨vs, q, r⟩ := x.at_ m' H' st L rs (sp g).1
    obtain ⟨ws, q', r'⟩ := x'.at_ m' H' st L rs (sp g).2
    rw [zipD_len] at hi
    have e1 : s.ds[i]? = some s.ds[i] := List.getElem?_eq_getElem (by omega)
    have e2 : s'.ds[i]? = some s'.ds[i] := List.getElem?_eq_getElem (by omega)
    obtain ⟨w, e, _⟩ := r.get e1
    obtain ⟨w', e', _⟩ := r'.get e2
    exact ⟨vs, ws, w, w', q, q', e, e'⟩
  · obtain ⟨vs, q, r⟩ := x.at_ m' H' st L rs (sp g).1
    obtain ⟨ws, q', r'⟩ := x'.at_ m' H' st L rs (sp g).2
    exact ⟨vs, ws, q, q', by rw [← r.length, ← r'.length, zipD_len]⟩
  · obtain ⟨vs, q, r⟩ := x.at_ m' H' st L rs (sp g).1
    obtain ⟨ws, q', r'⟩ := x'.at_ m' H' st L rs (sp g).2
    rw [zipD_len] at hi
    have e1 : s.ds[i]? = some s.ds[i] := List.getElem?_eq_getElem (by omega)
    have e2 : s'.ds[i]? = some s'.ds[i] := List.getElem?_eq_getElem (by omega)
    obtain ⟨w, e, h⟩ := r.get e1
    obtain ⟨w', e', h'⟩ := r'.get e2
    obtain ⟨T, a1, a2, rfl, hT, rfl, y1, y2⟩ := y
    have z1 := y1 vs q
    have z2 := y2 ws q'
    rw [e] at z1
    rw [e'] at z2
    cases z1
    cases z2
    exact ⟨_, zipD_get _ _ i _ _ e1 e2, .alloc hT, rs.alloc hT, RD.newT rs (.cons h (.cons h' .nil)) hT⟩
theorem rngD_len (c : Int) : ∀ (n : Nat) (lo : Int), (rngD lo c n).length = n
  | 0, _ => rfl
  | n + 1, lo => congrArg (· + 1) (rngD_len c n (lo + c))
theorem rngD_get (c : Int) : ∀ (n : Nat) (lo : Int) (i : Nat), i < n → (rngD lo c n)[i]? = some (.int (lo + (i : Int) * c))
  | 0, _, _, h => absurd h (Nat.not_lt_zero _)
  | n + 1, lo, 0, _ => by simp [rngD]
  | n + 1, lo, i + 1, h => by
    have := rngD_get c n (lo + c) i (by omega)
    rw [show lo + ((i + 1 : Nat) : Int) * c = lo + c + (i : Int) * c by rw [Int.natCast_add, Int.add_mul]; omega]
    exact this
theorem src_rng {K : PySem.W.Frag} {m : Ms} {H : Hp} {lo : Int} {n : Nat} (hl : n ≤ sizeLine) : SrcOk K m H ⟨rngD lo 1 n, []⟩ (Itr lo n) := by
  refine ⟨by rw [rngD_len]; exact hl, fun m' H' st i L rs g hi => ?_, fun m' H' st L rs g => ?_, fun m' H' st i v H2 L rs g hi y => ?_⟩
  · rw [rngD_len] at hi
    exact hi
  · rw [rngD_len]
    exact Nat.le_refl _
  · rw [rngD_len] at hi
    obtain ⟨rfl, rfl⟩ := y
    exact ⟨_, rngD_get 1 n lo i hi, .refl, rs, by simp only [RD, Int.mul_one]⟩
theorem src_rngC {K : PySem.W.Frag} {m : Ms} {H : Hp} {lo c : Int} {n : Nat} (hl : n ≤ sizeLine) : SrcOk K m H ⟨rngD lo c n, []⟩ (Itc lo c n) := by
  refine ⟨by rw [rngD_len]; exact hl, fun m' H' st i L rs g hi => ?_, fun m' H' st L rs g => ?_, fun m' H' st i v H2 L rs g hi y => ?_⟩
  · rw [rngD_len] at hi
    exact hi
  · rw [rngD_len]
    exact Nat.le_refl _
  · rw [rngD_len] at hi
    obtain ⟨rfl, rfl⟩ := y
    exact ⟨_, rngD_get c n lo i hi, .refl, rs, by simp only [RD]⟩
section
variable {X : Cx} {xv : Nat → Value} {W : WX} {a b c e tg : Expr} {pos p tpos : Pos} {f g h : Env → Store → R D} {fs : Env → Store → R (List D)} {elts : List Expr} {kk : Nat}
theorem i_walk (he : PE X e (tEv X.K xv W f)) : PI X tg e (tIv X.K xv W fun env st => (f env st).bind fun d st => .ofO (srcOf st d) fun s => .ok s st) :=
  PI.use (PI.or (pi_tup he) (pi_list he)) fun σ H R ⟨m, env, st, re, rs, p⟩ => by
    by_cases ht : ∃ l st', f env st = .ok (.tup l) st'
    · obtain ⟨l, st', e⟩ := ht
      refine .inl ⟨m, env, st, re, rs, (p.bindE (rel := RD X.K)).mono fun v H1 ⟨d, m1, st1, er, L1, x1, rs1, g1, p1⟩ => ?_⟩
      rw [e] at er
      cases er
      obtain ⟨s, es, p1⟩ := p1.ofO
      obtain ⟨A, rfl, S, gg⟩ := stand_of rs1 x1 es
      obtain ⟨vs, q, _⟩ := S.at_ m1 H1 _ .refl rs1 gg
      exact ⟨A, rfl, ⟨vs, q⟩, fun g => p1.here (src_tup S (S.len rs1 gg g)) rs1 g⟩
    · refine .inr ⟨m, env, st, re, rs, (p.bindE (rel := RD X.K)).mono fun v H1 ⟨d, m1, st1, er, L1, x1, rs1, g1, p1⟩ => ?_⟩
      obtain ⟨s, es, p1⟩ := p1.ofO
      obtain ⟨A, rfl, S, gg⟩ := stand_of rs1 x1 es
      have hk : isTup d = false := by
        cases d with
        | tup l => exact absurd ⟨l, st1, er⟩ ht
        | _ => rfl
      rw [hk] at S
      obtain ⟨vs, q, _⟩ := S.at_ m1 H1 _ .refl rs1 gg
      exact ⟨A, rfl, ⟨vs, q⟩, fun g => p1.here (src_list S (S.len rs1 gg g)) rs1 g⟩
theorem i_enum (hg : Gl X "enumerate") (hm : X.mg "enumerate" = none) (he : PE X e (tEv X.K xv W f)) (hst : notStar e = true) :
    PI X (.Tuple elts kk tpos) (.Call (.Name "enumerate" p) [e] [] pos) (tIv X.K xv W fun env st => (f env st).bind fun d st => .ofO (srcOf st d) fun s => .ok ⟨enumD 0 s.ds, s.gs⟩ st) := by
  have ha : PA X [e] _ := pa_cons he pa_nil (star_cons hst)
  refine PI.use (PI.or (pi_E (t := true) hg hm ha (star_cons hst)) (pi_E (t := false) hg hm ha (star_cons hst))) fun σ H R ⟨m, env, st, re, rs, p⟩ => ?_
  by_cases ht : ∃ l st', f env st = .ok (.tup l) st'
  · obtain ⟨l, st', e⟩ := ht
    refine .inl ⟨m, env, st, re, rs, (p.bindE (rel := RD X.K)).mono fun v H1 ⟨d, m1, st1, er, L1, x1, rs1, g1, p1⟩ => ?_⟩
    rw [e] at er
    cases er
    obtain ⟨s, es, p1⟩ := p1.ofO
    obtain ⟨A, rfl, S, gg⟩ := stand_of rs1 x1 es
    obtain ⟨vs, q, _⟩ := S.at_ m1 H1 _ .refl rs1 gg
    exact ⟨A, vs, rfl, q, fun g => p1.here (src_enum S (S.len rs1 gg g)) rs1 g⟩
  · refine .inr ⟨m, env, st, re, rs, (p.bindE (rel := RD X.K)).mono fun v H1 ⟨d, m1, st1, er, L1, x1, rs1, g1, p1⟩ => ?_⟩
    obtain ⟨s, es, p1⟩ := p1.ofO
    obtain ⟨A, rfl, S, gg⟩ := stand_of rs1 x1 es
    have hk : isTup d = false := by
      cases d with
      | tup l => exact absurd ⟨l, st1, er⟩ ht
      | _ => rfl
    rw [hk] at S
    obtain ⟨vs, q, _⟩ := S.at_ m1 H1 _ .refl rs1 gg
    exact ⟨A, vs, rfl, q, fun g => p1.here (src_enum S (S.len rs1 gg g)) rs1 g⟩
theorem i_zip (hg : Gl X "zip") (hm : X.mg "zip" = none) (ha : PE X a (tEv X.K xv W f)) (hb : PE X b (tEv X.K xv W g)) (hsa : notStar a = true) (hsb : notStar b = true) :
    PI X (.Tuple elts kk tpos) (.Call (.Name "zip" p) [a, b] [] pos) (tIv X.K xv W fun env st => (f env st).bind fun x st => (g env st).bind fun y st => .ofO (srcOf st x) fun s => .ofO (srcOf st y) fun t => .ok ⟨zipD s.ds t.ds, s.gs ++ t.gs⟩ st) := by
  have hA : PA X [a, b] _ := pa_cons ha (pa_cons hb pa_nil (star_cons hsb)) (star_cons hsa)
  have one : ∀ (t u : Bool), PI X (.Tuple elts kk tpos) (.Call (.Name "zip" p) [a, b] [] pos) (iZ X.K t u _) := fun t u => pi_Z (t := t) (u := u) hg hm hA (star_cons hsa) (star_any (by simp [hsb]))
  refine PI.use (PI.or (PI.or (one true true) (one true false)) (PI.or (one false true) (one false false))) fun σ H R ⟨m, env, st, re, rs, p⟩ => ?_
  -- the kinds, as the evaluator tells them
  have run : ∀ (t u : Bool), (∀ x st1 y st2, f env st = .ok x st1 → g env st1 = .ok y st2 → isTup x = t ∧ isTup y = u) → iZ X.K t u (tCons (tEv X.K xv W f) (tCons (tEv X.K xv W g) tNil)) σ H (fun J H1 => Good X.K H1 → R J H1) := fun t u ht => by
    refine ⟨m, env, st, re, rs, (p.bindE (rel := RD X.K)).mono fun v H1 ⟨x, m1, st1, er, L1, x1, rs1, g1, p1⟩ => ?_⟩
    refine ⟨m1, env, st1, re.lat L1 rs, rs1, (p1.bindE (rel := RD X.K)).mono fun w H2 ⟨y, m2, st2, er2, L2, y2, rs2, g2, p2⟩ => ?_⟩
    obtain ⟨s, es, p2⟩ := p2.ofO
    obtain ⟨s', es', p2⟩ := p2.ofO
    obtain ⟨k1, k2⟩ := ht x st1 y st2 er er2
    obtain ⟨A, rfl, S, gg⟩ := stand_of rs2 (x1.lat L2 rs1 _ _) es
    obtain ⟨B, rfl, S', gg'⟩ := stand_of rs2 y2 es'
    rw [k1] at S
    rw [k2] at S'
    obtain ⟨vs, q, _⟩ := S.at_ m2 H2 _ .refl rs2 gg
    obtain ⟨ws, q', _⟩ := S'.at_ m2 H2 _ .refl rs2 gg'
    exact ⟨A, B, vs, ws, rfl, q, q', fun g => p2.here (src_zip S S' (S.len rs2 gg g)) rs2 g⟩
  cases e1 : f env st with
  | ok x st1 =>
    cases e2 : g env st1 with
    | ok y st2 =>
      have same : ∀ x' st1' y' st2', f env st = .ok x' st1' → g env st1' = .ok y' st2' → x' = x ∧ y' = y := fun x' st1' y' st2' h1 h2 => by
        rw [e1] at h1
        cases h1
        rw [e2] at h2
        cases h2
        exact ⟨rfl, rfl⟩
      cases k1 : isTup x <;> cases k2 : isTup y
      · exact .inr (.inr (run _ _ fun x' st1' y' st2' h1 h2 => by obtain ⟨rfl, rfl⟩ := same _ _ _ _ h1 h2; exact ⟨k1, k2⟩))
      · exact .inr (.inl (run _ _ fun x' st1' y' st2' h1 h2 => by obtain ⟨rfl, rfl⟩ := same _ _ _ _ h1 h2; exact ⟨k1, k2⟩))
      · exact .inl (.inr (run _ _ fun x' st1' y' st2' h1 h2 => by obtain ⟨rfl, rfl⟩ := same _ _ _ _ h1 h2; exact ⟨k1, k2⟩))
      · exact .inl (.inl (run _ _ fun x' st1' y' st2' h1 h2 => by obtain ⟨rfl, rfl⟩ := same _ _ _ _ h1 h2; exact ⟨k1, k2⟩))
    | _ => exact .inl (.inl (run _ _ fun x' st1' y' st2' h1 h2 => by rw [e1] at h1; cases h1; rw [e2] at h2; cases h2))
  | _ => exact .inl (.inl (run _ _ fun x' st1' y' st2' h1 h2 => by rw [e1] at h1; cases h1))
theorem near_of {i : Int} (h : near i = true) : -(2 ^ 62) ≤ i ∧ i < 2 ^ 62 := by
  simp only [near, Bool.and_eq_true, decide_eq_true_eq] at h
  exact h
theorem i_rng1 (hg : Gl X "range") (hm : X.mg "range" = none) (ha : PA X [a] (tAv X.K xv W fs)) (hsa : notStar a = true) (hl : ∀ env st ds st', fs env st = .ok ds st' → ds.length = 1) :
    PI X tg (.Call (.Name "range" p) [a] [] pos) (tIv X.K xv W fun env st => (fs env st).bind fun ds st => .ofO (rngOf ds) fun s => .ok s st) :=
  PI.use (pi_range1 hg hm ha (star_cons hsa)) fun σ H R ⟨m, env, st, re, rs, p⟩ => by
    refine ⟨m, env, st, re, rs, (p.bindE (rel := RDs X.K)).mono fun vs H1 ⟨ds, m1, st1, er, L1, x1, rs1, g1, p1⟩ => ?_⟩
    have hl := hl _ _ _ _ er
    obtain ⟨s, es, p1⟩ := p1.ofO
    match ds, hl with
    | [d], _ =>
      cases d <;> simp only [rngOf] at es <;> first | cases es | skip
      rename_i j _
      split at es
      · rename_i hc
        cases es
        simp only [Bool.and_eq_true, decide_eq_true_eq] at hc
        simp only [RDs, RD] at x1
        obtain ⟨v, r, rfl, rfl, rfl⟩ := x1
        obtain ⟨h1, h2⟩ := near_of hc.1
        exact ⟨j, rfl, h1, h2, fun g => p1.here (src_rng (by rw [← line_eq]; exact hc.2)) rs1 g⟩
      · cases es
theorem i_rng2 (hg : Gl X "range") (hm : X.mg "range" = none) (ha : PA X [a, b] (tAv X.K xv W fs)) (hsa : notStar a = true) (hsb : notStar b = true) (hl : ∀ env st ds st', fs env st = .ok ds st' → ds.length = 2) :
    PI X tg (.Call (.Name "range" p) [a, b] [] pos) (tIv X.K xv W fun env st => (fs env st).bind fun ds st => .ofO (rngOf ds) fun s => .ok s st) :=
  PI.use (pi_range2 hg hm ha (by rw [star_cons hsa, star_cons hsb]; rfl) (star_cons hsb)) fun σ H R ⟨m, env, st, re, rs, p⟩ => by
    refine ⟨m, env, st, re, rs, (p.bindE (rel := RDs X.K)).mono fun vs H1 ⟨ds, m1, st1, er, L1, x1, rs1, g1, p1⟩ => ?_⟩
    have hl := hl _ _ _ _ er
    obtain ⟨s, es, p1⟩ := p1.ofO
    match ds, hl with
    | [d, d'], _ =>
      cases d <;> cases d' <;> simp only [rngOf] at es <;> first | cases es | skip
      rename_i i j _
      split at es
      · rename_i hc
        cases es
        simp only [Bool.and_eq_true, decide_eq_true_eq] at hc
        simp only [RDs, RD] at x1
        obtain ⟨v, r, rfl, rfl, v', r', rfl, rfl, rfl⟩ := x1
        obtain ⟨h1, h2⟩ := near_of hc.1.1
        obtain ⟨h3, h4⟩ := near_of hc.1.2
        exact ⟨i, j, rfl, ⟨h1, h2, h3, h4⟩, fun g => p1.here (src_rng (by rw [← line_eq]; exact hc.2)) rs1 g⟩
      · cases es
end
end Ev

set_option Elab.async false
set_option linter.all false
set_option maxRecDepth 100000
set_option autoImplicit false
/-! Ev, part Y: enumerate(zip(a, b)). zip keeps an eye on the tuple it gave out last: both cases are told. -/
namespace Ev
open PySem PySem.Spec PyProof.Rows L2

/-- a zip, whatever it knows of its last tuple -/
def ZF (h : Heap) (z TI TO : Addr) : Prop := ∃ (a : Value) (f : Bool), (a = .none ∨ ∃ T : Nat, a = rawInt T) ∧
  h.get? z = some { cls := .type "zip", dict := none, data := .fields #[a, .bool f, .bool false, .ref TI, .ref TO], slots := #[] }
section
variable {prog : Program} {w : World} {A : Around} {E : Value → Shared → Prop} {s : Shared} {z TI TO i1 i2 : Addr} {fp1 fp2 : List Addr} {n1 n2 i : Nat} {P1 P2 : Nat → Value → Prop} {St1 St2 : Nat → Heap → Prop}

/-- is the last tuple free again? either answer -/
theorem zf_free {Q : Bool → Shared → Prop} (hz : ZF s.heap z TI TO) (h : ∀ b h', ZF h' z TI TO → Heap.SameBut z s.heap h' → Q b { s with heap := h' }) :
    wpAny (model prog w) A (Builtin.SmallTypes.ownedTupleIsFree (.ref z)) Q E s := by
  obtain ⟨a, f, ha, ho⟩ := id hz
  unfold Builtin.SmallTypes.ownedTupleIsFree
  rcases ha with rfl | ⟨T, rfl⟩
  · exact wpAny_bind (wpAny_field ho rfl (x := .none) rfl (wpAny_pure (h true s.heap hz (Heap.SameBut.refl _ _))))
  · refine wpAny_bind (wpAny_field ho rfl (x := rawInt T) rfl ?_)
    show wpAny _ _ (loadIfAlive ((T : Int).toNat) >>= _) _ _ _
    have al : ∀ {R : Option Obj → Shared → Prop}, R (s.heap.get? ((T : Int).toNat)) s → wpAny (model prog w) A (loadIfAlive ((T : Int).toNat)) R E s := fun r => fun _ _ _ => r
    refine wpAny_bind (al ?_)
    cases s.heap.get? ((T : Int).toNat) with
    | none => exact wpAny_pure (h true s.heap hz (Heap.SameBut.refl _ _))
    | some oT =>
      simp only [Option.isNone_some, Bool.false_eq_true, if_false]
      refine wpAny_bind (wpAny_field ho rfl (x := .bool f) rfl ?_)
      cases f with
      | true => exact wpAny_pure (h false s.heap hz (Heap.SameBut.refl _ _))
      | false =>
        rw [if_pos (show (Value.bool false != Value.bool true) = true from rfl)]
        exact wpAny_bind (wpAny_setField_rec ho (by simp) fun h1 o1 s1 => wpAny_pure (h false h1 ⟨_, true, .inr ⟨T, rfl⟩, o1⟩ s1))
/-- its kept tuple -/
def TupAt (h : Heap) (T : Addr) : Prop := ∃ a b, IsTupOf2 h T a b
/-- a heap that keeps all but the cells in wr -/
def Kp (wr : List Addr) (h h' : Heap) : Prop := ∀ c o, c ∉ wr → h.get? c = some o → h'.get? c = some o
theorem Kp.of {x : Addr} {wr : List Addr} {h h' : Heap} (k : Heap.SameBut x h h') (hx : x ∈ wr) : Kp wr h h' := fun c o hc e => k.extBut c o (fun q => hc (q ▸ hx)) e
theorem Kp.ofE {x : Addr} {wr : List Addr} {h h' : Heap} (k : Heap.ExtBut x h h') (hx : x ∈ wr) : Kp wr h h' := fun c o hc e => k c o (fun q => hc (q ▸ hx)) e
theorem Kp.trans {wr : List Addr} {h h' h'' : Heap} (k : Kp wr h h') (k' : Kp wr h' h'') : Kp wr h h'' := fun c o hc e => k' c o hc (k c o hc e)
theorem Kp.push {wr : List Addr} {h : Heap} {o : Obj} : Kp wr h (h.push o) := fun _ _ _ e => Heap.get?_push_of_some _ e
theorem mem4 {a b c d : Addr} : a ∈ [a, b, c, d] ∧ b ∈ [a, b, c, d] ∧ c ∈ [a, b, c, d] ∧ d ∈ [a, b, c, d] := by simp

set_option maxHeartbeats 1000000 in
/-- zip's next: an item -/
theorem zf_item {Q : Value → Shared → Prop} (S : ZipSep2 z TI TO i1 i2 fp1 fp2) (D1 : Draws prog w A i1 fp1 n1 P1 St1) (D2 : Draws prog w A i2 fp2 n2 P2 St2)
    (hz : ZF s.heap z TI TO) (hTI : IsTupOf2 s.heap TI (.ref i1) (.ref i2)) (hTO : TupAt s.heap TO) (q1 : St1 i s.heap) (q2 : St2 i s.heap) (l1 : i < n1) (l2 : i < n2)
    (hQ : ∀ x y T h' tk, P1 i x → P2 i y → ZF h' z TI TO → TupAt h' TO → St1 (i + 1) h' → St2 (i + 1) h' → s.heap.objs.size ≤ T → IsTupOf2 h' T x y → Kp [z, TO, i1, i2] s.heap h' → Q (.ref T) { s with heap := h', toks := tk }) :
    wpAny (model prog w) A (Builtin.«zip.__next__» ⟨[.ref z], []⟩) (fun fin s' => ∃ v, fin = .done (.ret v) ∧ Q v s') E s := by
  obtain ⟨hp, g, d, tk0, os⟩ := s
  obtain ⟨a0, f0, ha0, ho⟩ := id hz
  obtain ⟨mz, mT, m1, m2⟩ := @mem4 z TO i1 i2
  show wpAny _ _ (field (.ref z) 2 >>= _) _ _ _
  refine wpAny_bind (wpAny_field ho rfl (x := .bool false) rfl ?_)
  show wpAny _ _ (field (.ref z) 3 >>= _) _ _ _
  refine wpAny_bind (wpAny_field ho rfl (x := .ref TI) rfl ?_)
  refine wpAny_bind (wpAny_seqItems hTI rfl ?_)
  show wpAny _ _ (Builtin.SmallTypes.ownedTupleIsFree (.ref z) >>= _) _ _ _
  refine wpAny_bind (zf_free hz fun fr u zu su => ?_)
  replace su : Heap.SameBut z hp u := su
  replace zu : ZF u z TI TO := zu
  have ku : Kp [z, TO, i1, i2] hp u := .of su mz
  have c1 : St1 i u := D1.over q1 su S.zf1
  have c2 : St2 i u := D2.over q2 su S.zf2
  obtain ⟨ta, tb, hTO⟩ := hTO
  have hU : IsTupOf2 u TO ta tb := su.extBut _ _ S.TOz hTO
  have su1 := su.1
  obtain ⟨a, f, ha, hu⟩ := id zu
  cases fr with
  | false =>
    simp only [Bool.false_eq_true, if_false]
    refine wpAny_bind ?_
    rw [← Array.forIn_toList]
    simp only [List.forIn_cons, List.forIn_nil]
    refine wpAny_bind (wpAny_bind (wpAny_holding ?_))
    show wpAny _ _ (Builtin.SmallTypes.nextOf (.ref i1) >>= _) _ _ _
    refine wpAny_bind (D1.item i ⟨u, g, d, tk0, os⟩ _ _ l1 c1 fun x v t1 px e1 s1 => wpAny_pure (wpAny_pure ?_))
    replace s1 : Heap.SameBut i1 u v := s1
    refine wpAny_bind (wpAny_bind (wpAny_holding ?_))
    show wpAny _ _ (Builtin.SmallTypes.nextOf (.ref i2) >>= _) _ _ _
    refine wpAny_bind (D2.item i ⟨v, g, d, t1, os⟩ _ _ l2 (D2.over c2 s1 S.sep1_2) fun y v2 t2 py e2 s2 => wpAny_pure (wpAny_pure (wpAny_pure ?_)))
    replace s2 : Heap.SameBut i2 v v2 := s2
    show wpAny _ _ (newTuple [x, y] >>= _) _ _ _
    refine wpAny_bind (wpAny_newTuple (wpAny_pure ⟨_, rfl, ?_⟩))
    have k2 : Kp [z, TO, i1, i2] hp v2 := ku.trans ((Kp.of s1 m1).trans (Kp.of s2 m2))
    have up : ∀ c o, v2.get? c = some o → (v2.push { cls := .type "tuple", data := .seq #[x, y] }).get? c = some o := fun c o e => Heap.get?_push_of_some _ e
    exact hQ x y v2.objs.size _ t2 px py ⟨a, f, ha, up _ _ (s2.extBut _ _ S.zi2 (s1.extBut _ _ S.zi1 hu))⟩ ⟨ta, tb, up _ _ (s2.extBut _ _ S.Ti2 (s1.extBut _ _ S.Ti1 hU))⟩
      (D1.frame _ _ _ (D1.over e1 s2 S.sep2_1) fun b _ o e => up b o e) (D2.frame _ _ _ e2 fun b _ o e => up b o e) (by rw [s2.1, s1.1, su1]; exact Nat.le_refl _) (Heap.get?_push_size _ rfl) (k2.trans .push)
  | true =>
    simp only [if_true]
    refine wpAny_bind (wpAny_rule ?_)
    refine wpAny_bind (wpAny_field hu rfl (x := .ref TO) rfl ?_)
    refine wpAny_bind (wpAny_setField_rec hu (by simp) fun u0 z0 s0 => ?_)
    replace s0 : Heap.SameBut z u u0 := s0
    replace z0 : u0.get? z = some { cls := .type "zip", dict := none, data := .fields #[.ellipsis, .bool f, .bool false, .ref TI, .ref TO], slots := #[] } := z0
    refine wpAny_bind ?_
    simp only [List.zipIdx_cons, List.zipIdx_nil, List.forIn_cons, List.forIn_nil]
    refine wpAny_bind (wpAny_bind (wpAny_onRaise ?_))
    show wpAny _ _ (Builtin.SmallTypes.nextOf (.ref i1) >>= _) _ _ ⟨u0, g, d, tk0, os⟩
    refine wpAny_bind (D1.item i _ _ _ l1 (D1.over c1 s0 S.zf1) fun x v t1 px e1 s1 => wpAny_pure ?_)
    replace s1 : Heap.SameBut i1 u0 v := s1
    have U1 : IsTupOf2 v TO ta tb := s1.extBut _ _ S.Ti1 (s0.extBut _ _ S.TOz hU)
    refine wpAny_bind (wpAny_seqItems (s := ⟨v, g, d, t1, os⟩) U1 rfl ?_)
    refine wpAny_bind (updateSeq_IsTupOf2 (s := ⟨v, g, d, t1, os⟩) U1 fun v1 V1 r1 => ?_)
    replace V1 : IsTupOf2 v1 TO x tb := V1
    replace r1 : Heap.SameBut TO v v1 := r1
    refine wpAny_bind (wpAny_letGo (wpAny_pure ?_))
    refine wpAny_bind (wpAny_bind (wpAny_onRaise ?_))
    show wpAny _ _ (Builtin.SmallTypes.nextOf (.ref i2) >>= _) _ _ ⟨v1, g, d, t1, os⟩
    refine wpAny_bind (D2.item i _ _ _ l2 (D2.over (D2.over (D2.over c2 s0 S.zf2) s1 S.sep1_2) r1 S.Tf2) fun y v2 t2 py e2 s2 => wpAny_pure ?_)
    replace s2 : Heap.SameBut i2 v1 v2 := s2
    have U2 : IsTupOf2 v2 TO x tb := s2.extBut _ _ S.Ti2 V1
    refine wpAny_bind (wpAny_seqItems (s := ⟨v2, g, d, t2, os⟩) U2 rfl ?_)
    refine wpAny_bind (updateSeq_IsTupOf2 (s := ⟨v2, g, d, t2, os⟩) U2 fun v3 V3 r3 => ?_)
    replace V3 : IsTupOf2 v3 TO x y := V3
    replace r3 : Heap.SameBut TO v2 v3 := r3
    refine wpAny_bind (wpAny_letGo (wpAny_pure (wpAny_pure ?_)))
    refine wpAny_bind (wpAny_seqItems (s := ⟨v3, g, d, t2, os⟩) V3 rfl ?_)
    refine wpAny_bind (wpAny_newTuple ?_)
    have z3 : v3.get? z = some { cls := .type "zip", dict := none, data := .fields #[.ellipsis, .bool f, .bool false, .ref TI, .ref TO], slots := #[] } :=
      r3.extBut _ _ S.TOz.symm (s2.extBut _ _ S.zi2 (r1.extBut _ _ S.TOz.symm (s1.extBut _ _ S.zi1 z0)))
    have k3 : Kp [z, TO, i1, i2] hp v3 := ku.trans ((Kp.of s0 mz).trans ((Kp.of s1 m1).trans ((Kp.of r1 mT).trans ((Kp.of s2 m2).trans (Kp.of r3 mT)))))
    have j1 : St1 (i + 1) v3 := D1.over (D1.over (D1.over e1 r1 S.Tf1) s2 S.sep2_1) r3 S.Tf1
    have j2 : St2 (i + 1) v3 := D2.over e2 r3 S.Tf2
    have zl : z < v3.objs.size := Heap.lt_size z3
    have sz3 : v3.objs.size = hp.objs.size := by rw [r3.1, s2.1, r1.1, s1.1, s0.1, su1]
    show wpAny _ _ (Builtin.SmallTypes.ownedTupleHandOut (.ref z) (.ref v3.objs.size) >>= _) _ _ ⟨v3.push { cls := .type "tuple", data := .seq #[x, y] }, g, d, t2, os⟩
    refine wpAny_bind ?_
    unfold Builtin.SmallTypes.ownedTupleHandOut
    refine wpAny_bind (wpAny_setField_rec (s := ⟨v3.push { cls := .type "tuple", data := .seq #[x, y] }, g, d, t2, os⟩) (Heap.get?_push_of_some _ z3) (by simp) fun v4 z4 s4 => ?_)
    replace s4 : Heap.SameBut z (v3.push { cls := .type "tuple", data := .seq #[x, y] }) v4 := s4
    replace z4 : v4.get? z = some { cls := .type "zip", dict := none, data := .fields #[rawInt v3.objs.size, .bool f, .bool false, .ref TI, .ref TO], slots := #[] } := z4
    refine wpAny_setField_rec (s := ⟨v4, g, d, t2, os⟩) z4 (by simp) fun v5 z5 s5 => ?_
    replace s5 : Heap.SameBut z v4 v5 := s5
    replace z5 : v5.get? z = some { cls := .type "zip", dict := none, data := .fields #[rawInt v3.objs.size, .bool false, .bool false, .ref TI, .ref TO], slots := #[] } := z5
    have up : ∀ c o, c ≠ z → v3.get? c = some o → v5.get? c = some o := fun c o n e => s5.extBut _ _ n (s4.extBut _ _ n (Heap.get?_push_of_some _ e))
    refine wpAny_pure ⟨_, rfl, ?_⟩
    exact hQ x y v3.objs.size v5 t2 px py ⟨_, false, .inr ⟨_, rfl⟩, z5⟩ ⟨x, y, up _ _ S.TOz V3⟩ (D1.frame _ _ _ j1 fun b hb o e => up b o (fun q => S.zf1 (q ▸ hb)) e) (D2.frame _ _ _ j2 fun b hb o e => up b o (fun q => S.zf2 (q ▸ hb)) e)
      (by rw [sz3]; exact Nat.le_refl _) (s5.extBut _ _ (Nat.ne_of_gt zl) (s4.extBut _ _ (Nat.ne_of_gt zl) (Heap.get?_push_size _ rfl))) (k3.trans (Kp.push.trans ((Kp.of s4 mz).trans (Kp.of s5 mz))))

set_option maxHeartbeats 1000000 in
/-- zip's next: the end -/
theorem zf_end {Q : Fin → Shared → Prop} (S : ZipSep2 z TI TO i1 i2 fp1 fp2) (D1 : Draws prog w A i1 fp1 n1 P1 St1) (D2 : Draws prog w A i2 fp2 n2 P2 St2)
    (hz : ZF s.heap z TI TO) (hTI : IsTupOf2 s.heap TI (.ref i1) (.ref i2)) (hTO : TupAt s.heap TO) (q1 : St1 i s.heap) (q2 : St2 i s.heap) (hi : min n1 n2 = i)
    (hE : ∀ h' tk e, Kp [z, TO, i1, i2] s.heap h' → (∃ o, h'.get? e = some o ∧ o.cls = .type "StopIteration") → E (.ref e) { s with heap := h', toks := tk }) :
    wpAny (model prog w) A (Builtin.«zip.__next__» ⟨[.ref z], []⟩) Q E s := by
  obtain ⟨hp, g, d, tk0, os⟩ := s
  obtain ⟨a0, f0, ha0, ho⟩ := id hz
  obtain ⟨mz, mT, m1, m2⟩ := @mem4 z TO i1 i2
  show wpAny _ _ (field (.ref z) 2 >>= _) _ _ _
  refine wpAny_bind (wpAny_field ho rfl (x := .bool false) rfl ?_)
  show wpAny _ _ (field (.ref z) 3 >>= _) _ _ _
  refine wpAny_bind (wpAny_field ho rfl (x := .ref TI) rfl ?_)
  refine wpAny_bind (wpAny_seqItems hTI rfl ?_)
  show wpAny _ _ (Builtin.SmallTypes.ownedTupleIsFree (.ref z) >>= _) _ _ _
  refine wpAny_bind (zf_free hz fun fr u zu su => ?_)
  replace su : Heap.SameBut z hp u := su
  have ku : Kp [z, TO, i1, i2] hp u := .of su mz
  have c1 : St1 i u := D1.over q1 su S.zf1
  have c2 : St2 i u := D2.over q2 su S.zf2
  obtain ⟨ta, tb, hTO⟩ := hTO
  have hU : IsTupOf2 u TO ta tb := su.extBut _ _ S.TOz hTO
  obtain ⟨a, f, ha, hu⟩ := id zu
  cases fr with
  | false =>
    simp only [Bool.false_eq_true, if_false]
    refine wpAny_bind ?_
    rw [← Array.forIn_toList]
    simp only [List.forIn_cons, List.forIn_nil]
    refine wpAny_bind (wpAny_bind (wpAny_holding ?_))
    show wpAny _ _ (Builtin.SmallTypes.nextOf (.ref i1) >>= _) _ _ _
    by_cases l1 : i < n1
    · refine wpAny_bind (D1.item i ⟨u, g, d, tk0, os⟩ _ _ l1 c1 fun x v t1 px e1 s1 => wpAny_pure (wpAny_pure ?_))
      replace s1 : Heap.SameBut i1 u v := s1
      have e2 : i = n2 := by omega
      refine wpAny_bind (wpAny_bind (wpAny_holding ?_))
      show wpAny _ _ (Builtin.SmallTypes.nextOf (.ref i2) >>= _) _ _ _
      refine wpAny_bind (D2.done ⟨v, g, d, t1, os⟩ _ _ (by rw [← e2]; exact D2.over c2 s1 S.sep1_2) fun q e hq he => ?_)
      exact hE q t1 e (ku.trans ((Kp.of s1 m1).trans (Kp.ofE hq m2))) he
    · have e1 : i = n1 := by omega
      refine wpAny_bind (D1.done ⟨u, g, d, tk0, os⟩ _ _ (by rw [← e1]; exact c1) fun q e hq he => ?_)
      exact hE q tk0 e (ku.trans (Kp.ofE hq m1)) he
  | true =>
    simp only [if_true]
    refine wpAny_bind (wpAny_rule ?_)
    refine wpAny_bind (wpAny_field hu rfl (x := .ref TO) rfl ?_)
    refine wpAny_bind (wpAny_setField_rec hu (by simp) fun u0 z0 s0 => ?_)
    replace s0 : Heap.SameBut z u u0 := s0
    replace z0 : u0.get? z = some { cls := .type "zip", dict := none, data := .fields #[.ellipsis, .bool f, .bool false, .ref TI, .ref TO], slots := #[] } := z0
    refine wpAny_bind ?_
    simp only [List.zipIdx_cons, List.zipIdx_nil, List.forIn_cons, List.forIn_nil]
    refine wpAny_bind (wpAny_bind (wpAny_onRaise ?_))
    show wpAny _ _ (Builtin.SmallTypes.nextOf (.ref i1) >>= _) _ _ ⟨u0, g, d, tk0, os⟩
    by_cases l1 : i < n1
    · refine wpAny_bind (D1.item i _ _ _ l1 (D1.over c1 s0 S.zf1) fun x v t1 px e1 s1 => wpAny_pure ?_)
      replace s1 : Heap.SameBut i1 u0 v := s1
      have U1 : IsTupOf2 v TO ta tb := s1.extBut _ _ S.Ti1 (s0.extBut _ _ S.TOz hU)
      refine wpAny_bind (wpAny_seqItems (s := ⟨v, g, d, t1, os⟩) U1 rfl ?_)
      refine wpAny_bind (updateSeq_IsTupOf2 (s := ⟨v, g, d, t1, os⟩) U1 fun v1 V1 r1 => ?_)
      replace r1 : Heap.SameBut TO v v1 := r1
      refine wpAny_bind (wpAny_letGo (wpAny_pure ?_))
      have e2 : i = n2 := by omega
      refine wpAny_bind (wpAny_bind (wpAny_onRaise ?_))
      show wpAny _ _ (Builtin.SmallTypes.nextOf (.ref i2) >>= _) _ _ ⟨v1, g, d, t1, os⟩
      refine wpAny_bind (D2.done ⟨v1, g, d, t1, os⟩ _ _ (by rw [← e2]; exact D2.over (D2.over (D2.over c2 s0 S.zf2) s1 S.sep1_2) r1 S.Tf2) fun q e hq he => ?_)
      replace hq : Heap.ExtBut i2 v1 q := hq
      obtain ⟨oe, hoe, hce⟩ := he
      replace hoe : q.get? e = some oe := hoe
      have zq := hq _ _ S.zi2 (r1.extBut _ _ S.TOz.symm (s1.extBut _ _ S.zi1 z0))
      have ez : e ≠ z := fun x => by subst x; rw [zq] at hoe; cases hoe; simp at hce
      refine wpAny_setField_rec (s := ⟨q, g, d, t1, os⟩) zq (by simp) fun q' _ k' => ?_
      replace k' : Heap.SameBut z q q' := k'
      exact hE q' t1 e (ku.trans ((Kp.of s0 mz).trans ((Kp.of s1 m1).trans ((Kp.of r1 mT).trans ((Kp.ofE hq m2).trans (Kp.of k' mz)))))) ⟨oe, k'.extBut _ _ ez hoe, hce⟩
    · have e1 : i = n1 := by omega
      refine wpAny_bind (D1.done ⟨u0, g, d, tk0, os⟩ _ _ (by rw [← e1]; exact D1.over c1 s0 S.zf1) fun q e hq he => ?_)
      replace hq : Heap.ExtBut i1 u0 q := hq
      obtain ⟨oe, hoe, hce⟩ := he
      replace hoe : q.get? e = some oe := hoe
      have zq := hq _ _ S.zi1 z0
      have ez : e ≠ z := fun x => by subst x; rw [zq] at hoe; cases hoe; simp at hce
      refine wpAny_setField_rec (s := ⟨q, g, d, tk0, os⟩) zq (by simp) fun q' _ k' => ?_
      replace k' : Heap.SameBut z q q' := k'
      exact hE q' tk0 e (ku.trans ((Kp.of s0 mz).trans ((Kp.ofE hq m1).trans (Kp.of k' mz)))) ⟨oe, k'.extBut _ _ ez hoe, hce⟩

/-- next, of a zip, as enumerate asks it -/
theorem nextOf_zf {Q : Value → Shared → Prop} (S : ZipSep2 z TI TO i1 i2 fp1 fp2) (D1 : Draws prog w A.in1 i1 fp1 n1 P1 St1) (D2 : Draws prog w A.in1 i2 fp2 n2 P2 St2)
    (hz : ZF s.heap z TI TO) (hTI : IsTupOf2 s.heap TI (.ref i1) (.ref i2)) (hTO : TupAt s.heap TO) (q1 : St1 i s.heap) (q2 : St2 i s.heap) (l1 : i < n1) (l2 : i < n2)
    (hQ : ∀ x y T h' tk, P1 i x → P2 i y → ZF h' z TI TO → TupAt h' TO → St1 (i + 1) h' → St2 (i + 1) h' → s.heap.objs.size ≤ T → IsTupOf2 h' T x y → Kp [z, TO, i1, i2] s.heap h' → Q (.ref T) { s with heap := h', toks := tk }) :
    wpAny (model prog w) A (Builtin.SmallTypes.nextOf (.ref z)) Q E s := by
  have hT : s.TypeIs (.ref z) "zip" := by obtain ⟨a, f, _, o⟩ := id hz; exact ⟨_, o, rfl⟩
  unfold Builtin.SmallTypes.nextOf
  refine wpAny_bind (wpAny_callSpecial?_slot (name := Str.ofString "__next__") hT F.slot_zip_next
    (wpAny_call_entry F.slot_zip_next hT F.entry_zip_next ?_ (F.args_zip_next_1 _)))
  exact zf_item S D1 D2 hz hTI hTO q1 q2 l1 l2 fun x y T h' tk a1 a2 a3 a4 a5 a6 a7 a8 a9 => wpAny_pure (hQ x y T h' tk a1 a2 a3 a4 a5 a6 a7 a8 a9)
theorem nextOf_zfE {Q : Value → Shared → Prop} (S : ZipSep2 z TI TO i1 i2 fp1 fp2) (D1 : Draws prog w A.in1 i1 fp1 n1 P1 St1) (D2 : Draws prog w A.in1 i2 fp2 n2 P2 St2)
    (hz : ZF s.heap z TI TO) (hTI : IsTupOf2 s.heap TI (.ref i1) (.ref i2)) (hTO : TupAt s.heap TO) (q1 : St1 i s.heap) (q2 : St2 i s.heap) (hi : min n1 n2 = i)
    (hE : ∀ h' tk e, Kp [z, TO, i1, i2] s.heap h' → (∃ o, h'.get? e = some o ∧ o.cls = .type "StopIteration") → E (.ref e) { s with heap := h', toks := tk }) :
    wpAny (model prog w) A (Builtin.SmallTypes.nextOf (.ref z)) Q E s := by
  have hT : s.TypeIs (.ref z) "zip" := by obtain ⟨a, f, _, o⟩ := id hz; exact ⟨_, o, rfl⟩
  unfold Builtin.SmallTypes.nextOf
  refine wpAny_bind (wpAny_callSpecial?_slot (name := Str.ofString "__next__") hT F.slot_zip_next
    (wpAny_call_entry F.slot_zip_next hT F.entry_zip_next ?_ (F.args_zip_next_1 _)))
  exact zf_end S D1 D2 hz hTI hTO q1 q2 hi hE
/-- enumerate's next over a zip -/
theorem ez_item {e : Addr} {c : Int} {old : Value} {Q : Value → Shared → Prop} (S : ZipSep2 z TI TO i1 i2 fp1 fp2) (D1 : Draws prog w A.in1 i1 fp1 n1 P1 St1) (D2 : Draws prog w A.in1 i2 fp2 n2 P2 St2)
    (he : IsEnum s.heap e z c old) (ne : e ∉ [z, TO, i1, i2]) (f1 : e ∉ fp1) (f2 : e ∉ fp2)
    (hz : ZF s.heap z TI TO) (hTI : IsTupOf2 s.heap TI (.ref i1) (.ref i2)) (hTO : TupAt s.heap TO) (q1 : St1 i s.heap) (q2 : St2 i s.heap) (l1 : i < n1) (l2 : i < n2)
    (hQ : ∀ x y T h1 T' h' tk tt, P1 i x → P2 i y → s.heap.objs.size ≤ T → IsTupOf2 h1 T x y → Kp [z, TO, i1, i2] s.heap h1 → h1.objs.size ≤ T' → IsTupOf2 h' T' (.int c tt) (.ref T) → Kp [e] h1 h' →
      IsEnumOut h' e z (c + 1) (.ref T) T' → ZF h' z TI TO → TupAt h' TO → St1 (i + 1) h' → St2 (i + 1) h' → Q (.ref T') { s with heap := h', toks := tk }) :
    wpAny (model prog w) A (Builtin.«enumerate.__next__» ⟨[.ref e], []⟩) (fun fin s' => ∃ v, fin = .done (.ret v) ∧ Q v s') E s := by
  obtain ⟨hp, g, d, tk0, os⟩ := s
  have nz : e ≠ z := fun q => ne (by simp [q])
  have nT : e ≠ TO := fun q => ne (by simp [q])
  show wpAny _ _ (field (.ref e) 2 >>= _) _ _ _
  refine wpAny_bind (wpAny_field he rfl (x := .ref z) rfl ?_)
  refine wpAny_bind (nextOf_zf S D1 D2 hz hTI hTO q1 q2 l1 l2 fun x y T h1 t1 a1 a2 a3 a4 a5 a6 a7 a8 a9 => ?_)
  replace a9 : Kp [z, TO, i1, i2] hp h1 := a9
  replace a8 : IsTupOf2 h1 T x y := a8
  replace a3 : ZF h1 z TI TO := a3
  have e1 : IsEnum h1 e z c old := a9 e _ ne he
  show wpAny _ _ (field (.ref e) 3 >>= _) _ _ ⟨h1, g, d, t1, os⟩
  refine wpAny_bind (wpAny_field e1 rfl (x := rawInt c) rfl ?_)
  show wpAny _ _ (field (.ref e) 4 >>= _) _ _ ⟨h1, g, d, t1, os⟩
  refine wpAny_bind (wpAny_field e1 rfl (x := .none) rfl ?_)
  show wpAny _ _ (mkInt c >>= _) _ _ ⟨h1, g, d, t1, os⟩
  refine wpAny_bind (wpAny_mkInt ?_)
  show wpAny _ _ (setField (.ref e) 3 (rawInt (c + 1)) >>= _) _ _ ⟨h1, g, d, t1 + 1, os⟩
  refine wpAny_bind (wpAny_setField_rec e1 (by simp) fun h2 e2 s2 => ?_)
  replace s2 : Heap.SameBut e h1 h2 := s2
  replace e2 : IsEnum h2 e z (c + 1) old := e2
  show wpAny _ _ (setField (.ref e) 4 .none >>= _) _ _ ⟨h2, g, d, t1 + 1, os⟩
  refine wpAny_bind (wpAny_setField_rec e2 (by simp) fun h3 e3 s3 => ?_)
  replace s3 : Heap.SameBut e h2 h3 := s3
  replace e3 : IsEnum h3 e z (c + 1) old := e3
  show wpAny _ _ (newTuple [.int c t1, .ref T] >>= _) _ _ ⟨h3, g, d, t1 + 1, os⟩
  refine wpAny_bind (wpAny_newTuple ?_)
  show wpAny _ _ (Builtin.SmallTypes.ownedTupleIsFree (.ref e) >>= _) _ _ ⟨h3.push { cls := .type "tuple", data := .seq #[.int c t1, .ref T] }, g, d, t1 + 1, os⟩
  have e4 : IsEnum (h3.push { cls := .type "tuple", data := .seq #[.int c t1, .ref T] }) e z (c + 1) old := Heap.get?_push_of_some _ e3
  have el : e < h3.objs.size := Heap.lt_size e3
  refine wpAny_bind ?_
  unfold Builtin.SmallTypes.ownedTupleIsFree
  refine wpAny_bind (wpAny_field e4 rfl (x := .none) rfl (wpAny_pure ?_))
  simp only [if_true]
  refine wpAny_bind (wpAny_rule ?_)
  refine wpAny_bind (wpAny_field e4 rfl (x := old) rfl ?_)
  refine wpAny_bind (wpAny_setField_rec e4 (by simp) fun h5 e5 s5 => ?_)
  replace s5 : Heap.SameBut e (h3.push { cls := .type "tuple", data := .seq #[.int c t1, .ref T] }) h5 := s5
  replace e5 : IsEnum h5 e z (c + 1) (.ref T) := e5
  show wpAny _ _ (Builtin.SmallTypes.ownedTupleHandOut (.ref e) (.ref h3.objs.size) >>= _) _ _ ⟨h5, g, d, t1 + 1, os⟩
  refine wpAny_bind ?_
  unfold Builtin.SmallTypes.ownedTupleHandOut
  refine wpAny_bind (wpAny_setField_rec e5 (by simp) fun h6 e6 s6 => ?_)
  replace s6 : Heap.SameBut e h5 h6 := s6
  replace e6 : IsEnumOut h6 e z (c + 1) (.ref T) h3.objs.size := e6
  refine wpAny_setField_rec e6 (by simp) fun h7 e7 s7 => ?_
  replace s7 : Heap.SameBut e h6 h7 := s7
  replace e7 : IsEnumOut h7 e z (c + 1) (.ref T) h3.objs.size := e7
  have me : e ∈ [e] := by simp
  have k7 : Kp [e] h1 h7 := (Kp.of s2 me).trans ((Kp.of s3 me).trans (Kp.push.trans ((Kp.of s5 me).trans ((Kp.of s6 me).trans (Kp.of s7 me)))))
  have up : ∀ c o, c ≠ e → h1.get? c = some o → h7.get? c = some o := fun c o n q => k7 c o (by simpa using n) q
  refine wpAny_bind (wpAny_letGo (wpAny_pure ⟨_, rfl, hQ x y T h1 h3.objs.size h7 (t1 + 1) t1 a1 a2 a7 a8 a9 (by rw [s3.1, s2.1]; exact Nat.le_refl _) ?_ k7 e7 ?_ ?_ ?_ ?_⟩))
  · exact s7.extBut _ _ (Nat.ne_of_gt el) (s6.extBut _ _ (Nat.ne_of_gt el) (s5.extBut _ _ (Nat.ne_of_gt el) (Heap.get?_push_size _ rfl)))
  · obtain ⟨a, f, ha, o⟩ := a3
    exact ⟨a, f, ha, up _ _ nz.symm o⟩
  · obtain ⟨a, b, o⟩ := a4
    exact ⟨a, b, up _ _ nT.symm o⟩
  · exact D1.frame _ _ _ a5 fun b hb o q => up b o (fun r => f1 (r ▸ hb)) q
  · exact D2.frame _ _ _ a6 fun b hb o q => up b o (fun r => f2 (r ▸ hb)) q
theorem ez_next {e : Addr} {c : Int} {old : Value} {Q : Option Value → Shared → Prop} (S : ZipSep2 z TI TO i1 i2 fp1 fp2) (D1 : Draws prog w A.in1.in1 i1 fp1 n1 P1 St1) (D2 : Draws prog w A.in1.in1 i2 fp2 n2 P2 St2)
    (he : IsEnum s.heap e z c old) (ne : e ∉ [z, TO, i1, i2]) (f1 : e ∉ fp1) (f2 : e ∉ fp2)
    (hz : ZF s.heap z TI TO) (hTI : IsTupOf2 s.heap TI (.ref i1) (.ref i2)) (hTO : TupAt s.heap TO) (q1 : St1 i s.heap) (q2 : St2 i s.heap) (l1 : i < n1) (l2 : i < n2)
    (hQ : ∀ x y T h1 T' h' tk tt, P1 i x → P2 i y → s.heap.objs.size ≤ T → IsTupOf2 h1 T x y → Kp [z, TO, i1, i2] s.heap h1 → h1.objs.size ≤ T' → IsTupOf2 h' T' (.int c tt) (.ref T) → Kp [e] h1 h' →
      IsEnumOut h' e z (c + 1) (.ref T) T' → ZF h' z TI TO → TupAt h' TO → St1 (i + 1) h' → St2 (i + 1) h' → Q (some (.ref T')) { s with heap := h', toks := tk }) :
    wpAny (model prog w) A (pyNext (.ref e)) Q E s := by
  have hT : s.TypeIs (.ref e) "enumerate" := ⟨_, he, rfl⟩
  unfold pyNext
  exact wpAny_bind (wpAny_attempt (wpAny_callSpecial?_slot (name := Str.ofString "__next__") hT F.slot_enumerate_next
    (wpAny_call_entry F.slot_enumerate_next hT F.entry_enumerate_next
      (ez_item S D1 D2 he ne f1 f2 hz hTI hTO q1 q2 l1 l2 fun x y T h1 T' h' tk tt a1 a2 a3 a4 a5 a6 a7 a8 a9 b1 b2 b3 b4 => wpAny_pure (hQ x y T h1 T' h' tk tt a1 a2 a3 a4 a5 a6 a7 a8 a9 b1 b2 b3 b4)) (F.args_enumerate_next_1 _))))
theorem ez_nextE {e : Addr} {c : Int} {old : Value} {Q : Option Value → Shared → Prop} (S : ZipSep2 z TI TO i1 i2 fp1 fp2) (D1 : Draws prog w A.in1.in1 i1 fp1 n1 P1 St1) (D2 : Draws prog w A.in1.in1 i2 fp2 n2 P2 St2)
    (he : IsEnum s.heap e z c old) (hz : ZF s.heap z TI TO) (hTI : IsTupOf2 s.heap TI (.ref i1) (.ref i2)) (hTO : TupAt s.heap TO) (q1 : St1 i s.heap) (q2 : St2 i s.heap) (hi : min n1 n2 = i)
    (hQ : ∀ h' tk, Kp [z, TO, i1, i2] s.heap h' → Q none { s with heap := h', toks := tk }) :
    wpAny (model prog w) A (pyNext (.ref e)) Q E s := by
  have hT : s.TypeIs (.ref e) "enumerate" := ⟨_, he, rfl⟩
  unfold pyNext
  refine wpAny_bind (wpAny_attempt (wpAny_callSpecial?_slot (name := Str.ofString "__next__") hT F.slot_enumerate_next
    (wpAny_call_entry F.slot_enumerate_next hT F.entry_enumerate_next ?_ (F.args_enumerate_next_1 _))))
  show wpAny _ _ (field (.ref e) 2 >>= _) _ _ _
  refine wpAny_bind (wpAny_field he rfl (x := .ref z) rfl ?_)
  refine wpAny_bind (nextOf_zfE S D1 D2 hz hTI hTO q1 q2 hi fun h' tk x k ⟨o, ho, hc⟩ => ?_)
  refine wpAny_bind (wpAny_isInstance (T := "StopIteration") (b := true) ⟨o, ho, hc⟩ isSubtype_stop ?_)
  exact wpAny_pure (hQ _ _ k)
end

/-! ### enumerate of zip of two -/
def ItEZ (K : PySem.W.Frag) (t u : Bool) (a b : Addr) : It :=
  ⟨(ItZ K t u a b).go,
    fun i H v H' => ∃ T T' x y, v = .ref T' ∧ H T = none ∧ upd H T (.tup [x, y]) T' = none ∧ H' = upd (upd H T (.tup [x, y])) T' (.tup [.int (i : Nat), .ref T]) ∧ (∀ xs, SqK K t H a xs → xs[i]? = some x) ∧ ∀ ys, SqK K u H b ys → ys[i]? = some y,
    (ItZ K t u a b).stop⟩
theorem turn_EZ {P : Program} {w : World} {K : PySem.W.Frag} {elts : List Expr} {kk : Nat} {tpos : Pos} {t u : Bool} {a b e z TI TO i1 i2 : Addr} (h1 : a ≠ i1) (h2 : b ≠ i2) (S : ZipSep2 z TI TO i1 i2 [i1, a] [i2, b]) (ne : e ∉ [z, TO, i1, i2]) (nI : e ≠ TI) (na : e ≠ a) (nb : e ≠ b) :
    Turn P w K (.Tuple elts kk tpos) (ItEZ K t u a b) [e, z, TI, TO, i1, i2] e (fun i h => (∃ old, IsEnum h e z ((0 : Int) + ((i : Nat) : Int)) old) ∧ ZF h z TI TO ∧ IsTupOf2 h TI (.ref i1) (.ref i2) ∧ TupAt h TO ∧ IterH t h i1 a i ∧ IterH u h i2 b i) where
  mem := by simp
  obj := fun i h st c hc => by
    obtain ⟨⟨old, he⟩, ⟨_, _, _, hz⟩, hTI, ⟨x, y, hTO⟩, q1, q2⟩ := st
    have e' : c = e ∨ c = z ∨ c = TI ∨ c = TO ∨ c = i1 ∨ c = i2 := by simpa using hc
    rcases e' with q | q | q | q | q | q
    · rw [q]
      exact ⟨_, he, fun v q => by cases q⟩
    · rw [q]
      exact ⟨_, hz, fun v q => by cases q⟩
    · rw [q]
      exact ⟨_, hTI, fun v q => by cases q⟩
    · rw [q]
      exact ⟨_, hTO, fun v q => by cases q⟩
    · rw [q]
      exact q1.obj
    · rw [q]
      exact q2.obj
  keep := fun i h h' st k => by
    obtain ⟨⟨old, he⟩, ⟨z0, z1, z2, hz⟩, hTI, ⟨x, y, hTO⟩, q1, q2⟩ := st
    exact ⟨⟨old, k e (by simp) _ he⟩, ⟨z0, z1, z2, k z (by simp) _ hz⟩, k TI (by simp) _ hTI, ⟨x, y, k TO (by simp) _ hTO⟩, q1.at fun o q => k i1 (by simp) o q, q2.at fun o q => k i2 (by simp) o q⟩
  item := by
    intro X hP hw hK hc i pins s σ H E I hf st hg
    subst hP hw hK
    obtain ⟨⟨old, he⟩, hz, hTI, hTO, q1, q2⟩ := st
    obtain ⟨xs, ys, x, y, hqx, hqy, hx, hy⟩ := hg
    obtain ⟨its, rv, p, _⟩ := Inv.seqK I hqx
    obtain ⟨its2, rv2, p2, _⟩ := Inv.seqK I hqy
    obtain ⟨v1, hv1, ru⟩ := rv.get hx
    obtain ⟨v2, hv2, ru2⟩ := rv2.get hy
    have l1 := (List.getElem?_eq_some_iff.mp hv1).1
    have l2 := (List.getElem?_eq_some_iff.mp hv2).1
    have hh : X.A.in1.in1.handled = none := by show X.A.in1.in1.handled = none; exact I.ok.hd hc
    obtain ⟨o1, ho1, _⟩ := q1.obj
    obtain ⟨o2, ho2, _⟩ := q2.obj
    have lz : z < s.heap.objs.size := by obtain ⟨_, _, _, o⟩ := id hz; exact Heap.lt_size o
    have lO : TO < s.heap.objs.size := by obtain ⟨_, _, o⟩ := id hTO; exact Heap.lt_size o
    have le : e < s.heap.objs.size := Heap.lt_size he
    have low : ∀ c ∈ [e, z, TI, TO, i1, i2], c < s.heap.objs.size := fun c hcm => by
      have e' : c = e ∨ c = z ∨ c = TI ∨ c = TO ∨ c = i1 ∨ c = i2 := by simpa using hcm
      rcases e' with q | q | q | q | q | q
      · rw [q]; exact le
      · rw [q]; exact lz
      · rw [q]; exact Heap.lt_size hTI
      · rw [q]; exact lO
      · rw [q]; exact Heap.lt_size ho1
      · rw [q]; exact Heap.lt_size ho2
    refine ez_next (i := i) S (draws_K (prog := X.prog) (w := X.w) hh t i1 a h1 its.toArray) (draws_K hh u i2 b h2 its2.toArray) he ne (by
        have := ne
        simp only [List.mem_cons, List.not_mem_nil, or_false, not_or] at this ⊢
        exact ⟨this.2.2.1, na⟩) (by
        have := ne
        simp only [List.mem_cons, List.not_mem_nil, or_false, not_or] at this ⊢
        exact ⟨this.2.2.2, nb⟩) hz hTI hTO ⟨q1, p⟩ ⟨q2, p2⟩ (by simpa using l1) (by simpa using l2) fun w1 w2 T m1 T' m2 tk tt a1 a2 a3 a4 a5 a6 a7 a8 a9 b1 b2 b3 b4 => ⟨_, rfl, ?_⟩
    have e1 : w1 = v1 := by
      have : its.toArray[i]? = some v1 := by simpa using hv1
      rw [this] at a1
      exact (Option.some.inj a1).symm
    have e2 : w2 = v2 := by
      have : its2.toArray[i]? = some v2 := by simpa using hv2
      rw [this] at a2
      exact (Option.some.inj a2).symm
    subst e1 e2
    refine wpAny_letOwnedTupleGo_enum a9 fun m3 e3 s3 => ?_
    replace s3 : Heap.SameBut e m2 m3 := s3
    have neT : e ≠ T := Nat.ne_of_lt (Nat.lt_of_lt_of_le le a3)
    have fe := hf e (by simp)
    have new : ObjOk X.prog X.w (upd H T (.tup [x, y])) m1 T (.tup [x, y]) := ⟨by show 2 ≤ sizeLine; decide, [w1, w2], .cons ru (.cons ru2 .nil), ⟨_, a4, rfl, _, rfl⟩⟩
    have I1 := I.turnedNew (t' := tk) (ch := [z, TO, i1, i2]) a5 (fun c hcm => hf c (by
      have e' : c = z ∨ c = TO ∨ c = i1 ∨ c = i2 := by simpa using hcm
      rcases e' with r | r | r | r <;> simp [r])) a3 new
    have f1 : FpOk X pins (upd H T (.tup [x, y])) e := ⟨by rw [upd_ne neT]; exact fe.1, fe.2⟩
    have new2 : ObjOk X.prog X.w (upd (upd H T (.tup [x, y])) T' (.tup [.int (i : Nat), .ref T])) m2 T' (.tup [.int (i : Nat), .ref T]) :=
      ⟨by show 2 ≤ sizeLine; decide, [.int ((0 : Int) + (i : Int)) tt, .ref T], .cons ⟨tt, by rw [Int.zero_add]⟩ (.cons rfl .nil), ⟨_, a7, rfl, _, rfl⟩⟩
    have I2 := I1.turnedNew (t' := tk) (ch := [e]) a8 (fun c hcm => by rw [show c = e by simpa using hcm]; exact f1) a6 new2
    have hn2 : upd H T (.tup [x, y]) T' = none := I1.hok.fresh a6
    have le1 : e < m1.objs.size := Heap.lt_size (a5 e _ ne he)
    have f2 : FpOk X pins (upd (upd H T (.tup [x, y])) T' (.tup [.int (i : Nat), .ref T])) e := ⟨by rw [upd_ne (Nat.ne_of_lt (Nat.lt_of_lt_of_le le1 a6))]; exact f1.1, fe.2⟩
    have I3 := I2.turnedL (t' := tk) (ch := [e]) (h' := m3) (fun c o hcm q => s3.extBut c o (by simpa using hcm) q) (fun c hcm => by rw [show c = e by simpa using hcm]; exact f2)
    have nn : ∀ c ∈ [z, TI, TO, i1, i2], c ≠ e := fun c hcm q => by
      have e' : c = z ∨ c = TI ∨ c = TO ∨ c = i1 ∨ c = i2 := by simpa using hcm
      rcases e' with r | r | r | r | r
      · exact ne (by simp [← q, r])
      · exact nI (by rw [← q, r])
      · exact ne (by simp [← q, r])
      · exact ne (by simp [← q, r])
      · exact ne (by simp [← q, r])
    have up : ∀ c o, c ∈ [z, TI, TO, i1, i2] → m2.get? c = some o → m3.get? c = some o := fun c o hcm q => s3.extBut c o (nn c hcm) q
    have hTI' : IsTupOf2 m2 TI (.ref i1) (.ref i2) := a8 TI _ (by simpa using nI.symm) (a5 TI _ (by
      simp only [List.mem_cons, List.not_mem_nil, or_false, not_or]
      exact ⟨S.TIz, S.TITO, S.TIi1, S.TIi2⟩) hTI)
    refine ⟨.ref T', _, I3, rfl, ⟨T, T', x, y, rfl, I.hok.fresh a3, hn2, rfl, fun l hl => by rw [Inv.seqK_inj I hl hqx]; exact hx, fun l hl => by rw [Inv.seqK_inj I hl hqy]; exact hy⟩, ⟨⟨.ref T, ?_⟩, ?_, up _ _ (by simp) hTI', ?_, b3.1.at fun o q => up _ o (by simp) q, b4.1.at fun o q => up _ o (by simp) q⟩, fun c hcm => ?_⟩
    · rw [show (0 : Int) + ((i + 1 : Nat) : Int) = 0 + (i : Int) + 1 by omega]
      exact e3
    · obtain ⟨x1, x2, x3, x4⟩ := b1
      exact ⟨x1, x2, x3, up _ _ (by simp) x4⟩
    · obtain ⟨x1, x2, x3⟩ := b2
      exact ⟨x1, x2, up _ _ (by simp) x3⟩
    · have lc := low c hcm
      have nT' : c ≠ T' := Nat.ne_of_lt (Nat.lt_of_lt_of_le lc (Nat.le_trans a3 (Nat.le_of_lt (Nat.lt_of_lt_of_le (Heap.lt_size a4) a6))))
      rw [upd_ne nT', upd_ne (Nat.ne_of_lt (Nat.lt_of_lt_of_le lc a3))]
      exact (hf c hcm).1
  done := by
    intro X hP hw hK hc i pins s σ H E I hf st hg
    subst hP hw hK
    obtain ⟨⟨old, he⟩, hz, hTI, hTO, q1, q2⟩ := st
    obtain ⟨xs, ys, hqx, hqy, hend⟩ := hg
    obtain ⟨its, rv, p, _⟩ := Inv.seqK I hqx
    obtain ⟨its2, rv2, p2, _⟩ := Inv.seqK I hqy
    have hn : min its.toArray.size its2.toArray.size = i := by
      rw [← hend, rv.length, rv2.length]
      simp
    have hh : X.A.in1.in1.handled = none := by show X.A.in1.in1.handled = none; exact I.ok.hd hc
    exact ez_nextE (i := i) S (draws_K (prog := X.prog) (w := X.w) hh t i1 a h1 its.toArray) (draws_K hh u i2 b h2 its2.toArray) he hz hTI hTO ⟨q1, p⟩ ⟨q2, p2⟩ hn fun h' tk k => ⟨rfl, I.turnedL (t' := tk) (ch := [z, TO, i1, i2]) k fun c hcm => hf c (by
      have e' : c = z ∨ c = TO ∨ c = i1 ∨ c = i2 := by simpa using hcm
      rcases e' with r | r | r | r <;> simp [r])⟩
  self := fun A i s Q E st h => by
    obtain ⟨⟨old, he⟩, _⟩ := st
    exact wpAny_pyIter_enum he h
def iEZ (K : PySem.W.Frag) (t u : Bool) (ta : TA) : TI := fun σ H R => ta σ H fun vs H1 => ∃ a b xs ys, vs = [.ref a, .ref b] ∧ SqK K t H1 a xs ∧ SqK K u H1 b ys ∧ R (ItEZ K t u a b) H1
/-- enumerate of something that is its own iterator -/
def OwnIt (v : Value) (H : Heap → Prop) : Prop := ∀ (prog : Program) (w : World) (A : Around) (E : Value → Shared → Prop) (s : Shared) (Q : Value → Shared → Prop), H s.heap → Q v s → wpAny (model prog w) A (pyIter v) Q E s
set_option maxHeartbeats 1000000 in
theorem enum_new2 {v : Value} {H : Heap → Prop} (B : OwnIt v H) :
    Meets (Builtin.«enumerate.__new__» ⟨[.type "enumerate", v], []⟩) (fun _ R s => H s.heap ∧
      R (.ok (.ret (.ref s.heap.objs.size))) { s with heap := s.heap.push { cls := .type "enumerate", data := .fields #[.none, .bool false, v, rawInt 0, .none, .none] } }) :=
  .of_wp fun prog w A R s h => by
    obtain ⟨hp, g, d, tk, os⟩ := s
    obtain ⟨h1, h⟩ := h
    have hsub := sub_enumerate
    have q1 : ∀ {A' : Around} {E : Value → Shared → Prop} {Q : Value → Shared → Prop}, Q v ⟨hp, g, d, tk, os⟩ → wpAny (model prog w) A' (pyIter v) Q E ⟨hp, g, d, tk, os⟩ :=
      fun q => B prog w _ _ ⟨hp, g, d, tk, os⟩ _ h1 q
    wp_walk using q1
    refine wpAny_stack_any fun st => wpAny_pure ?_
    split
    · rename_i c _ _ _ _ _
      cases (c == Value.type "enumerate")
      · wp_walk using q1
        exact ⟨_, rfl, h⟩
      · wp_walk using q1
        exact ⟨_, rfl, h⟩
    · wp_walk using q1
      exact ⟨_, rfl, h⟩
theorem enum_begins2 {prog : Program} {w : World} {A : Around} {E : Value → Shared → Prop} {s : Shared} {z : Addr} {H : Heap → Prop} {Q : Value → Shared → Prop} (B : OwnIt (.ref z) H) (h1 : H s.heap)
    (h : ∀ h', IsEnum h' s.heap.objs.size z 0 .none → h'.objs.size = s.heap.objs.size + 1 → (∀ b o, s.heap.get? b = some o → h'.get? b = some o) → Q (.ref s.heap.objs.size) { s with heap := h' }) :
    wpAny (model prog w) A (call (.type "enumerate") [.ref z]) Q E s := by
  refine callType_new F.called_enumerate (by decide) (F.typeCall_enumerate_1 _) (F.newCall_enumerate_1 _) (fun obj => F.args_object_init_2 obj _) F.entry_enumerate_new (enum_new2 B) ⟨h1, ?_⟩
  have he : IsEnum (s.heap.push { cls := .type "enumerate", data := .fields #[.none, .bool false, .ref z, rawInt 0, .none, .none] }) s.heap.objs.size z 0 .none :=
    Heap.get?_push_size s.heap (o := { cls := .type "enumerate", data := .fields #[.none, .bool false, .ref z, rawInt 0, .none, .none] }) rfl
  exact ⟨⟨_, he, rfl⟩, h _ he (by rw [Heap.size_push]) fun b o x => Heap.get?_push_of_some _ x⟩
theorem nat5 (n : Nat) : n + 5 ∉ [n + 4, n + 3, n, n + 1] := by simp
theorem nat52 (n : Nat) : n + 5 ≠ n + 2 := by simp
theorem nat6 {n c : Nat} (h : c = n + 5 ∨ c = n + 4 ∨ c = n + 2 ∨ c = n + 3 ∨ c = n ∨ c = n + 1) : n ≤ c := by omega
theorem pi_EZ {X : Cx} {t u : Bool} {e e2 : Expr} {ta : TA} {p p' pos pos' tpos : Pos} {elts : List Expr} {kk : Nat} (hgE : Gl X "enumerate") (hmE : X.mg "enumerate" = none) (hg : Gl X "zip") (hm : X.mg "zip" = none) (ha : PA X [e, e2] ta)
    (hs : starEach [e, e2] X.env = (false, eval e X.env) :: starEach [e2] X.env) (hpl : ∀ pos, (backTo pos (starEach [e2] X.env)).any (·.1) = false) :
    PI X (.Tuple elts kk tpos) (.Call (.Name "enumerate" p') [.Call (.Name "zip" p) [e, e2] [] pos] [] pos') (iEZ X.K t u ta) := by
  refine ⟨fun pins s σ H R I h => ?_⟩
  refine Call_ (ld_blt I hgE hmE boot_enumerate (PyProof.Rows.callWith_type1 ?_ rfl rfl))
  show wpAny _ _ (spliced ((false, eval (.Call (.Name "zip" p) [e, e2] [] pos) X.env) :: backTo pos' (starEach [] X.env))) _ _ s
  refine Calls.spliced_cons ?_
  refine Call_ (ld_blt I hg hm PyProof.Rows.boot_zip (PyProof.Rows.callWith_type1 (thn (ha.run pos pins s σ H _ I h) fun us s1 ⟨vs, H1, I1, r1, q1⟩ => ?_) hs (hpl pos)))
  obtain ⟨a, b, xs, ys, ex, hqx, hqy, q⟩ := q1
  subst ex
  cases r1 with
  | cons r rr =>
    cases rr with
    | cons r' rr =>
      cases rr
      cases r
      cases r'
      obtain ⟨its, rv, p1, la⟩ := Inv.seqK I1 hqx
      obtain ⟨its2, rv2, p2, lb⟩ := Inv.seqK I1 hqy
      refine zip_begins2 (begins_K t a its.toArray) (begins_K u b its2.toArray) p1 p2 fun h' hz hTI hTO h1 h2 hsz hk => Calls.spliced_nil ?_
      refine enum_begins2 (H := fun h => IsZip h (s1.heap.objs.size + 4) (s1.heap.objs.size + 2) (s1.heap.objs.size + 3) .none) (fun prog w A E s Q hz q => wpAny_pyIter_zip hz q) hz fun h2' he hsz2 hk2 => wpAny_pyIter_enum he ?_
      replace hsz2 : h2'.objs.size = h'.objs.size + 1 := hsz2
      replace he : IsEnum h2' h'.objs.size (s1.heap.objs.size + 4) 0 .none := he
      rw [hsz] at he hsz2
      have I2 : Inv X pins σ H1 { s1 with heap := h2' } := I1.kept (t' := s1.toks) fun b o q => hk2 b o (hk b o q)
      have S : ZipSep2 (s1.heap.objs.size + 4) (s1.heap.objs.size + 2) (s1.heap.objs.size + 3) s1.heap.objs.size (s1.heap.objs.size + 1) [s1.heap.objs.size, a] [s1.heap.objs.size + 1, b] :=
        zip_sep2 (fun c hc => (show c = a by simpa using hc) ▸ la) (fun c hc => (show c = b by simpa using hc) ▸ lb)
      refine ⟨s1.heap.objs.size + 5, [s1.heap.objs.size + 5, s1.heap.objs.size + 4, s1.heap.objs.size + 2, s1.heap.objs.size + 3, s1.heap.objs.size, s1.heap.objs.size + 1], _, _, H1, by rw [← hsz], I2,
        turn_EZ (Nat.ne_of_lt la) (Nat.ne_of_lt (Nat.lt_succ_of_lt lb)) S (nat5 _) (nat52 _) (Nat.ne_of_gt (Nat.lt_add_right 5 la)) (Nat.ne_of_gt (Nat.lt_add_right 5 lb)), ⟨⟨.none, he⟩, ⟨_, false, .inl rfl, hk2 _ _ hz⟩, hk2 _ _ hTI, ⟨_, _, hk2 _ _ hTO⟩, .new (hk2 _ _ h1), .new (hk2 _ _ h2)⟩, fun c hcm => ?_, q⟩
      have e' : c = s1.heap.objs.size + 5 ∨ c = s1.heap.objs.size + 4 ∨ c = s1.heap.objs.size + 2 ∨ c = s1.heap.objs.size + 3 ∨ c = s1.heap.objs.size ∨ c = s1.heap.objs.size + 1 := by simpa using hcm
      have hle : s1.heap.objs.size ≤ c := nat6 e'
      exact I1.fpOk hle (I1.hok.fresh hle)
theorem src_ezip {K : PySem.W.Frag} {t u : Bool} {m : Ms} {H : Hp} {s s' : Src} {a b : Addr} (x : Stand K t m H s a) (x' : Stand K u m H s' b) (hl : s.ds.length ≤ sizeLine) : SrcOk K m H ⟨enumD 0 (zipD s.ds s'.ds), s.gs ++ s'.gs⟩ (ItEZ K t u a b) := by
  have sp : ∀ {st}, guards (s.gs ++ s'.gs) st = true → guards s.gs st = true ∧ guards s'.gs st = true := fun {st} g => by
    unfold guards at g ⊢
    rw [List.all_append, Bool.and_eq_true] at g
    exact g
  have Z := src_zip x x' hl
  refine ⟨by rw [enumD_len]; exact Z.len, fun m' H' st i L rs g hi => Z.go m' H' st i L rs g (by rw [enumD_len] at hi; exact hi), fun m' H' st L rs g => by
    have := Z.stop m' H' st L rs g
    rw [enumD_len]
    exact this, fun m' H' st i v H2 L rs g hi y => ?_⟩
  obtain ⟨vs, q, r⟩ := x.at_ m' H' st L rs (sp g).1
  obtain ⟨ws, q', r'⟩ := x'.at_ m' H' st L rs (sp g).2
  rw [enumD_len, zipD_len] at hi
  have e1 : s.ds[i]? = some s.ds[i] := List.getElem?_eq_getElem (by omega)
  have e2 : s'.ds[i]? = some s'.ds[i] := List.getElem?_eq_getElem (by omega)
  obtain ⟨w, e, h⟩ := r.get e1
  obtain ⟨w', e', h'⟩ := r'.get e2
  obtain ⟨T, T', a1, a2, rfl, hT, hT', rfl, y1, y2⟩ := y
  have z1 := y1 vs q
  have z2 := y2 ws q'
  rw [e] at z1
  rw [e'] at z2
  cases z1
  cases z2
  have rs1 := rs.alloc (o := .tup [w, w']) hT
  refine ⟨_, enumD_get 0 _ i _ (zipD_get _ _ i _ _ e1 e2), (Lat.alloc hT).trans (.alloc hT'), rs1.alloc hT', ?_⟩
  exact RD.newT rs1 (.cons (by simp [RD]) (.cons (RD.newT rs (.cons h (.cons h' .nil)) hT) .nil)) hT'
section
variable {X : Cx} {xv : Nat → Value} {W : WX} {a b : Expr} {pos p pos' p' tpos : Pos} {f g : Env → Store → R D} {elts : List Expr} {kk : Nat}
theorem i_ezip (hgE : Gl X "enumerate") (hmE : X.mg "enumerate" = none) (hg : Gl X "zip") (hm : X.mg "zip" = none) (ha : PE X a (tEv X.K xv W f)) (hb : PE X b (tEv X.K xv W g)) (hsa : notStar a = true) (hsb : notStar b = true) :
    PI X (.Tuple elts kk tpos) (.Call (.Name "enumerate" p') [.Call (.Name "zip" p) [a, b] [] pos] [] pos') (tIv X.K xv W fun env st => (f env st).bind fun x st => (g env st).bind fun y st => .ofO (srcOf st x) fun s => .ofO (srcOf st y) fun t => .ok ⟨enumD 0 (zipD s.ds t.ds), s.gs ++ t.gs⟩ st) := by
  have hA : PA X [a, b] _ := pa_cons ha (pa_cons hb pa_nil (star_cons hsb)) (star_cons hsa)
  have one : ∀ (t u : Bool), PI X (.Tuple elts kk tpos) (.Call (.Name "enumerate" p') [.Call (.Name "zip" p) [a, b] [] pos] [] pos') (iEZ X.K t u _) := fun t u => pi_EZ (t := t) (u := u) hgE hmE hg hm hA (star_cons hsa) (fun pos => star_any (by simp [hsb]))
  refine PI.use (PI.or (PI.or (one true true) (one true false)) (PI.or (one false true) (one false false))) fun σ H R ⟨m, env, st, re, rs, p⟩ => ?_
  have run : ∀ (t u : Bool), (∀ x st1 y st2, f env st = .ok x st1 → g env st1 = .ok y st2 → isTup x = t ∧ isTup y = u) → iEZ X.K t u (tCons (tEv X.K xv W f) (tCons (tEv X.K xv W g) tNil)) σ H (fun J H1 => Good X.K H1 → R J H1) := fun t u ht => by
    refine ⟨m, env, st, re, rs, (p.bindE (rel := RD X.K)).mono fun v H1 ⟨x, m1, st1, er, L1, x1, rs1, g1, p1⟩ => ?_⟩
    refine ⟨m1, env, st1, re.lat L1 rs, rs1, (p1.bindE (rel := RD X.K)).mono fun w H2 ⟨y, m2, st2, er2, L2, y2, rs2, g2, p2⟩ => ?_⟩
    obtain ⟨s, es, p2⟩ := p2.ofO
    obtain ⟨s', es', p2⟩ := p2.ofO
    obtain ⟨k1, k2⟩ := ht x st1 y st2 er er2
    obtain ⟨A, rfl, S, gg⟩ := stand_of rs2 (x1.lat L2 rs1 _ _) es
    obtain ⟨B, rfl, S', gg'⟩ := stand_of rs2 y2 es'
    rw [k1] at S
    rw [k2] at S'
    obtain ⟨vs, q, _⟩ := S.at_ m2 H2 _ .refl rs2 gg
    obtain ⟨ws, q', _⟩ := S'.at_ m2 H2 _ .refl rs2 gg'
    exact ⟨A, B, vs, ws, rfl, q, q', fun g => p2.here (src_ezip S S' (S.len rs2 gg g)) rs2 g⟩
  cases e1 : f env st with
  | ok x st1 =>
    cases e2 : g env st1 with
    | ok y st2 =>
      have same : ∀ x' st1' y' st2', f env st = .ok x' st1' → g env st1' = .ok y' st2' → x' = x ∧ y' = y := fun x' st1' y' st2' h1 h2 => by
        rw [e1] at h1
        cases h1
        rw [e2] at h2
        cases h2
        exact ⟨rfl, rfl⟩
      cases k1 : isTup x <;> cases k2 : isTup y
      · exact .inr (.inr (run _ _ fun x' st1' y' st2' h1 h2 => by obtain ⟨rfl, rfl⟩ := same _ _ _ _ h1 h2; exact ⟨k1, k2⟩))
      · exact .inr (.inl (run _ _ fun x' st1' y' st2' h1 h2 => by obtain ⟨rfl, rfl⟩ := same _ _ _ _ h1 h2; exact ⟨k1, k2⟩))
      · exact .inl (.inr (run _ _ fun x' st1' y' st2' h1 h2 => by obtain ⟨rfl, rfl⟩ := same _ _ _ _ h1 h2; exact ⟨k1, k2⟩))
      · exact .inl (.inl (run _ _ fun x' st1' y' st2' h1 h2 => by obtain ⟨rfl, rfl⟩ := same _ _ _ _ h1 h2; exact ⟨k1, k2⟩))
    | _ => exact .inl (.inl (run _ _ fun x' st1' y' st2' h1 h2 => by rw [e1] at h1; cases h1; rw [e2] at h2; cases h2))
  | _ => exact .inl (.inl (run _ _ fun x' st1' y' st2' h1 h2 => by rw [e1] at h1; cases h1))
end
end Ev

set_option Elab.async false
set_option linter.all false
set_option maxRecDepth 100000
set_option autoImplicit false
/-! Ev, part K: targets, comprehensions. -/
namespace Ev
open PySem PySem.Spec PyProof.Rows L2

/-- the same but for the slots ns -/
def Diff (ns : List Nat) (σ σ' : L2.St) : Prop := σ'.length = σ.length ∧ ∀ i, i ∉ ns → σ'[i]? = σ[i]?
theorem Diff.refl {ns : List Nat} {σ : L2.St} : Diff ns σ σ := ⟨rfl, fun _ _ => rfl⟩
theorem Diff.set {i : Nat} {σ : L2.St} {v : Option V} : Diff [i] σ (σ.set i v) := ⟨List.length_set, fun j h => List.getElem?_set_ne fun e => h (by simp [e])⟩
theorem Diff.trans {a b : List Nat} {σ σ' σ2 : L2.St} (h : Diff a σ σ') (h' : Diff b σ' σ2) : Diff (a ++ b) σ σ2 :=
  ⟨h'.1.trans h.1, fun i n => (h'.2 i fun q => n (List.mem_append_right _ q)).trans (h.2 i fun q => n (List.mem_append_left _ q))⟩
theorem wipe_get : ∀ (vs : List Nat) (σ : L2.St) (i : Nat), (wipe σ vs)[i]? = if i ∈ vs then (if i < σ.length then some none else none) else σ[i]?
  | [], σ, i => by simp [wipe]
  | v :: vs, σ, i => by
    unfold wipe
    by_cases e : v = i
    · subst e
      simp only [List.mem_cons, true_or, if_true]
      by_cases h : v < σ.length
      · rw [List.getElem?_set_self (by rw [wipe_length]; exact h), if_pos h]
      · rw [if_neg h]
        exact List.getElem?_eq_none (by rw [List.length_set, wipe_length]; omega)
    · rw [List.getElem?_set_ne e, wipe_get vs σ i]
      simp only [List.mem_cons, Ne.symm e, false_or]
theorem Diff.wipe {ns vs : List Nat} {σ σ' : L2.St} (h : Diff ns σ σ') (hs : ∀ i ∈ ns, i ∈ vs) : wipe σ' vs = wipe σ vs := by
  refine List.ext_getElem? fun i => ?_
  rw [wipe_get, wipe_get, h.1]
  by_cases e : i ∈ vs
  · rw [if_pos e, if_pos e]
  · rw [if_neg e, if_neg e]
    exact h.2 i fun q => e (hs i q)
theorem wipe_idem {σ : L2.St} {vs : List Nat} : wipe (wipe σ vs) vs = wipe σ vs := by
  refine List.ext_getElem? fun i => ?_
  rw [wipe_get, wipe_get, wipe_length]
  by_cases e : i ∈ vs
  · simp only [if_pos e]
  · simp only [if_neg e]
theorem wipeE_length : ∀ (vs : List Nat) (env : Env), (wipeE env vs).length = env.length
  | [], _ => rfl
  | v :: vs, env => by unfold wipeE; rw [List.length_set, wipeE_length vs env]
theorem wipeE_get : ∀ (vs : List Nat) (env : Env) (i : Nat), (wipeE env vs)[i]? = if i ∈ vs then (if i < env.length then some none else none) else env[i]?
  | [], σ, i => by simp [wipeE]
  | v :: vs, σ, i => by
    unfold wipeE
    by_cases e : v = i
    · subst e
      simp only [List.mem_cons, true_or, if_true]
      by_cases h : v < σ.length
      · rw [List.getElem?_set_self (by rw [wipeE_length]; exact h), if_pos h]
      · rw [if_neg h]
        exact List.getElem?_eq_none (by rw [List.length_set, wipeE_length]; omega)
    · rw [List.getElem?_set_ne e, wipeE_get vs σ i]
      simp only [List.mem_cons, Ne.symm e, false_or]
theorem RE.wipe {K : PySem.W.Frag} {m : Ms} {H : Hp} {env : Env} {σ : L2.St} (r : RE K m H env σ) (vs : List Nat) : RE K m H (wipeE env vs) (wipe σ vs) := by
  refine ⟨by rw [wipeE_length, wipe_length, r.len], fun i d h => ?_⟩
  rw [wipeE_get] at h
  by_cases e : i ∈ vs
  · rw [if_pos e] at h
    split at h <;> simp at h
  · rw [if_neg e] at h
    rw [wipe_get, if_neg e]
    exact r.at_ i d h
theorem RE.set {K : PySem.W.Frag} {m : Ms} {H : Hp} {env : Env} {σ : L2.St} (r : RE K m H env σ) (i : Nat) {d : D} {v : V} (x : RD K m H d v) : RE K m H (env.set i (some d)) (σ.set i (some v)) := by
  refine ⟨by rw [List.length_set, List.length_set, r.len], fun j e h => ?_⟩
  by_cases hj : i = j
  · subst hj
    by_cases hl : i < env.length
    · rw [List.getElem?_set_self hl] at h
      cases h
      exact ⟨v, List.getElem?_set_self (by rw [← r.len]; exact hl), x⟩
    · rw [List.getElem?_eq_none (by rw [List.length_set]; omega)] at h
      cases h
  · rw [List.getElem?_set_ne hj] at h
    obtain ⟨w, a, b⟩ := r.at_ j e h
    exact ⟨w, by rw [List.getElem?_set_ne hj]; exact a, b⟩
/-- the slots are forgotten where they lead nowhere: fewer names known is fine -/
theorem RE.less {K : PySem.W.Frag} {m : Ms} {H : Hp} {env env' : Env} {σ : L2.St} (r : RE K m H env σ) (hl : env'.length = env.length) (h : ∀ (i : Nat) (d : D), env'[i]? = some (some d) → env[i]? = some (some d)) : RE K m H env' σ :=
  ⟨hl.trans r.len, fun i d e => r.at_ i d (h i d e)⟩

/-- what is wanted of a target that is names alone -/
def PostG (K : PySem.W.Frag) (ns : List Nat) (σ : L2.St) (m : Ms) (H : Hp) (r : R Env) (Q : L2.St → Hp → Prop) : Prop := match r with
  | .ok env' st' => ∀ m' H' σ', Lat m H m' H' → RE K m' H' env' σ' → RS K m' H' st' → Diff ns σ σ' → Q σ' H'
  | _ => False
def tGv (K : PySem.W.Frag) (ns : List Nat) (g : D → Env → Store → R Env) : TG := fun v σ H Q => ∃ m env st d, RE K m H env σ ∧ RS K m H st ∧ RD K m H d v ∧ PostG K ns σ m H (g d env st) Q
def tGvs (K : PySem.W.Frag) (ns : List Nat) (g : List D → Env → Store → R Env) : TGs := fun v σ H Q => ∃ m env st d, RE K m H env σ ∧ RS K m H st ∧ RDs K m H d v ∧ PostG K ns σ m H (g d env st) Q
section
variable {X : Cx} {xv : Nat → Value} {W : WX} {a b c e tg : Expr} {pos p tpos : Pos} {f g h : Env → Store → R D} {fs : Env → Store → R (List D)} {elts : List Expr} {kk : Nat}
theorem PostG.bind {K : PySem.W.Frag} {ns ms : List Nat} {σ : L2.St} {m : Ms} {H : Hp} {r : R Env} {k : Env → Store → R Env} {Q : L2.St → Hp → Prop} (h : PostG K (ns ++ ms) σ m H (r.bind k) Q) :
    PostG K ns σ m H r (fun σ1 H1 => ∃ env1 m1 st1, Lat m H m1 H1 ∧ RE K m1 H1 env1 σ1 ∧ RS K m1 H1 st1 ∧ PostG K ms σ1 m1 H1 (k env1 st1) Q) := by
  cases r with
  | ok env st =>
    intro m' H' σ' L re rs df
    refine ⟨env, m', st, L, re, rs, ?_⟩
    have h : PostG K (ns ++ ms) σ m H (k env st) Q := h
    revert h
    generalize k env st = z
    intro h
    cases z with
    | ok c st2 => exact fun m2 H2 σ2 L2 re2 rs2 df2 => h m2 H2 σ2 (L.trans L2) re2 rs2 (df.trans df2)
    | exc c st2 => exact h
    | stuck => exact h
  | exc c st => exact h
  | stuck => exact h
theorem g_name {i : Nat} {x : Str} (hN : X.N.Nodup) (hi : X.N[i]? = some x) (hx : Loc X.env.scope x) (hf : X.fn x = true ∨ X.env.scope.names.lookup x = some .local) : PG X (.Name x pos) (tGv X.K [i] fun d env st => .ok (env.set i (some d)) st) :=
  ⟨fun pins s σ H v u Q I r ⟨m, env, st, d, re, rs, x, q⟩ => (pg_name hN hi hx hf).run pins s σ H v u Q I r (q m H _ .refl (re.set i x) rs .set)⟩
theorem gs_nil : PGs X [] (tGvs X.K [] fun ds env st => match ds with | [] => .ok env st | _ => .stuck) :=
  ⟨fun pins s σ H vs us Q I r ⟨m, env, st, ds, re, rs, x, q⟩ => pgs_nil.run pins s σ H vs us Q I r (by
    cases ds with
    | nil =>
      simp only [RDs] at x
      exact ⟨x, q m H σ .refl re rs .refl⟩
    | cons d ds => exact False.elim q)⟩
theorem gs_cons {es : List Expr} {ns ms : List Nat} {k : D → Env → Store → R Env} {l : List D → Env → Store → R Env} (h1 : PG X e (tGv X.K ns k)) (h2 : PGs X es (tGvs X.K ms l))
    (hs : (assignEach (e :: es) X.env).map (·.2) = assign e X.env :: (assignEach es X.env).map (·.2)) :
    PGs X (e :: es) (tGvs X.K (ns ++ ms) fun ds env st => match ds with | d :: ds => (k d env st).bind fun env st => l ds env st | _ => .stuck) :=
  ⟨fun pins s σ H vs us Q I r ⟨m, env, st, ds, re, rs, x, q⟩ => (pgs_cons h1 h2 hs).run pins s σ H vs us Q I r (by
    cases ds with
    | nil => exact False.elim q
    | cons d ds =>
      simp only [RDs] at x
      obtain ⟨v, rr, rfl, y, x⟩ := x
      refine ⟨v, rr, rfl, m, env, st, d, re, rs, y, ?_⟩
      have q := PostG.bind q
      revert q
      generalize k d env st = z
      intro q
      cases z with
      | ok env1 st1 =>
        intro m1 H1 σ1 L1 re1 rs1 df1
        obtain ⟨env2, m2, st2, L2, re2, rs2, q⟩ := q m1 H1 σ1 L1 re1 rs1 df1
        exact ⟨m2, env2, st2, ds, re2, rs2, RDs.lat L2 rs _ _ x, q⟩
      | exc c st2 => exact q
      | stuck => exact q)⟩
theorem PG.or {tg : Expr} {t t' : TG} (h : PG X tg t) (h' : PG X tg t') : PG X tg (fun v σ H Q => t v σ H Q ∨ t' v σ H Q) :=
  ⟨fun pins s σ H v u Q I r hw => hw.elim (h.run pins s σ H v u Q I r) (h'.run pins s σ H v u Q I r)⟩
theorem g_tup {es : List Expr} {k n : Nat} {ns : List Nat} {l : List D → Env → Store → R Env} (hc : X.calm = true) (h : PGs X es (tGvs X.K ns l)) (hn : (assignEach es X.env).length = n) (hst : (assignEach es X.env).findIdx? (·.1) = none) :
    PG X (.Tuple es k pos) (tGv X.K ns fun d env st => .ofO (seqOf st d) fun ds => if ds.length = n then l ds env st else .stuck) :=
  ⟨fun pins s σ H v u Q I r ⟨m, env, st, d, re, rs, x, q⟩ => (PG.or (pg_tup hc h hn hst) (pg_unl hc h hn hst)).run pins s σ H v u Q I r (by
    cases d with
    | tup ds =>
      simp only [RD] at x
      obtain ⟨a, vs, rfl, hq, y⟩ := x
      have q : PostG X.K ns σ m H (if ds.length = n then l ds env st else .stuck) Q := q
      by_cases hl : ds.length = n
      · rw [if_pos hl] at q
        exact .inl ⟨a, vs, rfl, hq, y.length ▸ hl, m, env, st, ds, re, rs, y, q⟩
      · rw [if_neg hl] at q
        exact False.elim q
    | lst ds =>
      simp only [RD] at x
      obtain ⟨a, vs, rfl, hq, _, y⟩ := x
      have q : PostG X.K ns σ m H (if ds.length = n then l ds env st else .stuck) Q := q
      by_cases hl : ds.length = n
      · rw [if_pos hl] at q
        exact .inr ⟨a, vs, rfl, .inl (.inl hq), y.length ▸ hl, m, env, st, ds, re, rs, y, q⟩
      · rw [if_neg hl] at q
        exact False.elim q
    | ref i =>
      simp only [RD] at x
      obtain ⟨a, ha, rfl⟩ := x
      cases hs : st[i]? with
      | none =>
        simp only [seqOf, hs] at q
        exact False.elim q
      | some o =>
        cases o with
        | lst ds =>
          obtain ⟨vs, hq, y⟩ := rs.at_ i _ a hs ha
          simp only [seqOf, hs] at q
          have q : PostG X.K ns σ m H (if ds.length = n then l ds env st else .stuck) Q := q
          by_cases hl : ds.length = n
          · rw [if_pos hl] at q
            exact .inr ⟨a, vs, rfl, .inl (.inl hq), y.length ▸ hl, m, env, st, ds, re, rs, y, q⟩
          · rw [if_neg hl] at q
            exact False.elim q
        | dk _ =>
          simp only [seqOf, hs] at q
          exact False.elim q
        | dt _ =>
          simp only [seqOf, hs] at q
          exact False.elim q
    | _ => exact False.elim q)⟩
end
end Ev

set_option Elab.async false
set_option linter.all false
set_option maxRecDepth 100000
set_option autoImplicit false
/-! Ev, part L: comprehensions. -/
namespace Ev
open PySem PySem.Spec PyProof.Rows L2
section
variable {K : PySem.W.Frag} {m m' : Ms} {H H' : Hp} {st : Store}
theorem Lat.free {st' : Store} (L : Lat m H m' H') (r : RS K m' H' st') {a : Addr} (h : H' a = none) : H a = none := by
  cases e : H a with
  | none => rfl
  | some o =>
    by_cases q : a ∈ m.vis
    · obtain ⟨t, ee⟩ := L.pre
      obtain ⟨o', e', _⟩ := r.trackedV (a := a) (by rw [ee]; exact List.mem_append_left _ q)
      rw [h] at e'
      cases e'
    · rw [L.keep a o e q] at h
      cases h
mutual
theorem RD.reveal {p : Addr} : ∀ (d : D) (v : V), RD K (m.hide p) H d v → RD K (m.push p) H d v
  | .non, v, h => by simpa only [RD] using h
  | .bl b, v, h => by simpa only [RD] using h
  | .int i, v, h => by simpa only [RD] using h
  | .str s, v, h => by simpa only [RD] using h
  | .tup l, v, h => by
    simp only [RD] at h ⊢
    obtain ⟨a, vs, e, q, h⟩ := h
    exact ⟨a, vs, e, q, RDs.reveal l vs h⟩
  | .lst l, v, h => by
    simp only [RD] at h ⊢
    obtain ⟨a, vs, e, q, n, h⟩ := h
    refine ⟨a, vs, e, q, ⟨fun z => ?_, fun q => n.2 (List.mem_cons_of_mem _ q)⟩, RDs.reveal l vs h⟩
    rcases List.mem_append.mp z with z | z
    · exact n.1 z
    · exact n.2 (by simp only [List.mem_singleton] at z; subst z; exact List.mem_cons_self)
  | .fl l, v, h => by
    simp only [RD] at h ⊢
    obtain ⟨a, vs, e, q, h⟩ := h
    refine ⟨a, vs, e, ?_, RDs.reveal l vs h⟩
    rcases q with ⟨q, n⟩ | q
    · refine .inl ⟨q, ⟨fun z => ?_, fun q => n.2 (List.mem_cons_of_mem _ q)⟩⟩
      rcases List.mem_append.mp z with z | z
      · exact n.1 z
      · exact n.2 (by simp only [List.mem_singleton] at z; subst z; exact List.mem_cons_self)
    · exact .inr q
  | .ref i, v, h => by
    simp only [RD] at h ⊢
    obtain ⟨a, e, q⟩ := h
    refine ⟨a, ?_, q⟩
    show (m.vis ++ [p])[i]? = some a
    have e : m.vis[i]? = some a := e
    rw [List.getElem?_append_left (List.getElem?_eq_some_iff.mp e).1]
    exact e
theorem RDs.reveal {p : Addr} : ∀ (ds : List D) (vs : List V), RDs K (m.hide p) H ds vs → RDs K (m.push p) H ds vs
  | [], vs, h => by simpa only [RDs] using h
  | d :: ds, vs, h => by
    simp only [RDs] at h ⊢
    obtain ⟨v, rr, e, q, h⟩ := h
    exact ⟨v, rr, e, RD.reveal d v q, RDs.reveal ds rr h⟩
end
theorem RKV.reveal {κ : Type} {p : Addr} : ∀ (ds : List (κ × D)) (vs : List (κ × V)), RKV K (m.hide p) H ds vs → RKV K (m.push p) H ds vs
  | [], vs, h => h
  | q :: ds, vs, h => by
    obtain ⟨v, rr, e, q, h⟩ := h
    exact ⟨v, rr, e, RD.reveal _ v q, RKV.reveal ds rr h⟩
theorem RS.reveal {p : Addr} {l : List D} {vs : List V} (hp : p ∉ m.hid) (r : RS K (m.hide p) H st) (e : H p = some (.lst vs)) (x : RDs K (m.hide p) H l vs) : RS K (m.push p) H (st ++ [.lst l]) := by
  have np := (r.hd p List.mem_cons_self).1
  refine ⟨by simp [r.len], ?_, fun i o a e1 e2 => ?_, fun a ha => ?_⟩
  · rw [List.nodup_append]
    exact ⟨r.nd, by simp, fun a ha b hb => by
      have e : b = p := by simpa using hb
      rw [e]
      rintro rfl
      exact np ha⟩
  · by_cases hi : i < st.length
    · rw [List.getElem?_append_left hi] at e1
      have e2 : (m.vis ++ [p])[i]? = some a := e2
      rw [List.getElem?_append_left (by rw [← r.len]; exact hi)] at e2
      have q := r.at_ i o a e1 e2
      cases o with
      | lst l =>
        obtain ⟨vs, q, x⟩ := q
        exact ⟨vs, q, RDs.reveal _ _ x⟩
      | dk l =>
        obtain ⟨vs, q, x⟩ := q
        exact ⟨vs, q, RKV.reveal _ _ x⟩
      | dt l =>
        obtain ⟨vs, q, x⟩ := q
        exact ⟨vs, q, RKV.reveal _ _ x⟩
    · have h1 : i = st.length := by
        have := (List.getElem?_eq_some_iff.mp e1).1
        simp at this
        omega
      subst h1
      have e2 : (m.vis ++ [p])[st.length]? = some a := e2
      have hl : st.length = m.vis.length := r.len
      rw [List.getElem?_append_right (Nat.le_refl _)] at e1
      rw [List.getElem?_append_right (by rw [hl]; exact Nat.le_refl _)] at e2
      have e3 : O.lst l = o := by simpa using e1
      have e4 : p = a := by simpa [hl] using e2
      subst e3 e4
      exact ⟨vs, e, RDs.reveal _ _ x⟩
  · obtain ⟨n, us, e⟩ := r.hd a (List.mem_cons_of_mem _ ha)
    refine ⟨fun q => ?_, us, e⟩
    rcases List.mem_append.mp q with q | q
    · exact n q
    · simp only [List.mem_singleton] at q
      subst q
      exact hp ha
end
/-- what is wanted: a new list was built in hiding -/
def PostL (K : PySem.W.Frag) (xv : Nat → Value) (W : WX) (σ : L2.St) (m : Ms) (H : Hp) (r : R (List D)) (Q : VK) : Prop := match r with
  | .ok ds st' => ∀ m' H' p vs, Lat m H m' H' → H p = none → p ∉ m'.hid → RS K (m'.hide p) H' st' → RDs K (m'.hide p) H' ds vs → H' p = some (.lst vs) → Good K H' → Q (.ref p) H'
  | .exc c st' => ∀ m' H', Lat m H m' H' → RS K m' H' st' → W (xv c) none σ H'
  | .stuck => False
section
variable {K : PySem.W.Frag} {xv : Nat → Value} {W : WX} {σ : L2.St} {m : Ms} {H : Hp} {st : Store}
theorem Post.toL {r : R (List D)} {Q : VK} (h : Post K xv W (RD K) σ m H (r.bind fun l st => .ok (.lst l) st) Q) : PostL K xv W σ m H r Q := by
  cases r with
  | ok ds st' => exact fun m' H' p vs L np nh rs x e g => h m' H' _ L (by
      simp only [RD]
      exact ⟨p, vs, rfl, e, ⟨(rs.hd p List.mem_cons_self).1, nh⟩, RDs.show _ _ x⟩) rs.show g
  | exc c st' => exact h
  | stuck => exact h
theorem Post.toLO {r : R (List D)} {Q : VK} (h : Post K xv W (RD K) σ m H ((r.bind fun l st => .ok (.lst l) st).bind ownD) Q) : PostL K xv W σ m H r Q := by
  cases r with
  | ok ds st' =>
    intro m' H' p vs L np nh rs x e g
    refine h (m'.push p) H' _ ⟨?_, L.hid, fun a q n => ?_, L.keep⟩ (by
      simp only [RD]
      exact ⟨p, by show (m'.vis ++ [p])[st'.length]? = some p; rw [show st'.length = m'.vis.length from rs.len, List.getElem?_append_right (Nat.le_refl _), Nat.sub_self]; rfl, rfl⟩) (rs.reveal nh e x) g
    · obtain ⟨t, e⟩ := L.pre
      exact ⟨t ++ [p], by show m'.vis ++ [p] = _; rw [e, List.append_assoc]⟩
    · rcases List.mem_append.mp q with q | q
      · exact L.new a q n
      · simp only [List.mem_singleton] at q
        subst q
        exact np
  | exc c st' => exact h
  | stuck => exact h
theorem compL_noexc {gs : List (Nat × List D)} {body : D → Store → R (Option D)} {ds : List D} {st st' : Store} {c : Nat} (h : compL gs body ds st = .exc c st') : False := by
  cases ds with
  | nil =>
    simp only [compL] at h
    split at h <;> cases h
  | cons d ds =>
    simp only [compL] at h
    split at h
    · split at h
      · split at h <;> cases h
      · cases h
    · cases h
theorem compL_nil {gs : List (Nat × List D)} {body : D → Store → R (Option D)} {st st' : Store} {l : List D} (h : compL gs body [] st = .ok l st') : guards gs st = true ∧ l = [] ∧ st' = st := by
  simp only [compL] at h
  split at h
  · rename_i e
    cases h
    exact ⟨e, rfl, rfl⟩
  · cases h
theorem compL_cons {gs : List (Nat × List D)} {body : D → Store → R (Option D)} {d : D} {ds : List D} {st st' : Store} {l : List D} (h : compL gs body (d :: ds) st = .ok l st') :
    guards gs st = true ∧ ∃ o st1 l', body d st = .ok o st1 ∧ compL gs body ds st1 = .ok l' st' ∧ l = (match o with | some x => x :: l' | none => l') := by
  simp only [compL] at h
  split at h
  · rename_i e
    split at h
    · rename_i o st1 e1
      split at h
      · rename_i l' st2 e2
        cases h
        exact ⟨e, o, st1, l', e1, e2, rfl⟩
      · cases h
    · cases h
  · cases h
def WF : WX := fun _ _ _ _ => False
/-- one turn of a comprehension -/
def lcB (g : D → Env → Store → R Env) (tt : Env → Store → R Bool) (te : Env → Store → R D) (own : List Nat) (env : Env) (d : D) (st : Store) : R (Option D) :=
  (g d (wipeE env own) st).bind fun env st => (tt env st).bind fun k st => if k = true then (te env st).bind fun x st => .ok (some x) st else .ok none st
theorem drop_cons {l : List D} {i : Nat} (h : i < l.length) : l.drop i = l[i] :: l.drop (i + 1) := List.drop_eq_getElem_cons h
end
section
variable {X : Cx} {xv : Nat → Value} {W : WX}
/-- the state between two turns -/
structure LcI (K : PySem.W.Frag) (m1 : Ms) (H1 : Hp) (D : Addr) (gs : List (Nat × List Ev.D)) (body : Ev.D → Store → R (Option Ev.D)) (L : List Ev.D) (stE : Store) (rest : List Ev.D) (n : Nat) (H : Hp) (m : Ms) (st : Store) (l acc : List Ev.D) (vs : List V) : Prop where
  lat : Lat m1 H1 m H
  rs : RS K (m.hide D) H st
  run : compL gs body rest st = .ok l stE
  all : acc ++ l = L
  at_ : H D = some (.lst vs)
  rd : RDs K (m.hide D) H acc vs
  len : acc.length ≤ n
theorem lc_main {elt tg iter : Expr} {ifs : List Expr} {scope : Scope} {own : List (Str × Nat)} {pos : Pos} {ns : List Nat} {it : Env → Store → R Src} {g : D → Env → Store → R Env} {tt : Env → Store → R Bool} {te : Env → Store → R D}
    (hns : ∀ i ∈ ns, i ∈ own.map (·.2)) {σ : L2.St} {H : Hp} {Q : VK} {m : Ms} {env : Env} {st : Store} (re : RE X.K m H env σ) (rs : RS X.K m H st)
    (p : PostL X.K xv W σ m H ((it env st).bind fun src st => compL src.gs (lcB g tt te (own.map (·.2)) env) src.ds st) Q) :
    tLc (tIv X.K xv W it) (tGv X.K ns g) (tTv X.K xv WF tt) (tEv X.K xv WF te) (own.map (·.2)) σ H (fun v H1 => Good X.K H1 → Q v H1) := by
  refine ⟨m, env, st, re, rs, ?_⟩
  revert p
  generalize e0 : it env st = r0
  intro p
  cases r0 with
  | exc c st' => exact p
  | stuck => exact p
  | ok src st1 =>
    intro m1 H1 J L1 S rs1 g1 D hD
    generalize hb : lcB g tt te (own.map (·.2)) env = body at p
    have p : PostL X.K xv W σ m H (compL src.gs body src.ds st1) Q := p
    revert p
    generalize e1 : compL src.gs body src.ds st1 = r1
    intro p
    cases r1 with
    | exc c st' => exact (compL_noexc e1).elim
    | stuck => exact p.elim
    | ok L stE =>
      refine ⟨fun i n H' => n = src.ds.length - i ∧ i ≤ src.ds.length ∧ ∃ m' st' l acc vs, LcI X.K m1 H1 D src.gs body L stE (src.ds.drop i) i H' m' st' l acc vs, ⟨src.ds.length, by simp, Nat.zero_le _, m1, st1, L, [], [], .alloc hD, rs1.hide hD _, e1, rfl, upd_same, .nil, Nat.le_refl _⟩, ?_⟩
      rintro i n H2 ⟨rfl, hi, m2, st2, l, acc, vs, I⟩
      have ZL : LatZ m1 H1 (m2.hide D) H2 := LatZ.ofHide I.lat hD
      by_cases hlt : i < src.ds.length
      · have run := I.run
        rw [drop_cons hlt] at run
        obtain ⟨gg, o, st3, l', b1, b2, el⟩ := compL_cons run
        refine .inr ⟨S.go _ _ _ _ ZL I.rs gg hlt, fun H' => i + 1 ≤ src.ds.length ∧ ∃ m' st' l acc vs, LcI X.K m1 H1 D src.gs body L stE (src.ds.drop (i + 1)) (i + 1) H' m' st' l acc vs, fun H' z => ⟨src.ds.length - (i + 1), by omega, rfl, z⟩, fun x H3 y => ?_⟩
        obtain ⟨d, ed, L3, rs3, rx⟩ := S.yld _ _ _ _ _ _ ZL I.rs gg hlt y
        have ed' : src.ds[i] = d := by
          rw [List.getElem?_eq_getElem hlt] at ed
          exact Option.some.inj ed
        rw [ed'] at b1
        subst hb
        -- the names, forgotten
        have re1 : RE X.K m1 H1 env σ := re.lat L1 rs
        have re3 : RE X.K (m2.hide D) H3 (wipeE env (own.map (·.2))) (wipe σ (own.map (·.2))) := (RE.lat L3 I.rs (RE.latz ZL rs1 re1)).wipe _
        refine ⟨m2.hide D, _, st2, d, re3, rs3, rx, ?_⟩
        unfold lcB at b1
        revert b1
        generalize g d (wipeE env (own.map (·.2))) st2 = rg
        intro b1
        cases rg with
        | exc c s => cases b1
        | stuck => cases b1
        | ok env4 st4 =>
          intro m4 H4 σ4 L4 re4 rs4 df4
          refine ⟨(df4.wipe hns).trans wipe_idem, m4, env4, st4, re4, rs4, ?_⟩
          have b1 : ((tt env4 st4).bind fun k st => if k = true then (te env4 st).bind fun x st => .ok (some x) st else .ok none st) = .ok o st3 := b1
          revert b1
          generalize tt env4 st4 = rt
          intro b1
          cases rt with
          | exc c s => cases b1
          | stuck => cases b1
          | ok k st5 =>
            intro m5 H5 b L5 eb rs5 g5
            have eb : k = b := eb
            subst eb
            have b1 : (if k = true then (te env4 st5).bind fun x st => .ok (some x) st else .ok none st5) = R.ok o st3 := b1
            have L25 : Lat (m2.hide D) H2 m5 H5 := (L3.trans L4).trans L5
            by_cases hk : k = true
            · rw [if_pos hk] at b1 ⊢
              refine ⟨m5, env4, st5, re4.lat L5 rs4, rs5, ?_⟩
              revert b1
              generalize te env4 st5 = re'
              intro b1
              cases re' with
              | exc c s => cases b1
              | stuck => cases b1
              | ok x' st6 =>
                intro m6 H6 v L6 rx6 rs6 g6
                have b1 : (R.ok (some x') st6 : R (Option Ev.D)) = .ok o st3 := b1
                cases b1
                have L26 : Lat (m2.hide D) H2 m6 H6 := L25.trans L6
                have nD : D ∉ (m2.hide D).vis := (I.rs.hd D List.mem_cons_self).1
                have hD6 : H6 D = some (.lst vs) := L26.keep D _ I.at_ nD
                have e6 := Ms.rehide L26
                generalize hm : (⟨m6.vis, m2.hid⟩ : Ms) = m7 at e6
                subst e6
                have hin : D ∈ (m7.hide D).hid := List.mem_cons_self
                have acc6 := RDs.lat L26 I.rs _ _ I.rd
                have hl : acc.length = vs.length := I.rd.length
                have hw : LatZ (m7.hide D) H6 (m7.hide D) (upd H6 D (.lst (vs ++ [v]))) := .writeH hin
                refine ⟨vs, hD6, ?_, by omega, m7, st3, l', acc ++ [x'], vs ++ [v], ⟨?_, rs6.writeH hin _, b2, ?_, upd_same, ?_, ?_⟩⟩
                · have := S.len
                  have := I.len
                  omega
                · have := (I.lat.unhide L26).bump (o := .lst (vs ++ [v])) hD
                  rw [← hm]
                  exact this
                · rw [List.append_assoc, ← I.all, el]
                  rfl
                · exact RDs.append (RDs.latz hw rs6 _ _ acc6) (.cons (RD.latz hw rs6 _ _ rx6) .nil)
                · rw [List.length_append]
                  have := I.len
                  simp only [List.length_cons, List.length_nil]
                  omega
            · rw [if_neg hk] at b1 ⊢
              cases b1
              have nD : D ∉ (m2.hide D).vis := (I.rs.hd D List.mem_cons_self).1
              have hD5 : H5 D = some (.lst vs) := L25.keep D _ I.at_ nD
              have e5 := Ms.rehide L25
              generalize hm : (⟨m5.vis, m2.hid⟩ : Ms) = m7 at e5
              subst e5
              refine ⟨by omega, m7, st3, l', acc, vs, ⟨?_, rs5, b2, ?_, hD5, RDs.lat L25 I.rs _ _ I.rd, by have := I.len; omega⟩⟩
              · rw [← hm]
                exact I.lat.unhide L25
              · rw [← I.all, el]
      · have ei : i = src.ds.length := by omega
        subst ei
        have run := I.run
        rw [List.drop_length] at run
        obtain ⟨gg, e2, e3⟩ := compL_nil run
        subst e2 e3
        refine .inl ⟨S.stop _ _ _ ZL I.rs gg, fun gd => ?_⟩
        have ea : acc = L := by rw [← I.all, List.append_nil]
        subst ea
        exact p m2 H2 D vs (L1.trans I.lat) (L1.free rs1 hD) (fun q => by
          rw [I.lat.hid] at q
          exact (rs1.no hD).2 q) I.rs I.rd I.at_ gd
theorem e_lc {elt tg iter : Expr} {ifs : List Expr} {scope : Scope} {own : List (Str × Nat)} {pos : Pos} {ns : List Nat} {it : Env → Store → R Src} {g : D → Env → Store → R Env} {tt : Env → Store → R Bool} {te : Env → Store → R D}
    (hc : X.calm = true) (hN : X.N.Nodup) (hi : PI X tg iter (tIv X.K xv W it)) (ok : BlkOk X.N X.env.scope scope own)
    (hg : ∀ (s : Shared) (H : Hp) (C : Addr) (cl : List (Str × Addr)) (fp : List Addr), PG (X.blk s H scope (compEnvC scope cl C X.env) fp) tg (tGv X.K ns g))
    (ht : ∀ (s : Shared) (H : Hp) (C : Addr) (cl : List (Str × Addr)) (fp : List Addr), PTs (X.blk s H scope (compEnvC scope cl C X.env) fp) ifs (tTv X.K xv WF tt))
    (he : ∀ (s : Shared) (H : Hp) (C : Addr) (cl : List (Str × Addr)) (fp : List Addr), PE (X.blk s H scope (compEnvC scope cl C X.env) fp) elt (tEv X.K xv WF te))
    (hs : ∀ x, foldedSetIterable iter X.env x = pure x) (hns : ∀ i ∈ ns, i ∈ own.map (·.2)) :
    PE X (.ListComp elt [⟨tg, iter, ifs, 0⟩] scope pos) (tEv X.K xv W fun env st => ((it env st).bind fun src st => compL src.gs (lcB g tt te (own.map (·.2)) env) src.ds st).bind fun l st => .ok (.lst l) st) ∧
    PE X (.ListComp elt [⟨tg, iter, ifs, 0⟩] scope pos) (tEv X.K xv W fun env st => (((it env st).bind fun src st => compL src.gs (lcB g tt te (own.map (·.2)) env) src.ds st).bind fun l st => .ok (.lst l) st).bind ownD) :=
  ⟨PE.use (pe_lc hc hN hi ok hg ht he hs) fun σ H Q ⟨m, env, st, re, rs, p⟩ => lc_main (elt := elt) (tg := tg) (iter := iter) (ifs := ifs) (scope := scope) (pos := pos) hns re rs p.toL,
   PE.use (pe_lc hc hN hi ok hg ht he hs) fun σ H Q ⟨m, env, st, re, rs, p⟩ => lc_main (elt := elt) (tg := tg) (iter := iter) (ifs := ifs) (scope := scope) (pos := pos) hns re rs p.toLO⟩
end
end Ev

set_option Elab.async false
set_option linter.all false
set_option maxRecDepth 100000
set_option autoImplicit false
/-! Ev, part M: comprehensions of two clauses; range with a step. -/
namespace Ev
open PySem PySem.Spec PyProof.Rows L2
/-- later, what is hidden may have changed, and is the same -/
structure LatH (m : Ms) (H : Hp) (m' : Ms) (H' : Hp) : Prop where
  pre : ∃ t, m'.vis = m.vis ++ t
  hid : m'.hid = m.hid
  new : ∀ a, a ∈ m'.vis → a ∉ m.vis → H a = none
  keep : ∀ a o, H a = some o → m.No a → H' a = some o
section
variable {K : PySem.W.Frag} {m m' m'' : Ms} {H H' H'' : Hp} {st : Store}
theorem LatH.z (L : LatH m H m' H') : LatZ m H m' H' := ⟨L.pre, fun a h => .inl (L.hid ▸ h), L.new, L.keep⟩
theorem Lat.h (L : Lat m H m' H') : LatH m H m' H' := ⟨L.pre, L.hid, L.new, fun a o e n => L.keep a o e n.1⟩
theorem LatH.trans (r : RS K m' H' st) (L : LatH m H m' H') (L' : LatH m' H' m'' H'') : LatH m H m'' H'' := by
  refine ⟨?_, L'.hid.trans L.hid, fun a h n => ?_, fun a o e n => L'.keep a o (L.keep a o e n) (L.z.notin n e)⟩
  · obtain ⟨t, e⟩ := L.pre
    obtain ⟨t', e'⟩ := L'.pre
    exact ⟨t ++ t', by rw [e', e, List.append_assoc]⟩
  · by_cases q : a ∈ m'.vis
    · exact L.new a q n
    · have e3 := L'.new a h q
      cases e : H a with
      | none => rfl
      | some o =>
        by_cases z : a ∈ m.hid
        · obtain ⟨o', e', _⟩ := r.tracked (a := a) (.inr (L.hid ▸ z))
          rw [e3] at e'
          cases e'
        · have e2 := L.keep a o e ⟨n, z⟩
          rw [e3] at e2
          cases e2
theorem LatH.writeH {p : Addr} {o : HO} (hp : p ∈ m.hid) : LatH m H m (upd H p o) := ⟨⟨[], (List.append_nil _).symm⟩, rfl, fun _ h n => absurd h n, fun a o e n => by rw [upd_ne (show a ≠ p from fun z => n.2 (by rw [z]; exact hp))]; exact e⟩
theorem compL2_noexc {gs : List (Nat × List D)} {body : D → Store → R (List D)} {ds : List D} {st st' : Store} {c : Nat} (h : compL2 gs body ds st = .exc c st') : False := by
  cases ds with
  | nil =>
    simp only [compL2] at h
    split at h <;> cases h
  | cons d ds =>
    simp only [compL2] at h
    split at h
    · split at h
      · split at h <;> cases h
      · cases h
    · cases h
theorem compL2_nil {gs : List (Nat × List D)} {body : D → Store → R (List D)} {st st' : Store} {l : List D} (h : compL2 gs body [] st = .ok l st') : guards gs st = true ∧ l = [] ∧ st' = st := by
  simp only [compL2] at h
  split at h
  · rename_i e
    cases h
    exact ⟨e, rfl, rfl⟩
  · cases h
theorem compL2_cons {gs : List (Nat × List D)} {body : D → Store → R (List D)} {d : D} {ds : List D} {st st' : Store} {l : List D} (h : compL2 gs body (d :: ds) st = .ok l st') :
    guards gs st = true ∧ ∃ l1 st1 l', body d st = .ok l1 st1 ∧ compL2 gs body ds st1 = .ok l' st' ∧ l = l1 ++ l' := by
  simp only [compL2] at h
  split at h
  · rename_i e
    split at h
    · rename_i o st1 e1
      split at h
      · rename_i l' st2 e2
        cases h
        exact ⟨e, o, st1, l', e1, e2, rfl⟩
      · cases h
    · cases h
  · cases h
end
/-- one turn of the first clause -/
def lcB2 (g : D → Env → Store → R Env) (tt : Env → Store → R Bool) (it1 : Env → Store → R Src) (g1 : D → Env → Store → R Env) (tt1 : Env → Store → R Bool) (te : Env → Store → R D) (own own1 : List Nat) (env : Env) (d : D) (st : Store) : R (List D) :=
  (g d (wipeE env own) st).bind fun env st => (tt env st).bind fun k st => if k = true then (it1 env st).bind fun src st => compL src.gs (lcB g1 tt1 te own1 env) src.ds st else .ok [] st
/-- a tuple's worth of state between two turns of the first clause -/
structure Lc2I (K : PySem.W.Frag) (m1 : Ms) (H1 : Hp) (D : Addr) (gs : List (Nat × List Ev.D)) (body : Ev.D → Store → R (List Ev.D)) (L : List Ev.D) (stE : Store) (rest : List Ev.D) (H : Hp) (m : Ms) (st : Store) (l acc : List Ev.D) (vs : List V) : Prop where
  lat : Lat m1 H1 m H
  rs : RS K (m.hide D) H st
  run : compL2 gs body rest st = .ok l stE
  all : acc ++ l = L
  at_ : H D = some (.lst vs)
  rd : RDs K (m.hide D) H acc vs
/-- .. and of the second -/
structure Lc1I (K : PySem.W.Frag) (m1 : Ms) (H1 : Hp) (m4 : Ms) (H4 : Hp) (D : Addr) (gs : List (Nat × List Ev.D)) (body : Ev.D → Store → R (Option Ev.D)) (L : List Ev.D) (stE : Store) (rest : List Ev.D) (H : Hp) (m : Ms) (st : Store) (l acc : List Ev.D) (vs : List V) : Prop where
  lat : Lat m1 H1 m H
  lath : LatH (m4.hide D) H4 (m.hide D) H
  rs : RS K (m.hide D) H st
  run : compL gs body rest st = .ok l stE
  all : acc ++ l = L
  at_ : H D = some (.lst vs)
  rd : RDs K (m.hide D) H acc vs
section
variable {X : Cx} {xv : Nat → Value} {W : WX}
theorem lc2_main {own : List (Str × Nat)} {ns ns1 vs1 : List Nat} {it it1 : Env → Store → R Src} {g g1 : D → Env → Store → R Env} {tt tt1 : Env → Store → R Bool} {te : Env → Store → R D}
    (hns : ∀ i ∈ ns, i ∈ own.map (·.2)) (hns1 : ∀ i ∈ ns1, i ∈ vs1) {σ : L2.St} {H : Hp} {Q : VK} {m : Ms} {env : Env} {st : Store} (re : RE X.K m H env σ) (rs : RS X.K m H st)
    (p : PostL X.K xv W σ m H (((it env st).bind fun src st => compL2 src.gs (lcB2 g tt it1 g1 tt1 te (own.map (·.2)) vs1 env) src.ds st).bind fun l st => if l.length ≤ line then .ok l st else .stuck) Q) :
    tLc2 (tIv X.K xv W it) (tGv X.K ns g) (tTv X.K xv WF tt) (tIv X.K xv WF it1) (tGv X.K ns1 g1) (tTv X.K xv WF tt1) (tEv X.K xv WF te) (own.map (·.2)) vs1 σ H (fun v H1 => Good X.K H1 → Q v H1) := by
  refine ⟨m, env, st, re, rs, ?_⟩
  revert p
  generalize e0 : it env st = r0
  intro p
  cases r0 with
  | exc c st' => exact p
  | stuck => exact p
  | ok src st1 =>
    intro m1 H1 J L1 S rs1 g1' D hD
    generalize hb : lcB2 g tt it1 g1 tt1 te (own.map (·.2)) vs1 env = body at p
    have p : PostL X.K xv W σ m H ((compL2 src.gs body src.ds st1).bind fun l st => if l.length ≤ line then .ok l st else .stuck) Q := p
    revert p
    generalize e1 : compL2 src.gs body src.ds st1 = r1
    intro p
    cases r1 with
    | exc c st' => exact (compL2_noexc e1).elim
    | stuck => exact p.elim
    | ok L stE =>
      have p : PostL X.K xv W σ m H (if L.length ≤ line then .ok L stE else .stuck) Q := p
      have hL : L.length ≤ line := by
        by_cases h : L.length ≤ line
        · exact h
        · rw [if_neg h] at p
          exact p.elim
      rw [if_pos hL] at p
      rw [line_eq] at hL
      refine ⟨fun i n H' => n = src.ds.length - i ∧ i ≤ src.ds.length ∧ ∃ m' st' l acc vs, Lc2I X.K m1 H1 D src.gs body L stE (src.ds.drop i) H' m' st' l acc vs, ⟨src.ds.length, by simp, Nat.zero_le _, m1, st1, L, [], [], .alloc hD, rs1.hide hD _, e1, rfl, upd_same, .nil⟩, ?_⟩
      rintro i n H2 ⟨rfl, hi, m2, st2, l, acc, vs, I⟩
      have ZL : LatZ m1 H1 (m2.hide D) H2 := LatZ.ofHide I.lat hD
      by_cases hlt : i < src.ds.length
      · have run := I.run
        rw [drop_cons hlt] at run
        obtain ⟨gg, l1, st3, l', b1, b2, el⟩ := compL2_cons run
        refine .inr ⟨S.go _ _ _ _ ZL I.rs gg hlt, fun H' => i + 1 ≤ src.ds.length ∧ ∃ m' st' l acc vs, Lc2I X.K m1 H1 D src.gs body L stE (src.ds.drop (i + 1)) H' m' st' l acc vs, fun H' z => ⟨src.ds.length - (i + 1), by omega, rfl, z⟩, fun x H3 y => ?_⟩
        obtain ⟨d, ed, L3, rs3, rx⟩ := S.yld _ _ _ _ _ _ ZL I.rs gg hlt y
        have ed' : src.ds[i] = d := by
          rw [List.getElem?_eq_getElem hlt] at ed
          exact Option.some.inj ed
        rw [ed'] at b1
        subst hb
        have re1 : RE X.K m1 H1 env σ := re.lat L1 rs
        have re3 : RE X.K (m2.hide D) H3 (wipeE env (own.map (·.2))) (wipe σ (own.map (·.2))) := (RE.lat L3 I.rs (RE.latz ZL rs1 re1)).wipe _
        refine ⟨m2.hide D, _, st2, d, re3, rs3, rx, ?_⟩
        unfold lcB2 at b1
        revert b1
        generalize g d (wipeE env (own.map (·.2))) st2 = rg
        intro b1
        cases rg with
        | exc c s => cases b1
        | stuck => cases b1
        | ok env4 st4 =>
          intro m4 H4 σ4 L4 re4 rs4 df4
          refine ⟨(df4.wipe hns).trans wipe_idem, m4, env4, st4, re4, rs4, ?_⟩
          have b1 : ((tt env4 st4).bind fun k st => if k = true then (it1 env4 st).bind fun src st => compL src.gs (lcB g1 tt1 te vs1 env4) src.ds st else .ok [] st) = .ok l1 st3 := b1
          revert b1
          generalize tt env4 st4 = rt
          intro b1
          cases rt with
          | exc c s => cases b1
          | stuck => cases b1
          | ok k st5 =>
            intro m5 H5 b L5 eb rs5 g5
            have eb : k = b := eb
            subst eb
            have b1 : (if k = true then (it1 env4 st5).bind fun src st => compL src.gs (lcB g1 tt1 te vs1 env4) src.ds st else .ok [] st5) = R.ok l1 st3 := b1
            have L25 : Lat (m2.hide D) H2 m5 H5 := (L3.trans L4).trans L5
            have nD : D ∉ (m2.hide D).vis := (I.rs.hd D List.mem_cons_self).1
            by_cases hk : k = true
            · rw [if_pos hk] at b1 ⊢
              refine ⟨m5, env4, st5, re4.lat L5 rs4, rs5, ?_⟩
              revert b1
              generalize it1 env4 st5 = ri
              intro b1
              cases ri with
              | exc c s => cases b1
              | stuck => cases b1
              | ok src1 st6 =>
                intro m6 H6 J1 L6 S1 rs6 g6
                have b1 : compL src1.gs (lcB g1 tt1 te vs1 env4) src1.ds st6 = .ok l1 st3 := b1
                have L26 : Lat (m2.hide D) H2 m6 H6 := L25.trans L6
                have hD6 : H6 D = some (.lst vs) := L26.keep D _ I.at_ nD
                have re6 : RE X.K m6 H6 env4 σ4 := (re4.lat L5 rs4).lat L6 rs5
                have e6 := Ms.rehide L26
                generalize hm : (⟨m6.vis, m2.hid⟩ : Ms) = m7 at e6
                subst e6
                have La : Lat m1 H1 m7 H6 := by
                  rw [← hm]
                  exact I.lat.unhide L26
                refine ⟨fun j n H' => n = src1.ds.length - j ∧ j ≤ src1.ds.length ∧ ∃ m' st' l acc' vs, Lc1I X.K m1 H1 m7 H6 D src1.gs (lcB g1 tt1 te vs1 env4) (acc ++ l1) st3 (src1.ds.drop j) H' m' st' l acc' vs, ⟨src1.ds.length, by simp, Nat.zero_le _, m7, st6, l1, acc, vs, La, Lat.refl.h, rs6, b1, rfl, hD6, RDs.lat L26 I.rs _ _ I.rd⟩, ?_⟩
                rintro j n H8 ⟨rfl, hj, m8, st8, l8, acc8, vs8, I8⟩
                by_cases hjt : j < src1.ds.length
                · have run8 := I8.run
                  rw [drop_cons hjt] at run8
                  obtain ⟨gg8, o8, st9, l9, c1, c2, el8⟩ := compL_cons run8
                  refine .inr ⟨S1.go _ _ _ _ I8.lath.z I8.rs gg8 hjt, fun H' => j + 1 ≤ src1.ds.length ∧ ∃ m' st' l acc' vs, Lc1I X.K m1 H1 m7 H6 D src1.gs (lcB g1 tt1 te vs1 env4) (acc ++ l1) st3 (src1.ds.drop (j + 1)) H' m' st' l acc' vs, fun H' z => ⟨src1.ds.length - (j + 1), by omega, rfl, z⟩, fun x9 H9 y9 => ?_⟩
                  obtain ⟨d9, ed9, L9, rs9, rx9⟩ := S1.yld _ _ _ _ _ _ I8.lath.z I8.rs gg8 hjt y9
                  have ed9' : src1.ds[j] = d9 := by
                    rw [List.getElem?_eq_getElem hjt] at ed9
                    exact Option.some.inj ed9
                  rw [ed9'] at c1
                  have re9 : RE X.K (m8.hide D) H9 (wipeE env4 vs1) (wipe σ4 vs1) := (RE.lat L9 I8.rs (RE.latz I8.lath.z rs6 re6)).wipe _
                  refine ⟨m8.hide D, _, st8, d9, re9, rs9, rx9, ?_⟩
                  unfold lcB at c1
                  revert c1
                  generalize g1 d9 (wipeE env4 vs1) st8 = rg9
                  intro c1
                  cases rg9 with
                  | exc c s => cases c1
                  | stuck => cases c1
                  | ok env10 st10 =>
                    intro m10 H10 σ10 L10 re10 rs10 df10
                    refine ⟨(df10.wipe hns1).trans wipe_idem, m10, env10, st10, re10, rs10, ?_⟩
                    have c1 : ((tt1 env10 st10).bind fun k st => if k = true then (te env10 st).bind fun x st => .ok (some x) st else .ok none st) = .ok o8 st9 := c1
                    revert c1
                    generalize tt1 env10 st10 = rt9
                    intro c1
                    cases rt9 with
                    | exc c s => cases c1
                    | stuck => cases c1
                    | ok k' st11 =>
                      intro m11 H11 b' L11 eb' rs11 g11
                      have eb' : k' = b' := eb'
                      subst eb'
                      have c1 : (if k' = true then (te env10 st11).bind fun x st => .ok (some x) st else .ok none st11) = R.ok o8 st9 := c1
                      have L811 : Lat (m8.hide D) H8 m11 H11 := (L9.trans L10).trans L11
                      have nD8 : D ∉ (m8.hide D).vis := (I8.rs.hd D List.mem_cons_self).1
                      by_cases hk' : k' = true
                      · rw [if_pos hk'] at c1 ⊢
                        refine ⟨m11, env10, st11, re10.lat L11 rs10, rs11, ?_⟩
                        revert c1
                        generalize te env10 st11 = re'
                        intro c1
                        cases re' with
                        | exc c s => cases c1
                        | stuck => cases c1
                        | ok x' st12 =>
                          intro m12 H12 v L12 rx12 rs12 g12
                          have c1 : (R.ok (some x') st12 : R (Option Ev.D)) = .ok o8 st9 := c1
                          cases c1
                          have L812 : Lat (m8.hide D) H8 m12 H12 := L811.trans L12
                          have hD12 : H12 D = some (.lst vs8) := L812.keep D _ I8.at_ nD8
                          have e12 := Ms.rehide L812
                          generalize hm12 : (⟨m12.vis, m8.hid⟩ : Ms) = m13 at e12
                          subst e12
                          have hin : D ∈ (m13.hide D).hid := List.mem_cons_self
                          have acc12 := RDs.lat L812 I8.rs _ _ I8.rd
                          have hl : acc8.length = vs8.length := I8.rd.length
                          have hw : LatH (m13.hide D) H12 (m13.hide D) (upd H12 D (.lst (vs8 ++ [v]))) := .writeH hin
                          have eL : (acc8 ++ x' :: l9) ++ l' = L := by
                            have e8 : l8 = x' :: l9 := el8
                            rw [← e8, I8.all, List.append_assoc, ← el]
                            exact I.all
                          refine ⟨vs8, hD12, ?_, by omega, m13, st9, l9, acc8 ++ [x'], vs8 ++ [v], ⟨?_, ?_, rs12.writeH hin _, c2, ?_, upd_same, ?_⟩⟩
                          · have := congrArg List.length eL
                            simp only [List.length_append, List.length_cons] at this
                            omega
                          · have := (I8.lat.unhide L812).bump (o := .lst (vs8 ++ [v])) hD
                            rw [← hm12]
                            exact this
                          · exact (LatH.trans I8.rs I8.lath L812.h).trans rs12 hw
                          · rw [List.append_assoc, ← I8.all, el8]
                            rfl
                          · exact RDs.append (RDs.latz hw.z rs12 _ _ acc12) (.cons (RD.latz hw.z rs12 _ _ rx12) .nil)
                      · rw [if_neg hk'] at c1 ⊢
                        cases c1
                        have hD11 : H11 D = some (.lst vs8) := L811.keep D _ I8.at_ nD8
                        have e11 := Ms.rehide L811
                        generalize hm11 : (⟨m11.vis, m8.hid⟩ : Ms) = m13 at e11
                        subst e11
                        refine ⟨by omega, m13, _, l9, acc8, vs8, ⟨?_, LatH.trans I8.rs I8.lath L811.h, rs11, c2, ?_, hD11, RDs.lat L811 I8.rs _ _ I8.rd⟩⟩
                        · rw [← hm11]
                          exact I8.lat.unhide L811
                        · rw [← I8.all, el8]
                · have ej : j = src1.ds.length := by omega
                  subst ej
                  have run8 := I8.run
                  rw [List.drop_length] at run8
                  obtain ⟨gg8, e2, e3⟩ := compL_nil run8
                  subst e2 e3
                  refine .inl ⟨S1.stop _ _ _ I8.lath.z I8.rs gg8, by omega, m8, _, l', acc8, vs8, ⟨I8.lat, I8.rs, b2, ?_, I8.at_, I8.rd⟩⟩
                  have := I8.all
                  rw [List.append_nil] at this
                  rw [this, List.append_assoc, ← el]
                  exact I.all
            · rw [if_neg hk] at b1 ⊢
              cases b1
              have hD5 : H5 D = some (.lst vs) := L25.keep D _ I.at_ nD
              have e5 := Ms.rehide L25
              generalize hm : (⟨m5.vis, m2.hid⟩ : Ms) = m7 at e5
              subst e5
              refine ⟨by omega, m7, _, l', acc, vs, ⟨?_, rs5, b2, ?_, hD5, RDs.lat L25 I.rs _ _ I.rd⟩⟩
              · rw [← hm]
                exact I.lat.unhide L25
              · rw [← I.all, el]
                rfl
      · have ei : i = src.ds.length := by omega
        subst ei
        have run := I.run
        rw [List.drop_length] at run
        obtain ⟨gg, e2, e3⟩ := compL2_nil run
        subst e2 e3
        refine .inl ⟨S.stop _ _ _ ZL I.rs gg, fun gd => ?_⟩
        have ea : acc = L := by rw [← I.all, List.append_nil]
        subst ea
        exact p m2 H2 D vs (L1.trans I.lat) (L1.free rs1 hD) (fun q => by
          rw [I.lat.hid] at q
          exact (rs1.no hD).2 q) I.rs I.rd I.at_ gd
theorem e_lc2 {elt tg iter tg1 iter1 : Expr} {ifs ifs1 : List Expr} {scope : Scope} {own : List (Str × Nat)} {ns ns1 vs1 : List Nat} {pos : Pos} {it it1 : Env → Store → R Src} {g g1 : D → Env → Store → R Env} {tt tt1 : Env → Store → R Bool} {te : Env → Store → R D}
    (hc : X.calm = true) (hN : X.N.Nodup) (hi : PI X tg iter (tIv X.K xv W it)) (ok : BlkOk X.N X.env.scope scope own) (hv : ∀ i ∈ vs1, i ∈ own.map (·.2))
    (hg : ∀ (s : Shared) (H : Hp) (C : Addr) (cl : List (Str × Addr)) (fp : List Addr), PG (X.blk s H scope (compEnvC scope cl C X.env) fp) tg (tGv X.K ns g))
    (ht : ∀ (s : Shared) (H : Hp) (C : Addr) (cl : List (Str × Addr)) (fp : List Addr), PTs (X.blk s H scope (compEnvC scope cl C X.env) fp) ifs (tTv X.K xv WF tt))
    (hi1 : ∀ (s : Shared) (H : Hp) (C : Addr) (cl : List (Str × Addr)) (fp : List Addr), PI (X.blk s H scope (compEnvC scope cl C X.env) fp) tg1 iter1 (tIv X.K xv WF it1))
    (hg1 : ∀ (s : Shared) (H : Hp) (C : Addr) (cl : List (Str × Addr)) (fp : List Addr), PG (X.blk s H scope (compEnvC scope cl C X.env) fp) tg1 (tGv X.K ns1 g1))
    (ht1 : ∀ (s : Shared) (H : Hp) (C : Addr) (cl : List (Str × Addr)) (fp : List Addr), PTs (X.blk s H scope (compEnvC scope cl C X.env) fp) ifs1 (tTv X.K xv WF tt1))
    (he : ∀ (s : Shared) (H : Hp) (C : Addr) (cl : List (Str × Addr)) (fp : List Addr), PE (X.blk s H scope (compEnvC scope cl C X.env) fp) elt (tEv X.K xv WF te))
    (hs : ∀ x, foldedSetIterable iter X.env x = pure x) (hs1 : ∀ env x, foldedSetIterable iter1 env x = pure x) (hns : ∀ i ∈ ns, i ∈ own.map (·.2)) (hns1 : ∀ i ∈ ns1, i ∈ vs1) :
    PE X (.ListComp elt [⟨tg, iter, ifs, 0⟩, ⟨tg1, iter1, ifs1, 0⟩] scope pos) (tEv X.K xv W fun env st => (((it env st).bind fun src st => compL2 src.gs (lcB2 g tt it1 g1 tt1 te (own.map (·.2)) vs1 env) src.ds st).bind fun l st => if l.length ≤ line then .ok l st else .stuck).bind fun l st => .ok (.lst l) st) ∧
    PE X (.ListComp elt [⟨tg, iter, ifs, 0⟩, ⟨tg1, iter1, ifs1, 0⟩] scope pos) (tEv X.K xv W fun env st => ((((it env st).bind fun src st => compL2 src.gs (lcB2 g tt it1 g1 tt1 te (own.map (·.2)) vs1 env) src.ds st).bind fun l st => if l.length ≤ line then .ok l st else .stuck).bind fun l st => .ok (.lst l) st).bind ownD) :=
  ⟨PE.use (pe_lc2 hc hN hi ok hv hg ht hi1 hg1 ht1 he hs hs1) fun σ H Q ⟨m, env, st, re, rs, p⟩ => lc2_main hns hns1 re rs p.toL,
   PE.use (pe_lc2 hc hN hi ok hv hg ht hi1 hg1 ht1 he hs hs1) fun σ H Q ⟨m, env, st, re, rs, p⟩ => lc2_main hns hns1 re rs p.toLO⟩
theorem i_rng3 {a b c tg : Expr} {p pos : Pos} {fs : Env → Store → R (List D)} (hg : Gl X "range") (hm : X.mg "range" = none) (ha : PA X [a, b, c] (tAv X.K xv W fs)) (hsa : notStar a = true) (hsb : notStar b = true) (hsc : notStar c = true) (hl : ∀ env st ds st', fs env st = .ok ds st' → ds.length = 3) :
    PI X tg (.Call (.Name "range" p) [a, b, c] [] pos) (tIv X.K xv W fun env st => (fs env st).bind fun ds st => .ofO (rngOf ds) fun s => .ok s st) :=
  PI.use (pi_range3 hg hm ha (by rw [star_cons hsa]) (star_any (by simp [hsb, hsc]))) fun σ H R ⟨m, env, st, re, rs, p⟩ => by
    refine ⟨m, env, st, re, rs, (p.bindE (rel := RDs X.K)).mono fun vs H1 ⟨ds, m1, st1, er, L1, x1, rs1, g1, p1⟩ => ?_⟩
    have hl := hl _ _ _ _ er
    obtain ⟨s, es, p1⟩ := p1.ofO
    match ds, hl with
    | [d, d', d''], _ =>
      cases d <;> cases d' <;> cases d'' <;> simp only [rngOf] at es <;> first | cases es | skip
      rename_i i j k _
      split at es
      · rename_i hc
        cases es
        simp only [Bool.and_eq_true, decide_eq_true_eq] at hc
        obtain ⟨⟨⟨⟨h0, h1⟩, h2⟩, h3⟩, h4⟩ := hc
        simp only [RDs, RD] at x1
        obtain ⟨v, r, rfl, rfl, v', r', rfl, rfl, v'', r'', rfl, rfl, rfl⟩ := x1
        exact ⟨i, j, k, _, rfl, ⟨h0, h1, h2, (Int.toNat_of_nonneg h3).symm⟩, fun g => p1.here (src_rngC (by rw [← line_eq]; exact h4)) rs1 g⟩
      · cases es
end
end Ev

set_option Elab.async false
set_option linter.all false
set_option maxRecDepth 100000
set_option autoImplicit false
/-! Ev, part N: statements. -/
namespace Ev
open PySem PySem.Spec PyProof.Rows L2

/-- what is wanted behind a statement -/
def PostS (K : PySem.W.Frag) (xv : Nat → Value) (W : WX) (D : Ends) (m : Ms) (H : Hp) (r : RSt) : Prop := match r with
  | .next env st => ∀ m' H' σ', Lat m H m' H' → RE K m' H' env σ' → RS K m' H' st → D.nx σ' H'
  | .brk env st => ∀ m' H' σ', Lat m H m' H' → RE K m' H' env σ' → RS K m' H' st → D.bk σ' H'
  | .cont env st => ∀ m' H' σ', Lat m H m' H' → RE K m' H' env σ' → RS K m' H' st → D.ct σ' H'
  | .ret d st => ∀ m' H' v, Lat m H m' H' → RD K m' H' d v → RS K m' H' st → Good K H' → D.rt v H'
  | .exc c env st => ∀ m' H' σ', Lat m H m' H' → RE K m' H' env σ' → RS K m' H' st → W (xv c) none σ' H'
  | .stuck => False
def tSv (K : PySem.W.Frag) (xv : Nat → Value) (W : WX) (f : Env → Store → RSt) : TS := fun D σ H => ∃ m env st, RE K m H env σ ∧ RS K m H st ∧ PostS K xv W D m H (f env st)
/-- the ends, with what a state tells -/
def gd (K : PySem.W.Frag) (D : Ends) : Ends := ⟨fun σ H => Good K H → D.nx σ H, fun v H => Good K H → D.rt v H, fun σ H => Good K H → D.bk σ H, fun σ H => Good K H → D.ct σ H⟩
section
variable {X : Cx}
theorem sp_good {pins : List (Addr × Obj)} {D : Ends} {f : Flow} {s : Shared} (h : SP X pins (gd X.K D) f s) : SP X pins D f s := by
  cases f with
  | next =>
    obtain ⟨σ, H, I, q⟩ := h
    exact ⟨σ, H, I, q (good_of I)⟩
  | brk =>
    obtain ⟨σ, H, I, q⟩ := h
    exact ⟨σ, H, I, q (good_of I)⟩
  | cont =>
    obtain ⟨σ, H, I, q⟩ := h
    exact ⟨σ, H, I, q (good_of I)⟩
  | ret u =>
    obtain ⟨v, σ, H, I, r, q⟩ := h
    exact ⟨v, σ, H, I, r, q (good_of I)⟩
theorem PS.use {s : Stmt} {t t' : TS} (h : PS X s t) (w : ∀ D σ H, t' D σ H → t (gd X.K D) σ H) : PS X s t' :=
  ⟨fun pins s σ H D I q => thn (h.run pins s σ H _ I (w D σ H q)) fun _ _ z => sp_good z⟩
theorem PSs.use {s : List Stmt} {t t' : TS} (h : PSs X s t) (w : ∀ D σ H, t' D σ H → t (gd X.K D) σ H) : PSs X s t' :=
  ⟨fun pins s σ H D I q => thn (h.run pins s σ H _ I (w D σ H q)) fun _ _ z => sp_good z⟩
end
section
variable {K : PySem.W.Frag} {xv : Nat → Value} {W : WX} {D D' : Ends} {m m1 : Ms} {H H1 : Hp} {σ : L2.St} {env : Env} {st : Store}
theorem PostS.later {r : RSt} (L : Lat m H m1 H1) (h : PostS K xv W D m H r) : PostS K xv W D m1 H1 r := by
  cases r with
  | next env st => exact fun m' H' σ' L' => h m' H' σ' (L.trans L')
  | brk env st => exact fun m' H' σ' L' => h m' H' σ' (L.trans L')
  | cont env st => exact fun m' H' σ' L' => h m' H' σ' (L.trans L')
  | ret d st => exact fun m' H' v L' => h m' H' v (L.trans L')
  | exc c env st => exact fun m' H' σ' L' => h m' H' σ' (L.trans L')
  | stuck => exact h
theorem PostS.good {r : RSt} (h : PostS K xv W D m H r) : PostS K xv W (gd K D) m H r := by
  cases r with
  | next env st => exact fun m' H' σ' L re rs _ => h m' H' σ' L re rs
  | brk env st => exact fun m' H' σ' L re rs _ => h m' H' σ' L re rs
  | cont env st => exact fun m' H' σ' L re rs _ => h m' H' σ' L re rs
  | ret d st => exact fun m' H' v L x rs _ g => h m' H' v L x rs g
  | exc c env st => exact h
  | stuck => exact h
/-- first an expression -/
theorem PostS.ex {α β : Type} {rel : Ms → Hp → α → β → Prop} {r : R α} {k : α → Store → RSt} (re : RE K m H env σ) (rs : RS K m H st) (h : PostS K xv W D m H (r.st env k)) :
    Post K xv W rel σ m H r (fun b H1 => ∃ a m1 st1, r = .ok a st1 ∧ Lat m H m1 H1 ∧ rel m1 H1 a b ∧ RE K m1 H1 env σ ∧ RS K m1 H1 st1 ∧ Good K H1 ∧ PostS K xv W D m1 H1 (k a st1)) := by
  cases r with
  | ok a st' => exact fun m' H' b L x rs' g => ⟨a, m', st', rfl, L, x, re.lat L rs, rs', g, PostS.later L h⟩
  | exc c st' => exact fun m' H' L rs' => h m' H' σ L (re.lat L rs) rs'
  | stuck => exact h
end
section
variable {X : Cx} {xv : Nat → Value} {W : WX} {a b e tg : Expr} {pos p : Pos} {f g h : Env → Store → R D} {ft : Env → Store → R Bool} {fs : Env → Store → R (List D)} {u w : Env → Store → RSt} {sa sb : List Stmt}
theorem ss_nil : PSs X [] (tSv X.K xv W fun env st => .next env st) := PSs.use pss_nil fun D σ H ⟨m, env, st, re, rs, p⟩ g => p m H σ .refl re rs
theorem ss_cons {s : Stmt} {r : List Stmt} (h1 : PS X s (tSv X.K xv W u)) (h2 : PSs X r (tSv X.K xv W w)) : PSs X (s :: r) (tSv X.K xv W fun env st => (u env st).seq fun env st => w env st) :=
  PSs.use (pss_cons h1 h2) fun D σ H ⟨m, env, st, re, rs, p⟩ => by
    refine ⟨m, env, st, re, rs, ?_⟩
    have p : PostS X.K xv W D m H ((u env st).seq fun env st => w env st) := p
    revert p
    generalize u env st = r
    intro p
    cases r with
    | next env1 st1 => exact fun m' H' σ' L re' rs' => ⟨m', env1, st1, re', rs', (PostS.later L p).good⟩
    | brk env st => exact fun m' H' σ' L re rs _ => p m' H' σ' L re rs
    | cont env st => exact fun m' H' σ' L re rs _ => p m' H' σ' L re rs
    | ret d st => exact fun m' H' v L x rs _ g => p m' H' v L x rs g
    | exc c env st => exact p
    | stuck => exact p
theorem s_pass : PS X (.Pass pos) (tSv X.K xv W fun env st => .next env st) := PS.use ps_pass fun D σ H ⟨m, env, st, re, rs, p⟩ g => p m H σ .refl re rs
theorem s_brk : PS X (.Break pos) (tSv X.K xv W fun env st => .brk env st) := PS.use ps_break fun D σ H ⟨m, env, st, re, rs, p⟩ g => p m H σ .refl re rs
theorem s_cont : PS X (.Continue pos) (tSv X.K xv W fun env st => .cont env st) := PS.use ps_continue fun D σ H ⟨m, env, st, re, rs, p⟩ g => p m H σ .refl re rs
theorem s_doc {x : Str} {j : Nat} {pos' : Pos} : PS X (.Expr (.Constant (.str x) j pos) pos') (tSv X.K xv W fun env st => .next env st) := PS.use ps_doc fun D σ H ⟨m, env, st, re, rs, p⟩ g => p m H σ .refl re rs
theorem s_ex (he : PE X e (tEv X.K xv W f)) (hs : swapsWith e none pos.line X.env = pure false) : PS X (.Expr e pos) (tSv X.K xv W fun env st => (f env st).st env fun _ st => .next env st) :=
  PS.use (ps_expr he hs) fun D σ H ⟨m, env, st, re, rs, p⟩ => ⟨m, env, st, re, rs, (PostS.ex (rel := RD X.K) re rs p).mono fun v H1 ⟨d, m1, st1, _, L, x, re1, rs1, g1, p1⟩ _ => p1 m1 H1 σ .refl re1 rs1⟩
theorem s_ret (he : PE X e (tEv X.K xv W f)) : PS X (.Return (some e) pos) (tSv X.K xv W fun env st => (f env st).st env fun d st => .ret d st) :=
  PS.use (ps_ret he) fun D σ H ⟨m, env, st, re, rs, p⟩ => ⟨m, env, st, re, rs, (PostS.ex (rel := RD X.K) re rs p).mono fun v H1 ⟨d, m1, st1, _, L, x, re1, rs1, g1, p1⟩ g => p1 m1 H1 v .refl x rs1 g⟩
theorem s_retN : PS X (.Return none pos) (tSv X.K xv W fun _ st => .ret .non st) :=
  PS.use ps_retN fun D σ H ⟨m, env, st, re, rs, p⟩ g => p m H .non .refl (by simp only [RD]) rs g
theorem s_if (hc : PT X e (tTv X.K xv W ft)) (ha : PSs X sa (tSv X.K xv W u)) (hb : PSs X sb (tSv X.K xv W w)) : PS X (.If e sa sb pos) (tSv X.K xv W fun env st => (ft env st).st env fun k st => if k = true then u env st else w env st) :=
  PS.use (ps_if hc ha hb) fun D σ H ⟨m, env, st, re, rs, p⟩ => ⟨m, env, st, re, rs, (PostS.ex (rel := eqR) re rs p).mono fun v H1 ⟨d, m1, st1, _, L, x, re1, rs1, g1, p1⟩ => by
    have x : d = v := x
    subst x
    by_cases hk : d = true
    · rw [if_pos hk] at p1 ⊢
      exact ⟨m1, env, st1, re1, rs1, p1.good⟩
    · rw [if_neg hk] at p1 ⊢
      exact ⟨m1, env, st1, re1, rs1, p1.good⟩⟩
/-- a target that is names alone -/
theorem s_asg {ns : List Nat} {g : D → Env → Store → R Env} (he : PE X e (tEv X.K xv W f)) (hg : PG X tg (tGv X.K ns g)) (hng : ∀ d env st c st', g d env st ≠ .exc c st') (hs : swapsWithSole [tg] e pos.line X.env = pure false) (hw : swappedStores [tg] e X.env = pure none)
    (h1 : (assignEach [tg] X.env).map (·.2) = [assign tg X.env]) : PS X (.Assign [tg] e pos) (tSv X.K xv W fun env st => (f env st).st env fun d st => (g d env st).st env fun env st => .next env st) :=
  PS.use (ps_asg he hg hs hw h1) fun D σ H ⟨m, env, st, re, rs, p⟩ => ⟨m, env, st, re, rs, (PostS.ex (rel := RD X.K) re rs p).mono fun v H1 ⟨d, m1, st1, _, L, x, re1, rs1, g1, p1⟩ => by
    refine ⟨m1, env, st1, d, re1, rs1, x, ?_⟩
    revert p1
    generalize er : g d env st1 = r
    intro p1
    cases r with
    | ok env2 st2 => exact fun m' H' σ' L re rs _ _ => p1 m' H' σ' L re rs
    | exc c st2 => exact absurd er (hng _ _ _ _ _)
    | stuck => exact p1⟩
theorem s_sub (he : PE X e (tEv X.K xv W f)) (ho : PE X a (tEv X.K xv W g)) (hi : PE X b (tEv X.K xv W h))
    (ha : ∀ v, assign (.Subscript a b p) X.env v = (do
      let ov ← holding [v] (eval a X.env)
      let iv ← holding [v, ov] (eval b X.env)
      standAt p
      holding [v, ov, iv] (setItem ov iv v)
      release [v, ov, iv] []))
    (hs : swapsWithSole [.Subscript a b p] e pos.line X.env = pure false) (hw : swappedStores [.Subscript a b p] e X.env = pure none)
    (h1 : (assignEach [.Subscript a b p] X.env).map (·.2) = [assign (.Subscript a b p) X.env]) : PS X (.Assign [.Subscript a b p] e pos) (tSv X.K xv W fun env st => (f env st).st env fun d st => ((g env st).bind fun x st => (h env st).bind fun y st => .ofO (setD x y d st) fun st => .ok env st).st env fun env st => .next env st) :=
  PS.use (ps_asg he (pg_sub ho hi set_list ha) hs hw h1) fun D σ H ⟨m, env, st, re, rs, p⟩ => ⟨m, env, st, re, rs, (PostS.ex (rel := RD X.K) re rs p).mono fun v H1 ⟨d, m1, st1, _, L, x, re1, rs1, g1, p1⟩ => by
    refine ⟨m1, env, st1, re1, rs1, ?_⟩
    have q1 : PostS X.K xv W D m1 H1 ((g env st1).st env fun x st => (h env st).st env fun y st => (R.ofO (setD x y d st) fun st => R.ok () st).st env fun _ st => .next env st) := by
      revert p1
      generalize g env st1 = r
      intro p1
      cases r with
      | ok x st2 =>
        have p1 : PostS X.K xv W D m1 H1 (((h env st2).bind fun y st => .ofO (setD x y d st) fun st => .ok env st).st env fun env st => .next env st) := p1
        show PostS X.K xv W D m1 H1 ((h env st2).st env fun y st => (R.ofO (setD x y d st) fun st => R.ok () st).st env fun _ st => .next env st)
        revert p1
        generalize h env st2 = r
        intro p1
        cases r with
        | ok y st3 =>
          have p1 : PostS X.K xv W D m1 H1 ((R.ofO (setD x y d st3) fun st => .ok env st).st env fun env st => .next env st) := p1
          show PostS X.K xv W D m1 H1 ((R.ofO (setD x y d st3) fun st => R.ok () st).st env fun _ st => .next env st)
          revert p1
          generalize setD x y d st3 = r
          intro p1
          cases r with
          | none => exact p1
          | some st4 => exact p1
        | exc c s => exact p1
        | stuck => exact p1
      | exc c s => exact p1
      | stuck => exact p1
    refine (PostS.ex (rel := RD X.K) re1 rs1 q1).mono fun v2 H2 ⟨x2, m2, st2, _, L2, rx2, re2, rs2, g2, p2⟩ => ⟨m2, env, st2, re2, rs2, ?_⟩
    refine (PostS.ex (rel := RD X.K) re2 rs2 p2).mono fun v3 H3 ⟨x3, m3, st3, _, L3, rx3, re3, rs3, g3, p3⟩ => ?_
    have x' := RD.lat (L2.trans L3) rs1 _ _ x
    have rx2' := RD.lat L3 rs2 _ _ rx2
    cases es : setD x2 x3 d st3 with
    | none =>
      rw [es] at p3
      exact p3.elim
    | some st4 =>
      rw [es] at p3
      have p3 : PostS X.K xv W D m3 H3 (.next env st4) := p3
      unfold setD at es
      cases eo : ownL st3 x2 with
      | none => simp [eo] at es
      | some q =>
        obtain ⟨i, l⟩ := q
        simp only [eo, Option.bind_some] at es
        obtain ⟨a, vs, rfl, hm, hi, hH, hx⟩ := ownL_at rs3 rx2' eo
        cases x3 with
        | int k =>
          simp only [Option.map_eq_some_iff] at es
          obtain ⟨j, ej, rfl⟩ := es
          simp only [RD] at rx3
          subst rx3
          refine ⟨a, vs, k, j, rfl, rfl, hH, by rw [← hx.length]; exact ej, fun g => ?_⟩
          exact p3 m3 _ σ (.write (List.mem_of_getElem? hm)) (re3.lat (.write (List.mem_of_getElem? hm)) rs3) (set_at rs3 hi hm (RDs.set x' j hx))
        | _ => simp at es⟩
/-- name = [..] on one line -/
theorem s_setLc {i : Nat} {y : Str} {py : Pos} {elt tg iter : Expr} {ifs : List Expr} {scope : Scope} {own : List (Str × Nat)} {spos : Pos} {ns : List Nat} {it : Env → Store → R Src} {g : D → Env → Store → R Env} {tt : Env → Store → R Bool} {te : Env → Store → R D}
    (hc : X.calm = true) (hN : X.N.Nodup) (hy : X.N[i]? = some y) (hyl : X.env.scope.names.lookup y = some .local)
    (hsw : swapsWith (.ListComp elt [⟨tg, iter, ifs, 0⟩] scope pos) (some (.Name y py)) spos.line X.env = pure true) (hi : PI X tg iter (tIv X.K xv W it)) (ok : BlkOk X.N X.env.scope scope own)
    (hg : ∀ (s : Shared) (H : Hp) (C : Addr) (cl : List (Str × Addr)) (fp : List Addr), PG (X.blk s H scope (compEnvC scope cl C X.env) fp) tg (tGv X.K ns g))
    (ht : ∀ (s : Shared) (H : Hp) (C : Addr) (cl : List (Str × Addr)) (fp : List Addr), PTs (X.blk s H scope (compEnvC scope cl C X.env) fp) ifs (tTv X.K xv WF tt))
    (he : ∀ (s : Shared) (H : Hp) (C : Addr) (cl : List (Str × Addr)) (fp : List Addr), PE (X.blk s H scope (compEnvC scope cl C X.env) fp) elt (tEv X.K xv WF te))
    (hs : ∀ x, foldedSetIterable iter X.env x = pure x) (hns : ∀ i ∈ ns, i ∈ own.map (·.2)) :
    PS X (.Assign [.Name y py] (.ListComp elt [⟨tg, iter, ifs, 0⟩] scope pos) spos) (tSv X.K xv W fun env st => (((it env st).bind fun src st => compL src.gs (lcB g tt te (own.map (·.2)) env) src.ds st).bind fun l st => .ok (.lst l) st).st env fun d st => .next (env.set i (some d)) st) ∧
    PS X (.Assign [.Name y py] (.ListComp elt [⟨tg, iter, ifs, 0⟩] scope pos) spos) (tSv X.K xv W fun env st => ((((it env st).bind fun src st => compL src.gs (lcB g tt te (own.map (·.2)) env) src.ds st).bind fun l st => .ok (.lst l) st).bind ownD).st env fun d st => .next (env.set i (some d)) st) := by
  have go : ∀ (D : Ends) (σ : L2.St) (H : Hp), tLc (tIv X.K xv W it) (tGv X.K ns g) (tTv X.K xv WF tt) (tEv X.K xv WF te) (own.map (·.2)) σ H (fun v H1 => Good X.K H1 → D.nx (σ.set i (some v)) H1) →
      tAsg (tLc (tIv X.K xv W it) (tGv X.K ns g) (tTv X.K xv WF tt) (tEv X.K xv WF te) (own.map (·.2))) (gName i) (gd X.K D) σ H := fun D σ H h => h
  refine ⟨PS.use (ps_setLc hc hN hy hyl hsw hi ok hg ht he hs) fun D σ H ⟨m, env, st, re, rs, p⟩ => go D σ H ?_, PS.use (ps_setLc hc hN hy hyl hsw hi ok hg ht he hs) fun D σ H ⟨m, env, st, re, rs, p⟩ => go D σ H ?_⟩
  · refine lc_main (elt := elt) (tg := tg) (iter := iter) (ifs := ifs) (scope := scope) (pos := pos) hns re rs (Q := fun v H1 => D.nx (σ.set i (some v)) H1) (Post.toL ?_)
    exact (PostS.ex (rel := RD X.K) re rs p).mono fun v H1 ⟨d, m1, st1, _, L, x, re1, rs1, g1, p1⟩ => p1 m1 H1 _ .refl (re1.set i x) rs1
  · refine lc_main (elt := elt) (tg := tg) (iter := iter) (ifs := ifs) (scope := scope) (pos := pos) hns re rs (Q := fun v H1 => D.nx (σ.set i (some v)) H1) (Post.toLO ?_)
    exact (PostS.ex (rel := RD X.K) re rs p).mono fun v H1 ⟨d, m1, st1, _, L, x, re1, rs1, g1, p1⟩ => p1 m1 H1 _ .refl (re1.set i x) rs1
/-- o= -/
def AugE (X : Cx) (op : Operator) (o : BO) : Prop := ∃ f : Int → Int → Int, PIp X op (ipI f) ∧ ∀ (i j : Int) (st : Store), augD o (.int i) (.int j) st = .ok (.int (f i j)) st
theorem aug_add : AugE X .Add .add := ⟨_, ip_add, fun _ _ _ => rfl⟩
theorem aug_sub : AugE X .Sub .sub := ⟨_, ip_sub, fun _ _ _ => rfl⟩
theorem augD_ints {o : BO} {a b : D} {st : Store} {K : PySem.W.Frag} {DD : Ends} {m : Ms} {H : Hp} {env : Env} {k : D → Store → RSt} (h : PostS K xv W DD m H ((augD o a b st).st env k)) : ∃ i j, a = .int i ∧ b = .int j := by
  cases a <;> cases b <;> first | exact ⟨_, _, rfl, rfl⟩ | exact h.elim
theorem s_aug {i : Nat} {x : Str} {op : Operator} {o : BO} {pos' : Pos} (hN : X.N.Nodup) (hi : X.N[i]? = some x) (hx : Loc X.env.scope x) (he : PE X e (tEv X.K xv W f)) (ho : AugE X op o) (hf : X.fn x = true ∨ X.env.scope.names.lookup x = some .local) :
    PS X (.AugAssign (.Name x pos') op e pos) (tSv X.K xv W fun env st => (R.ofO env[i]?.join fun d => .ok d st).st env fun x st => (f env st).st env fun y st => (augD o x y st).st env fun d st => .next (env.set i (some d)) st) := by
  obtain ⟨fi, hop, hf'⟩ := ho
  refine PS.use (ps_aug hN hi hx he hop hf) fun D σ H ⟨m, env, st, re, rs, p⟩ => ?_
  have p : PostS X.K xv W D m H ((R.ofO env[i]?.join fun d => .ok d st).st env fun x st => (f env st).st env fun y st => (augD o x y st).st env fun d st => .next (env.set i (some d)) st) := p
  cases e0 : env[i]?.join with
  | none =>
    rw [e0] at p
    exact p.elim
  | some d0 =>
    rw [e0] at p
    have p : PostS X.K xv W D m H ((f env st).st env fun y st => (augD o d0 y st).st env fun d st => .next (env.set i (some d)) st) := p
    obtain ⟨v, q, x0⟩ := env_at re e0
    refine ⟨v, q, m, env, st, re, rs, (PostS.ex (rel := RD X.K) re rs p).mono fun u H1 ⟨d, m1, st1, _, L, x, re1, rs1, g1, p1⟩ => ?_⟩
    obtain ⟨a, b, rfl, rfl⟩ := augD_ints p1
    simp only [RD] at x0 x
    subst x0 x
    refine ⟨a, b, rfl, rfl, fun _ => ?_⟩
    rw [hf'] at p1
    exact p1 m1 H1 _ .refl (re1.set i (by simp only [RD])) rs1
/-- o[i] of a changing list -/
def rGetL : V → V → Hp → VK → Prop := fun o i H Q => ∃ p xs k z, o = .ref p ∧ i = .int k ∧ H p = some (.lst xs) ∧ atI xs k = some z ∧ Q z H
theorem get_list : PGet X rGetL := by
  intro pins s σ H o i ov iv Q I ro ri h
  obtain ⟨p, xs, k, z, rfl, rfl, hq, he, q⟩ := h
  cases ro
  obtain ⟨t, rfl⟩ := ri
  obtain ⟨its, r, pl, hz⟩ := I.list (SqL.of hq)
  obtain ⟨j, h1, h2, h3, h4, h5⟩ := atI_get he
  obtain ⟨w, ew, rw'⟩ := r.get h2
  have hl := r.length
  have hn := line63
  have fin : EP X pins σ Q w s := ⟨z, H, I, rw', q⟩
  by_cases h0 : 0 ≤ k
  · have hj : k.toNat = j := by
      rw [seqIndex_of h0 h5] at h1
      exact Option.some.inj h1
    exact wpAny_getItem_list pl.isList h0 (by omega) (by rw [hj]; simpa using ew) fin
  · have hj : (k + (its.toArray.size : Int)).toNat = j := by
      rw [seqIndex_neg (by omega) h4] at h1
      rw [List.size_toArray, ← hl]
      exact Option.some.inj h1
    exact wpAny_getItem_list_neg pl.isList (by omega) (by rw [List.size_toArray] <;> omega) (by omega) (by rw [hj]; simpa using ew) fin
theorem s_augS {op : Operator} {o : BO} {k : Env → Store → R D} {e' : Expr} {tpos : Pos} (hoo : PE X a (tEv X.K xv W f)) (hi : PE X b (tEv X.K xv W g)) (he : PE X e' (tEv X.K xv W k)) (ho : AugE X op o)
    (ha : ∀ ov iv new, augStore b ov iv new = (do holding [new, ov, iv] (setItem ov iv new); release [new, ov, iv] []; pure .next)) :
    PS X (.AugAssign (.Subscript a b tpos) op e' pos) (tSv X.K xv W fun env st => (f env st).st env fun x st => (g env st).st env fun y st => (getL x y st).st env fun z st => (k env st).st env fun w st => (augD o z w st).st env fun n st => (R.ofO (setD x y n st) fun st => R.ok () st).st env fun _ st => .next env st) := by
  obtain ⟨fi, hop, hf'⟩ := ho
  refine PS.use (ps_augS hoo hi get_list he hop set_list ha) fun D σ H ⟨m, env, st, re, rs, p⟩ => ⟨m, env, st, re, rs, (PostS.ex (rel := RD X.K) re rs p).mono fun v1 H1 ⟨x1, m1, st1, _, L1, rx1, re1, rs1, g1, p1⟩ => ?_⟩
  refine ⟨m1, env, st1, re1, rs1, (PostS.ex (rel := RD X.K) re1 rs1 p1).mono fun v2 H2 ⟨x2, m2, st2, _, L2, rx2, re2, rs2, g2, p2⟩ => ?_⟩
  have rx1' := RD.lat L2 rs1 _ _ rx1
  cases eo : ownL st2 x1 with
  | none =>
    unfold getL at p2
    rw [eo] at p2
    exact p2.elim
  | some q =>
    obtain ⟨i, l⟩ := q
    unfold getL at p2
    rw [eo] at p2
    obtain ⟨a, vs, rfl, hm, hi, hH, hx⟩ := ownL_at rs2 rx1' eo
    cases x2 with
    | int kk =>
      have p2 : PostS X.K xv W D m2 H2 ((R.ofO (atI l kk) fun d => .ok d st2).st env fun z st => (k env st).st env fun w st => (augD o z w st).st env fun n st => (R.ofO (setD x1 (.int kk) n st) fun st => R.ok () st).st env fun _ st => .next env st) := p2
      simp only [RD] at rx2
      subst rx2
      cases ez : atI l kk with
      | none =>
        rw [ez] at p2
        exact p2.elim
      | some z =>
        rw [ez] at p2
        have p2 : PostS X.K xv W D m2 H2 ((k env st2).st env fun w st => (augD o z w st).st env fun n st => (R.ofO (setD x1 (.int kk) n st) fun st => R.ok () st).st env fun _ st => .next env st) := p2
        obtain ⟨vz, evz, rz⟩ := atI_at hx ez
        refine ⟨a, vs, kk, vz, rfl, rfl, hH, evz, m2, env, st2, re2, rs2, (PostS.ex (rel := RD X.K) re2 rs2 p2).mono fun v3 H3 ⟨x3, m3, st3, _, L3, rx3, re3, rs3, g3, p3⟩ => ?_⟩
        obtain ⟨ia, ib, rfl, rfl⟩ := augD_ints p3
        simp only [RD] at rz rx3
        subst rz rx3
        refine ⟨ia, ib, rfl, rfl, ?_⟩
        rw [hf'] at p3
        have p3 : PostS X.K xv W D m3 H3 ((R.ofO (setD x1 (.int kk) (.int (fi ia ib)) st3) fun st => R.ok () st).st env fun _ st => .next env st) := p3
        cases es : setD x1 (.int kk) (.int (fi ia ib)) st3 with
        | none =>
          rw [es] at p3
          exact p3.elim
        | some st4 =>
          rw [es] at p3
          have p3 : PostS X.K xv W D m3 H3 (.next env st4) := p3
          unfold setD at es
          have rx1'' := RD.lat L3 rs2 _ _ rx1'
          cases eo : ownL st3 x1 with
          | none => simp [eo] at es
          | some q =>
            obtain ⟨i3, l3⟩ := q
            simp only [eo, Option.bind_some] at es
            obtain ⟨a3, vs3, ea3, hm3, hi3, hH3, hx3⟩ := ownL_at rs3 rx1'' eo
            cases ea3
            simp only [Option.map_eq_some_iff] at es
            obtain ⟨j, ej, rfl⟩ := es
            refine ⟨a, vs3, kk, j, rfl, rfl, hH3, by rw [← hx3.length]; exact ej, fun g => ?_⟩
            exact p3 m3 _ σ (.write (List.mem_of_getElem? hm3)) (re3.lat (.write (List.mem_of_getElem? hm3)) rs3) (set_at rs3 hi3 hm3 (RDs.set (by simp only [RD]) j hx3))
    | _ => exact p2.elim
end
end Ev

set_option Elab.async false
set_option linter.all false
set_option maxRecDepth 100000
set_option autoImplicit false
/-! Ev, part Nd: d[k] = v. -/
namespace Ev
open PySem PySem.Spec PyProof.Rows L2
section
variable {X : Cx} {xv : Nat → Value} {W : WX} {a b e : Expr} {pos p : Pos} {f g h : Env → Store → R D}
theorem s_dsub (hu : X.A.units + 64 < cLine) (he : PE X e (tEv X.K xv W f)) (ho : PE X a (tEv X.K xv W g)) (hi : PE X b (tEv X.K xv W h))
    (ha : ∀ v, assign (.Subscript a b p) X.env v = (do
      let ov ← holding [v] (eval a X.env)
      let iv ← holding [v, ov] (eval b X.env)
      standAt p
      holding [v, ov, iv] (setItem ov iv v)
      release [v, ov, iv] []))
    (hs : swapsWithSole [.Subscript a b p] e pos.line X.env = pure false) (hw : swappedStores [.Subscript a b p] e X.env = pure none)
    (h1 : (assignEach [.Subscript a b p] X.env).map (·.2) = [assign (.Subscript a b p) X.env]) : PS X (.Assign [.Subscript a b p] e pos) (tSv X.K xv W fun env st => (f env st).st env fun d st => ((g env st).bind fun x st => (h env st).bind fun y st => .ofO (dsetD x y d st) fun st => .ok env st).st env fun env st => .next env st) :=
  PS.use (ps_asg he (pg_sub ho hi (set_dict (by omega)) ha) hs hw h1) fun D σ H ⟨m, env, st, re, rs, p⟩ => ⟨m, env, st, re, rs, (PostS.ex (rel := RD X.K) re rs p).mono fun v H1 ⟨d, m1, st1, _, L, x, re1, rs1, g1, p1⟩ => by
    refine ⟨m1, env, st1, re1, rs1, ?_⟩
    have q1 : PostS X.K xv W D m1 H1 ((g env st1).st env fun x st => (h env st).st env fun y st => (R.ofO (dsetD x y d st) fun st => R.ok () st).st env fun _ st => .next env st) := by
      revert p1
      generalize g env st1 = r
      intro p1
      cases r with
      | ok x st2 =>
        have p1 : PostS X.K xv W D m1 H1 (((h env st2).bind fun y st => .ofO (dsetD x y d st) fun st => .ok env st).st env fun env st => .next env st) := p1
        show PostS X.K xv W D m1 H1 ((h env st2).st env fun y st => (R.ofO (dsetD x y d st) fun st => R.ok () st).st env fun _ st => .next env st)
        revert p1
        generalize h env st2 = r
        intro p1
        cases r with
        | ok y st3 =>
          have p1 : PostS X.K xv W D m1 H1 ((R.ofO (dsetD x y d st3) fun st => .ok env st).st env fun env st => .next env st) := p1
          show PostS X.K xv W D m1 H1 ((R.ofO (dsetD x y d st3) fun st => R.ok () st).st env fun _ st => .next env st)
          revert p1
          generalize dsetD x y d st3 = r
          intro p1
          cases r with
          | none => exact p1
          | some st4 => exact p1
        | exc c s => exact p1
        | stuck => exact p1
      | exc c s => exact p1
      | stuck => exact p1
    refine (PostS.ex (rel := RD X.K) re1 rs1 q1).mono fun v2 H2 ⟨x2, m2, st2, _, L2, rx2, re2, rs2, g2, p2⟩ => ⟨m2, env, st2, re2, rs2, ?_⟩
    refine (PostS.ex (rel := RD X.K) re2 rs2 p2).mono fun v3 H3 ⟨x3, m3, st3, _, L3, rx3, re3, rs3, g3, p3⟩ => ?_
    have x' := RD.lat (L2.trans L3) rs1 _ _ x
    have rx2' := RD.lat L3 rs2 _ _ rx2
    cases es : dsetD x2 x3 d st3 with
    | none =>
      rw [es] at p3
      exact p3.elim
    | some st4 =>
      rw [es] at p3
      have p3 : PostS X.K xv W D m3 H3 (.next env st4) := p3
      cases x2 with
      | ref i =>
        simp only [dsetD] at es
        split at es
        · rename_i l hst
          rw [Option.bind_eq_some_iff] at es
          obtain ⟨k, ek, es⟩ := es
          split at es
          · rename_i hlen
            cases es
            have hk := key_at rx3 ek
            subst hk
            simp only [RD] at rx2'
            obtain ⟨A, hm, rfl⟩ := rx2'
            obtain ⟨vs, hH, hx⟩ := rs3.at_ i _ A hst hm
            have hi := (List.getElem?_eq_some_iff.mp hst).1
            have Lw : Lat m3 H3 m3 (upd H3 A (.dK (putK vs k v))) := .write (List.mem_of_getElem? hm)
            refine ⟨A, _, rfl, DPut.k hH (by rw [hx.length]; rw [sizeLine_eq]; exact hlen), fun g => ?_⟩
            exact p3 m3 _ σ Lw (re3.lat Lw rs3) (rs3.write hi hm ⟨_, upd_same, RKV.put (RD.lat Lw rs3 _ _ x') (RKV.lat Lw rs3 _ _ hx)⟩)
          · cases es
        · cases es
      | _ => simp [dsetD] at es⟩
end
end Ev

set_option Elab.async false
set_option linter.all false
set_option maxRecDepth 100000
set_option autoImplicit false
/-! Ev, part O: loops, exceptions. -/
namespace Ev
open PySem PySem.Spec PyProof.Rows L2
section
variable {X : Cx} {xv : Nat → Value} {W : WX} {a b c e tg : Expr} {pos p : Pos} {f g h : Env → Store → R D} {ft : Env → Store → R Bool} {fs : Env → Store → R (List D)} {u w : Env → Store → RSt} {sa sb : List Stmt}
/-- the body's end, in a loop: k what follows -/
theorem PostS.turn {K : PySem.W.Frag} {D : Ends} {m : Ms} {H : Hp} {r : RSt} {k : Env → Store → RSt} {N : L2.St → Hp → Prop}
    (p : PostS K xv W D m H (match r with
      | .next e s => k e s
      | .cont e s => k e s
      | .brk e s => .next e s
      | x => x))
    (hN : ∀ m' H' σ' env st, Lat m H m' H' → RE K m' H' env σ' → RS K m' H' st → PostS K xv W D m' H' (k env st) → N σ' H') :
    PostS K xv W { D with nx := N, ct := N, bk := D.nx } m H r := by
  cases r with
  | next env st => exact fun m' H' σ' L re rs => hN m' H' σ' env st L re rs (PostS.later L p)
  | cont env st => exact fun m' H' σ' L re rs => hN m' H' σ' env st L re rs (PostS.later L p)
  | brk env st => exact p
  | ret d st => exact p
  | exc c env st => exact p
  | stuck => exact p
theorem s_while {n : Nat} (hp : PassesOwn (model X.prog X.w) X.A X.env X.xe) (hc : PT X c (tTv X.K xv W ft)) (hb : PSs X sa (tSv X.K xv W u)) :
    PS X (.While c sa [] pos) (tSv X.K xv W fun env st => whileL ft u n env st) := by
  refine PS.use (ps_while hp hc hb) fun D0 σ H ⟨m, env, st, re, rs, p⟩ => ?_
  generalize hD : gd X.K D0 = D
  have p : PostS X.K xv W D m H (whileL ft u n env st) := hD ▸ PostS.good p
  refine ⟨fun n σ H => ∃ m env st, RE X.K m H env σ ∧ RS X.K m H st ∧ PostS X.K xv W D m H (whileL ft u n env st), ⟨n, m, env, st, re, rs, p⟩, ?_⟩
  rintro k σ H ⟨m, env, st, re, rs, p⟩
  cases k with
  | zero => exact p.elim
  | succ k =>
    have p : PostS X.K xv W D m H ((ft env st).st env fun b s => if b = true then (match u env s with
      | .next e s => whileL ft u k e s
      | .cont e s => whileL ft u k e s
      | .brk e s => .next e s
      | x => x) else .next env s) := by
      unfold whileL at p
      revert p
      generalize ft env st = r
      intro p
      cases r with
      | ok b s => cases b <;> exact p
      | exc c s => exact p
      | stuck => exact p
    refine ⟨m, env, st, re, rs, (PostS.ex (rel := eqR) re rs p).mono fun b H1 ⟨b', m1, st1, _, L, eb, re1, rs1, g1, p1⟩ => ?_⟩
    have eb : b' = b := eb
    subst eb
    by_cases hb : b' = true
    · rw [if_pos hb] at p1 ⊢
      refine ⟨fun σ H => ∃ m env st, RE X.K m H env σ ∧ RS X.K m H st ∧ PostS X.K xv W D m H (whileL ft u k env st), fun σ' H' z => ⟨k, Nat.lt_succ_self k, z⟩, m1, env, st1, re1, rs1, ?_⟩
      exact PostS.turn p1 fun m' H' σ' env st L re rs q => ⟨m', env, st, re, rs, q⟩
    · rw [if_neg hb] at p1 ⊢
      exact p1 m1 H1 σ .refl re1 rs1
theorem s_for {ns : List Nat} {it : Env → Store → R Src} {g : D → Env → Store → R Env} (hp : PassesOwn (model X.prog X.w) X.A X.env X.xe) (hc : X.calm = true) (hi : PI X tg e (tIv X.K xv W it)) (hg : PG X tg (tGv X.K ns g)) (hng : ∀ d env st c st', g d env st ≠ .exc c st') (hb : PSs X sa (tSv X.K xv W u))
    (hs : ∀ x, foldedSetIterable e X.env x = pure x) : PS X (.For tg e sa [] pos) (tSv X.K xv W fun env st => (it env st).st env fun src st => forL src.gs (fun d env st => (g d env st).st env fun env st => u env st) src.ds env st) := by
  refine PS.use (ps_for hp hc hi hg hb hs) fun D0 σ H ⟨m, env, st, re, rs, p⟩ => ?_
  generalize hD : gd X.K D0 = D
  have p : PostS X.K xv W D m H ((it env st).st env fun src st => forL src.gs (fun d env st => (g d env st).st env fun env st => u env st) src.ds env st) := hD ▸ PostS.good p
  generalize hbd : (fun d env st => (g d env st).st env fun env st => u env st : Ev.D → Env → Store → RSt) = body at p
  refine ⟨m, env, st, re, rs, (PostS.ex (rel := SrcOk X.K) re rs p).mono fun J H1 ⟨src, m1, st1, _, L1, S, re1, rs1, g1, p1⟩ => ?_⟩
  refine ⟨fun i n σ H => n = src.ds.length - i ∧ i ≤ src.ds.length ∧ ∃ m env st, Lat m1 H1 m H ∧ RE X.K m H env σ ∧ RS X.K m H st ∧ PostS X.K xv W D m H (forL src.gs body (src.ds.drop i) env st), ⟨src.ds.length, by simp, Nat.zero_le _, m1, env, st1, .refl, re1, rs1, p1⟩, ?_⟩
  rintro i n σ H ⟨rfl, hi, m, env, st, L, re, rs, p⟩
  by_cases hlt : i < src.ds.length
  · rw [drop_cons hlt] at p
    have gg : guards src.gs st = true := by
      cases gg : guards src.gs st with
      | true => rfl
      | false =>
        simp only [forL, gg] at p
        exact p.elim
    simp only [forL, gg, if_true] at p
    refine .inr ⟨S.go _ _ _ _ L.z rs gg hlt, fun σ H => i + 1 ≤ src.ds.length ∧ ∃ m env st, Lat m1 H1 m H ∧ RE X.K m H env σ ∧ RS X.K m H st ∧ PostS X.K xv W D m H (forL src.gs body (src.ds.drop (i + 1)) env st), fun σ' H' z => ⟨src.ds.length - (i + 1), by omega, rfl, z⟩, fun x H3 y => ?_⟩
    obtain ⟨d, ed, L3, rs3, rx⟩ := S.yld _ _ _ _ _ _ L.z rs gg hlt y
    have ed' : src.ds[i] = d := by
      rw [List.getElem?_eq_getElem hlt] at ed
      exact Option.some.inj ed
    rw [ed'] at p
    refine ⟨m, env, st, d, re.lat L3 rs, rs3, rx, ?_⟩
    have q : PostS X.K xv W D m H3 (match (g d env st).st env fun env st => u env st with
      | .next e s => forL src.gs body (src.ds.drop (i + 1)) e s
      | .cont e s => forL src.gs body (src.ds.drop (i + 1)) e s
      | .brk e s => .next e s
      | x => x) := by
      have p := PostS.later L3 p
      have eb : body d env st = (g d env st).st env fun env st => u env st := by rw [← hbd]
      rw [eb] at p
      exact p
    revert q
    generalize er : g d env st = r
    intro q
    cases r with
    | exc c s => exact absurd er (hng _ _ _ _ _)
    | stuck => exact q.elim
    | ok env2 st2 =>
      intro m4 H4 σ4 L4 re4 rs4 _
      refine ⟨m4, env2, st2, re4, rs4, ?_⟩
      have q : PostS X.K xv W D m4 H4 (match u env2 st2 with
      | .next e s => forL src.gs body (src.ds.drop (i + 1)) e s
      | .cont e s => forL src.gs body (src.ds.drop (i + 1)) e s
      | .brk e s => .next e s
      | x => x) := PostS.later L4 q
      exact PostS.turn q fun m' H' σ' env st L5 re rs q => ⟨by omega, m', env, st, ((L.trans L3).trans L4).trans L5, re, rs, q⟩
  · have ei : i = src.ds.length := by omega
    subst ei
    rw [List.drop_length] at p
    have gg : guards src.gs st = true := by
      cases gg : guards src.gs st with
      | true => rfl
      | false =>
        simp only [forL, gg] at p
        exact p.elim
    simp only [forL, gg, if_true] at p
    exact .inl ⟨S.stop _ _ _ L.z rs gg, p m H σ .refl re rs⟩
/-- X(), X an own exception class without own __init__ -/
theorem pmk_own0 {C : Addr} {bmB : List Value} {B newId initId : String} {x : Str} {p : Pos} (F : ExcBaseFacts B newId initId bmB) (q : PySem.W.excIn X.K C bmB newId = true) (gC : X.mg x = some (.ref C))
    (kC : PySem.W.keepIn X.K (.ref C) = true) (r : Raises X (.ref C)) (hg : Gl X x) (hdb : (x == ("__debug__" : Str)) = false) :
    PMk X (.Call (.Name x p) [] [] pos) (fun σ H Q => Q (.ref C) none H) := by
  intro pins s σ H Q I h
  refine wpAny_Call_Name_kw (ld_glob I hg gC ?_ hdb)
  refine PySem.W.callWith_K0 I.kIn kC ?_
  show wpAny _ _ (call (.ref C) []) _ _ _
  obtain ⟨bm, N, nm, qn, bs, hdct, sn, sub, ab, col, dd, k0, k1, k2, k3, k5, mN, hC, hN, hni, T⟩ := exc_obj I.kIn q
  refine wpAny_call_exc_subT F T hC hN hni (fun h' e hm => ?_) (by show 0 ≤ sizeLine; exact Nat.zero_le _)
  exact mk_of I hm r h (I.hok.gone hm.new)
theorem s_raise {i : Nat} (hc : X.calm = true) (tk : Takes X W) (he : PMk X e (fun _ H Q => Q (xv i) none H)) : PS X (.Raise (some e) none pos) (tSv X.K xv W fun env st => .exc i env st) :=
  PS.use (ps_raise hc tk he) fun D σ H ⟨m, env, st, re, rs, p⟩ => p m H σ .refl re rs
/-- a, b = x, y -/
theorem s_par2 {i j : Nat} {x y : Str} {px py pt : Pos} {kt k2 : Nat} {pt2 : Pos} (hc : X.calm = true) (hN : X.N.Nodup) (hi : X.N[i]? = some x) (hj : X.N[j]? = some y) (hij : i ≠ j)
    (hx : X.env.scope.names.lookup x = some .local) (hy : X.env.scope.names.lookup y = some .local) (ha : PA X [a, b] (tAv X.K xv W fs))
    (hw : swappedStores [.Tuple [.Name x px, .Name y py] kt pt] (.Tuple [a, b] k2 pt2) X.env = pure (some [x, y])) :
    PS X (.Assign [.Tuple [.Name x px, .Name y py] kt pt] (.Tuple [a, b] k2 pt2) pos) (tSv X.K xv W fun env st => (fs env st).st env fun ds st => if ds.length = [i, j].length then .next (([i, j].zip ds).foldl (fun env p => env.set p.1 (some p.2)) env) st else .stuck) :=
  PS.use (ps_par hc hN hi hj hij hx hy ha hw) fun D σ H ⟨m, env, st, re, rs, p⟩ => ⟨m, env, st, re, rs, (PostS.ex (rel := RDs X.K) re rs p).mono fun vs H1 ⟨ds, m1, st1, _, L, x, re1, rs1, g1, p1⟩ => by
    by_cases hl : ds.length = [i, j].length
    · rw [if_pos hl] at p1
      match ds, hl with
      | [d, d'], _ =>
        simp only [RDs] at x
        obtain ⟨v, r, rfl, x1, v', r', rfl, x2, rfl⟩ := x
        exact ⟨v, v', rfl, fun _ => p1 m1 H1 _ .refl ((re1.set i x1).set j x2) rs1⟩
    · rw [if_neg hl] at p1
      exact p1.elim⟩
theorem s_par3 {i j l : Nat} {x y z : Str} {px py pz pt : Pos} {kt k2 : Nat} {pt2 : Pos} (hc : X.calm = true) (hN : X.N.Nodup) (hi : X.N[i]? = some x) (hj : X.N[j]? = some y) (hl : X.N[l]? = some z) (hij : i ≠ j) (hil : i ≠ l) (hjl : j ≠ l)
    (hx : X.env.scope.names.lookup x = some .local) (hy : X.env.scope.names.lookup y = some .local) (hz : X.env.scope.names.lookup z = some .local) (ha : PA X [a, b, c] (tAv X.K xv W fs))
    (hw : swappedStores [.Tuple [.Name x px, .Name y py, .Name z pz] kt pt] (.Tuple [a, b, c] k2 pt2) X.env = pure (some [x, y, z])) :
    PS X (.Assign [.Tuple [.Name x px, .Name y py, .Name z pz] kt pt] (.Tuple [a, b, c] k2 pt2) pos) (tSv X.K xv W fun env st => (fs env st).st env fun ds st => if ds.length = [i, j, l].length then .next (([i, j, l].zip ds).foldl (fun env p => env.set p.1 (some p.2)) env) st else .stuck) :=
  PS.use (ps_par3 hc hN hi hj hl hij hil hjl hx hy hz ha hw) fun D σ H ⟨m, env, st, re, rs, p⟩ => ⟨m, env, st, re, rs, (PostS.ex (rel := RDs X.K) re rs p).mono fun vs H1 ⟨ds, m1, st1, _, L, x, re1, rs1, g1, p1⟩ => by
    by_cases hl : ds.length = [i, j, l].length
    · rw [if_pos hl] at p1
      match ds, hl with
      | [d, d', d''], _ =>
        simp only [RDs] at x
        obtain ⟨v, r, rfl, x1, v', r', rfl, x2, v'', r'', rfl, x3, rfl⟩ := x
        exact ⟨v, v', v'', rfl, fun _ => p1 m1 H1 _ .refl (((re1.set i x1).set j x2).set l x3) rs1⟩
    · rw [if_neg hl] at p1
      exact p1.elim⟩
/-- a clause: its class, slot, constant -/
structure HdOk (X : Cx) (xv : Nat → Value) (val : IE → Store → R D) (h : ExceptHandler) (q : Nat × Nat × IE) : Prop where
  ok : ∃ (x : Str) (np pos' spos py : Pos) (y : Str) (ce : Expr) (d : D), h = .ExceptHandler (some (.Name x np)) none [.Assign [.Name y py] ce spos] pos' ∧ Names X x (xv q.1) ∧ X.N[q.2.1]? = some y ∧ L2.Loc X.env.scope y ∧
    (X.fn y = true ∨ X.env.scope.names.lookup y = some .local) ∧ swapsWith ce (some (.Name y py)) spos.line X.env = pure false ∧ (∀ st, val q.2.2 st = .ok d st) ∧
    ∃ v, (∀ m H, RD X.K m H d v) ∧ ∀ a pn, PE (X.suite a pn) ce (tC v)
/-- the clauses' words -/
def hdTs (v : V) (i : Nat) : TS := fun D σ H => D.nx (σ.set i (some v)) H
theorem hd_run {q : Nat × Nat × IE} {h : ExceptHandler} {val : IE → Store → R D} (hN : X.N.Nodup) (o : HdOk X xv val h q) : ∃ (d : D) (v : V), (∀ st, val q.2.2 st = .ok d st) ∧ (∀ m H, RD X.K m H d v) ∧
    ∀ hds l, HdsOk X hds l → HdsOk X (h :: hds) ((xv q.1, fun _ _ _ => hdTs v q.2.1) :: l) := by
  obtain ⟨x, np, pos', spos, py, y, ce, d, rfl, hn, hi, hl, hf, hs, hv, v, rd, pe⟩ := o.ok
  refine ⟨d, v, hv, rd, fun hds l k => .cons hn (fun a oe cls dd pn _ _ => ?_) k⟩
  exact pss_one (ps_set (X := X.suite a ((a, oe) :: pn)) hN hi hl (pe a _) hs hf)
inductive Hds (X : Cx) (xv : Nat → Value) (val : IE → Store → R D) : List ExceptHandler → List (Nat × Nat × IE) → Prop
  | nil : Hds X xv val [] []
  | cons {h : ExceptHandler} {q : Nat × Nat × IE} {hs : List ExceptHandler} {qs : List (Nat × Nat × IE)} : HdOk X xv val h q → Hds X xv val hs qs → Hds X xv val (h :: hs) (q :: qs)
/-- the words of the clauses match what handle does -/
def HdW (K : PySem.W.Frag) (xv : Nat → Value) (val : IE → Store → R D) : List (Nat × Nat × IE) → List (Value × (Addr → Value → Option Addr → TS)) → Prop
  | [], l => l = []
  | q :: qs, l => ∃ (d : D) (v : V) (l' : List (Value × (Addr → Value → Option Addr → TS))), l = (xv q.1, fun _ _ _ => hdTs v q.2.1) :: l' ∧ (∀ st, val q.2.2 st = .ok d st) ∧ (∀ m H, RD K m H d v) ∧ HdW K xv val qs l'
theorem hds_run {val : IE → Store → R D} (hN : X.N.Nodup) : ∀ {hs : List ExceptHandler} {qs : List (Nat × Nat × IE)}, Hds X xv val hs qs → ∃ l, HdsOk X hs l ∧ HdW X.K xv val qs l
  | _, _, .nil => ⟨[], .nil, rfl⟩
  | _, _, .cons o r => by
    obtain ⟨l, k, w⟩ := hds_run hN r
    obtain ⟨d, v, hv, rd, go⟩ := hd_run hN o
    exact ⟨_, go _ l k, d, v, l, rfl, hv, rd, w⟩
theorem handle_at {K : PySem.W.Frag} {val : IE → Store → R D} {D : Ends} {nx ny : Nat} (hex : ∀ c x, c < ny → x < nx → PySem.W.exmOne K (xv c) (xv x) = some (x == c)) {m : Ms} {H : Hp} {σ : L2.St} {env : Env} {st : Store} (re : RE K m H env σ) (rs : RS K m H st) (c : Nat) (hcy : c < ny) :
    ∀ {qs : List (Nat × Nat × IE)} {l : List (Value × (Addr → Value → Option Addr → TS))}, (∀ q ∈ qs, q.1 < nx) → HdW K xv val qs l → PostS K xv W D m H (handle qs c env st fun e st => val e st) → wMany K W D l (xv c) none σ H
  | [], l, _, w, p => by
    have w : l = [] := w
    subst w
    exact p m H σ .refl re rs
  | q :: qs, l, hq, w, p => by
    obtain ⟨d, v, l', rfl, hv, rd, w⟩ := w
    refine ⟨q.1 == c, hex c q.1 hcy (hq q List.mem_cons_self), fun hb a _ => ?_, fun hb => ?_⟩
    · have e : q.1 = c := by simpa using hb
      obtain ⟨x, i, e'⟩ := q
      have p : PostS K xv W D m H (if x = c then (val e' st).st env fun d st => .next (env.set i (some d)) st else handle qs c env st fun e st => val e st) := p
      rw [if_pos e] at p
      have hv : val e' st = .ok d st := hv st
      rw [hv] at p
      exact p m H _ .refl (re.set i (rd m H)) rs
    · have e : ¬ q.1 = c := by simpa using hb
      obtain ⟨x, i, e'⟩ := q
      have p : PostS K xv W D m H (if x = c then (val e' st).st env fun d st => .next (env.set i (some d)) st else handle qs c env st fun e st => val e st) := p
      rw [if_neg e] at p
      exact handle_at hex re rs c hcy (fun q h => hq q (List.mem_cons_of_mem _ h)) w p
theorem s_try {h₀ : ExceptHandler} {hds : List ExceptHandler} {qs : List (Nat × Nat × IE)} {val : IE → Store → R D} {nx ny : Nat} (hN : X.N.Nodup) (hs : X.stack = X.env :: X.outer) (hf : X.env.frame = some X.env.locals) (tk : Takes X W)
    (hex : ∀ c x, c < ny → x < nx → PySem.W.exmOne X.K (xv c) (xv x) = some (x == c)) (hq : ∀ q ∈ qs, q.1 < nx)
    (hb : ∀ (W : WX) (pn : List (Addr × Obj)) (xe : Value → Shared → Prop), Takes (X.tr pn xe) W → PassesOwn (model X.prog X.w) X.A X.env xe → PSs (X.tr pn xe) sa (tSv X.K xv W u)) (hh : Hds X xv val (h₀ :: hds) qs) :
    PS X (.Try sa (h₀ :: hds) [] [] pos) (tSv X.K xv W fun env st => match u env st with
      | .exc x env st => if x < ny then handle qs x env st fun e st => val e st else .stuck
      | r => r) := by
  obtain ⟨l, k, w⟩ := hds_run hN hh
  refine PS.use (ps_try_many hs hf tk hb k) fun D0 σ H ⟨m, env, st, re, rs, p⟩ => ⟨m, env, st, re, rs, ?_⟩
  generalize hD : gd X.K D0 = D
  have p : PostS X.K xv W D m H (match u env st with
      | .exc x env st => if x < ny then handle qs x env st fun e st => val e st else .stuck
      | r => r) := hD ▸ PostS.good p
  revert p
  generalize u env st = r
  intro p
  cases r with
  | exc c env2 st2 =>
    have p : PostS X.K xv W D m H (if c < ny then handle qs c env2 st2 fun e st => val e st else .stuck) := p
    by_cases hc : c < ny
    · rw [if_pos hc] at p
      exact fun m' H' σ' L re rs => handle_at hex re rs c hc hq w (PostS.later L p)
    · rw [if_neg hc] at p
      exact p.elim
  | next env st => exact p
  | brk env st => exact p
  | cont env st => exact p
  | ret d st => exact p
  | stuck => exact p
end
end Ev

set_option Elab.async false
set_option linter.all false
set_option maxRecDepth 100000
set_option autoImplicit false
/-! Ev, part P: the checker. -/
namespace Ev
open PySem PySem.Spec PyProof.Rows L2

/-- names: the slots; the functions with the numbers of their arguments; constants; exception classes; built-ins that nothing hides -/
structure Tab where
  N : List Str
  fns : List (Str × Nat)
  glb : List Str
  exc : List Str
  free : List Str
  blt : List Str
  kws : List (List (List Str × List Nat))

def okN (x : Str) : Bool := !(x == ("__debug__" : Str)) && (!(x == ("__classdict__" : Str)) && decide (x ≠ "__name__"))
def glB (sc : Scope) (x : Str) : Bool := decide (sc.names.lookup x = some .globalImplicit)
def visB (sc : Scope) (x : Str) : Bool := decide (sc.names.lookup x = some .local) || (decide (sc.names.lookup x = some .cell) || decide (sc.names.lookup x = some .free))
def locB (sc sf : Scope) (x : Str) : Bool := decide (sc.names.lookup x = some .local) || (decide (sc.names.lookup x = some .cell) && decide (sf.names.lookup x = some .cell))
def binB : BO → Operator → Bool
  | .add, .Add => true
  | .sub, .Sub => true
  | .mul, .Mult => true
  | .fdiv, .FloorDiv => true
  | .mod, .Mod => true
  | .pow, .Pow => true
  | _, _ => false
def cmpB : CO → CmpOp → Bool
  | .eq, .Eq => true
  | .ne, .NotEq => true
  | .lt, .Lt => true
  | .le, .LtE => true
  | .gt, .Gt => true
  | .ge, .GtE => true
  | .is, .Is => true
  | .isnot, .IsNot => true
  | .in_, .In => true
  | .notin, .NotIn => true
  | _, _ => false
def biN : BI → Option String
  | .len => some "len"
  | .abs => some "abs"
  | .max => some "max"
  | .min => some "min"
  | .sum => some "sum"
  | .all => some "all"
  | .any => some "any"
  | .sorted => some "sorted"
  | _ => none
def tyNm : BI → Option String
  | .int => some "int"
  | .tuple => some "tuple"
  | .list => some "list"
  | _ => none
def biB (b : BI) (x : Str) : Bool := match biN b with
  | some n => decide (bootBuiltins x = some (.builtin n))
  | none => match tyNm b with
    | some n => decide (bootBuiltins x = some (.type n))
    | none => false
def biB2 (T : Tab) (b : BI) (x : Str) : Bool := if b = .gcd then T.blt.contains x else biB b x
def frB (T : Tab) (b : BI) (x : Str) : Bool := decide (b = .gcd) || T.free.contains x
def kwOk (T : Tab) (f : Nat) (x : Str) (p : List Nat) (m : Nat) (ks : List (Option Str)) : Bool := match T.fns[f]?, T.kws[f]? with
  | some (y, n), some l => decide (y = x) && (decide (p.length = n) && (p.all (fun i => decide (i < m)) && l.any fun q => decide (q.2 = p) && (decide (q.1.map some = ks) && decide (q.1.length = m))))
  | _, _ => false
def meN : MT → Option Str
  | .append => some ("append" : Str)
  | .extend => some ("extend" : Str)
  | .pop => some ("pop" : Str)
  | _ => none
def plainB : Expr → Bool
  | .Slice .. => false
  | _ => true
def notSet : Expr → Bool
  | .Set .. => false
  | _ => true
def notLc : Expr → Bool
  | .ListComp .. => false
  | .SetComp .. => false
  | .DictComp .. => false
  | _ => true
def notTup : Expr → Bool
  | .Tuple .. => false
  | _ => true
def isTup' : Expr → Bool
  | .Tuple .. => true
  | _ => false
def inB : Bool → CmpOp → Bool
  | false, .In => true
  | true, .NotIn => true
  | _, _ => false
def recvB : Expr → Bool
  | .Name .. => true
  | .Subscript .. => true
  | _ => false
def ownable : IE → Bool
  | .lst _ | .bin _ _ _ | .sl _ _ _ | .bi _ _ | .lc _ _ _ _ _ | .lc2 _ _ _ _ _ _ _ _ _ => true
  | _ => false
def ownP (N : List Str) (own : List Nat) : List (Str × Nat) := own.map fun i => ((N[i]?).getD default, i)
theorem ownP_map (N : List Str) (own : List Nat) : (ownP N own).map (·.2) = own := by simp [ownP, Function.comp_def]
mutual
def tgN : IE → List Nat
  | .v i => [i]
  | .tup es => tgNs es
  | _ => []
def tgNs : List IE → List Nat
  | [] => []
  | e :: r => tgN e ++ tgNs r
end
mutual
def chkG (T : Tab) (sc sf : Scope) : IE → Expr → Bool
  | .v i, e => (match e with
    | .Name x _ => decide (T.N[i]? = some x) && locB sc sf x
    | _ => false)
  | .tup es, e => (match e with
    | .Tuple xs _ _ => xs.all notStar && decide (xs.length = es.length) && chkGs T sc sf es xs
    | _ => false)
  | _, _ => false
def chkGs (T : Tab) (sc sf : Scope) : List IE → List Expr → Bool
  | [], xs => xs.isEmpty
  | e :: r, xs => (match xs with
    | x :: xs => chkG T sc sf e x && chkGs T sc sf r xs
    | [] => false)
end
def tysB (T : Tab) (sc : Scope) : List Ty → List Expr → Bool
  | [], xs => xs.isEmpty
  | t :: r, xs => (match xs with
    | .Name x _ :: xs => decide (bootBuiltins x = some (.type t.n)) && (T.free.contains x && (glB sc x && (okN x && tysB T sc r xs)))
    | _ => false)
def tyE (T : Tab) (sc : Scope) (ts : List Ty) : Expr → Bool
  | .Tuple xs _ _ => decide (ts ≠ []) && (decide (ts.length ≤ 1000) && tysB T sc ts xs)
  | .Name x p => (match ts with
    | [t] => tysB T sc [t] [.Name x p]
    | _ => false)
  | _ => false
mutual
def chkE (T : Tab) (sc sf : Scope) : IE → Expr → Bool
  | .non, e => (match e with
    | .Constant .none _ _ => true
    | _ => false)
  | .bl b, e => (match e with
    | .Constant (.bool b') _ _ => b' == b
    | _ => false)
  | .int i, e => (match e with
    | .Constant (.int j) _ _ => j == i
    | _ => false)
  | .str s, e => (match e with
    | .Constant (.str t) _ _ => decide (t = s)
    | _ => false)
  | .v i, e => (match e with
    | .Name x _ => decide (T.N[i]? = some x) && (visB sc x && okN x)
    | _ => false)
  | .gl i, e => (match e with
    | .Name x _ => decide (T.glb[i]? = some x) && (glB sc x && okN x)
    | _ => false)
  | .tup es, e => (match e with
    | .Tuple xs _ _ => decide (es.length ≤ 1000) && chkEs T sc sf es xs
    | _ => false)
  | .lst es, e => (match e with
    | .List xs _ => decide (es.length ≤ 1000) && chkEs T sc sf es xs
    | _ => false)
  | .own e', e => ownable e' && chkE T sc sf e' e
  | .bin o a b, e => (match e with
    | .BinOp x op y _ => binB o op && (chkE T sc sf a x && chkE T sc sf b y)
    | _ => false)
  | .neg a, e => (match e with
    | .UnaryOp .USub x _ => chkE T sc sf a x
    | _ => false)
  | .nt a, e => (match e with
    | .UnaryOp .Not x _ => chkE T sc sf a x
    | _ => false)
  | .and es, e => (match e with
    | .BoolOp .And xs _ => chkEs T sc sf es xs
    | _ => false)
  | .or es, e => (match e with
    | .BoolOp .Or xs _ => chkEs T sc sf es xs
    | _ => false)
  | .cmp o a b, e => (match e with
    | .Compare x [op] [y] _ => cmpB o op && (notSet y && (chkE T sc sf a x && chkE T sc sf b y))
    | _ => false)
  | .chain o p a b d, e => (match e with
    | .Compare x [op, op'] [y, z] _ => cmpB o op && (cmpB p op' && (notSet z && (chkE T sc sf a x && (chkE T sc sf b y && chkE T sc sf d z))))
    | _ => false)
  | .ife t a b, e => (match e with
    | .IfExp z x y _ => chkT T sc sf t z && (chkE T sc sf a x && chkE T sc sf b y)
    | _ => false)
  | .ix a i, e => (match e with
    | .Subscript x y _ => plainB y && (chkE T sc sf a x && chkE T sc sf i y)
    | _ => false)
  | .dnew, e => (match e with
    | .Dict [] [] _ => true
    | _ => false)
  | .dat a i, e => (match e with
    | .Subscript x y _ => plainB y && (chkE T sc sf a x && chkE T sc sf i y)
    | _ => false)
  | .din n i a, e => (match e with
    | .Compare x [op] [y] _ => inB n op && (notSet y && (chkE T sc sf i x && chkE T sc sf a y))
    | _ => false)
  | .dg2 a i z, e => (match e with
    | .Call (.Attribute o gn apos) [x, y] [] cpos => decide (gn = ("get" : Str)) && (recvB o && (decide (apos.endLine = cpos.line) && (notStar x && (notStar y && (chkE T sc sf a o && (chkE T sc sf i x && chkE T sc sf z y))))))
    | _ => false)
  | .sl a lo hi, e => (match e with
    | .Subscript x (.Slice l h none _) _ => chkE T sc sf a x && (chkO T sc sf lo l && chkO T sc sf hi h)
    | _ => false)
  | .slS a lo hi k, e => (match e with
    | .Subscript x (.Slice l h (some s) _) _ => chkE T sc sf a x && (chkO T sc sf lo l && (chkO T sc sf hi h && chkE T sc sf k s))
    | _ => false)
  | .call f es, e => (match e with
    | .Call (.Name x _) xs [] _ => decide (T.fns[f]? = some (x, es.length)) && (glB sc x && (okN x && (xs.all notStar && chkEs T sc sf es xs)))
    | _ => false)
  | .bi b es, e => (match e with
    | .Call (.Name x _) (z :: xs) [] _ => biB2 T b x && (frB T b x && (glB sc x && (okN x && ((z :: xs).all notStar && chkEs T sc sf es (z :: xs)))))
    | _ => false)
  | .me m r es, e => (match e with
    | .Call (.Attribute o name apos) xs [] cpos => decide (meN m = some name) && (recvB o && (decide (apos.endLine = cpos.line) && (decide (xs.length < 29) && (xs.all notStar && (chkE T sc sf r o && chkEs T sc sf es xs)))))
    | _ => false)
  | .isi e' ts, e => (match e with
    | .Call (.Name x _) [y, z] [] _ => decide (x = ("isinstance" : Str)) && (T.free.contains x && (glB sc x && (notStar y && (chkE T sc sf e' y && tyE T sc ts z))))
    | _ => false)
  | .lc elt own tg it ifs, e => (match e with
    | .ListComp elt' [⟨tg', it', ifs', n⟩] scope _ => decide (n = 0) && (blkC T.N sc scope (ownP T.N own) && (notSet it' && ((tgN tg).all (fun i => own.contains i) && (chkI T sc sf it tg' it' && (chkG T (relS scope sc) scope tg tg' && (chkTs T (relS scope sc) scope ifs ifs' && chkE T (relS scope sc) scope elt elt'))))))
    | _ => false)
  | .lc2 elt own own1 tg it ifs tg1 it1 ifs1, e => (match e with
    | .ListComp elt' [⟨tg', it', ifs', n⟩, ⟨tg1', it1', ifs1', n1⟩] scope _ => decide (n = 0) && (decide (n1 = 0) && (blkC T.N sc scope (ownP T.N own) && (notSet it' && (notSet it1' && ((tgN tg).all (fun i => own.contains i) && ((tgN tg1).all (fun i => own1.contains i) && (own1.all (fun i => own.contains i) && (chkI T sc sf it tg' it' && (chkG T (relS scope sc) scope tg tg' && (chkTs T (relS scope sc) scope ifs ifs' &&
        (chkI T (relS scope sc) scope it1 tg1' it1' && (chkG T (relS scope sc) scope tg1 tg1' && (chkTs T (relS scope sc) scope ifs1 ifs1' && chkE T (relS scope sc) scope elt elt')))))))))))))
    | _ => false)
  | .rng _, _ => false
  | .enum _, _ => false
  | .zip _ _, _ => false
  | .ezip _ _, _ => false
  | .lrng1 a, e => (match e with
    | .Call (.Name x _) [.Call (.Name x1 _) [y] [] _] [] _ => decide (x = ("list" : Str)) && (T.free.contains x && (glB sc x && (decide (x1 = ("range" : Str)) && (T.free.contains x1 && (glB sc x1 && (notStar y && chkE T sc sf a y))))))
    | _ => false)
  | .lrng2 a b, e => (match e with
    | .Call (.Name x _) [.Call (.Name x1 _) [y, z] [] _] [] _ => decide (x = ("list" : Str)) && (T.free.contains x && (glB sc x && (decide (x1 = ("range" : Str)) && (T.free.contains x1 && (glB sc x1 && (notStar y && (notStar z && (chkE T sc sf a y && chkE T sc sf b z))))))))
    | _ => false)
  | .lset e', e => (match e with
    | .Call (.Name x _) [.Call (.Name x1 _) [y] [] _] [] _ => decide (x = ("len" : Str)) && (T.free.contains x && (glB sc x && (decide (x1 = ("set" : Str)) && (T.free.contains x1 && (glB sc x1 && (notStar y && chkE T sc sf e' y))))))
    | _ => false)
  | .walk _, _ => false
  | .kcall f p es, e => (match e with
    | .Call (.Name x _) [] kws _ => kwOk T f x p es.length (kws.map (·.arg)) && (glB sc x && (okN x && chkKs T sc sf es kws))
    | _ => false)
  | .dget e' a b, e => (match e with
    | .Call (.Attribute (.Call (.Name x _) [y] [] _) gn apos) [z, w] [] cpos => decide (x = ("dict" : Str)) && (decide (gn = ("get" : Str)) && (T.free.contains x && (glB sc x && (notStar y && (notStar z && (notStar w && (decide (apos.endLine = cpos.line) && (chkE T sc sf e' y && (chkE T sc sf a z && chkE T sc sf b w)))))))))
    | _ => false)
def chkT (T : Tab) (sc sf : Scope) : IE → Expr → Bool
  | .nt a, e => (match e with
    | .UnaryOp .Not x _ => chkT T sc sf a x
    | _ => false)
  | .and es, e => (match e with
    | .BoolOp .And xs _ => chkTl T sc sf es xs
    | _ => false)
  | .or es, e => (match e with
    | .BoolOp .Or xs _ => chkTl T sc sf es xs
    | _ => false)
  | .cmp o a b, e => (match e with
    | .Compare x [op] [y] _ => cmpB o op && (notSet y && (chkE T sc sf a x && chkE T sc sf b y))
    | _ => false)
  | .chain o p a b d, e => (match e with
    | .Compare x [op, op'] [y, z] _ => cmpB o op && (cmpB p op' && (notSet z && (chkE T sc sf a x && (chkE T sc sf b y && chkE T sc sf d z))))
    | _ => false)
  | .v i, e => (match e with
    | .Name x _ => decide (T.N[i]? = some x) && (visB sc x && okN x)
    | _ => false)
  | .call f es, e => (match e with
    | .Call (.Name x _) xs [] _ => decide (T.fns[f]? = some (x, es.length)) && (glB sc x && (okN x && (xs.all notStar && chkEs T sc sf es xs)))
    | _ => false)
  | .bi b es, e => (match e with
    | .Call (.Name x _) (z :: xs) [] _ => biB2 T b x && (frB T b x && (glB sc x && (okN x && ((z :: xs).all notStar && chkEs T sc sf es (z :: xs)))))
    | _ => false)
  | .isi e' ts, e => (match e with
    | .Call (.Name x _) [y, z] [] _ => decide (x = ("isinstance" : Str)) && (T.free.contains x && (glB sc x && (notStar y && (chkE T sc sf e' y && tyE T sc ts z))))
    | _ => false)
  | .ix a i, e => (match e with
    | .Subscript x y _ => plainB y && (chkE T sc sf a x && chkE T sc sf i y)
    | _ => false)
  | .bl b, e => (match e with
    | .Constant (.bool b') _ _ => b' == b
    | _ => false)
  | .din n i a, e => (match e with
    | .Compare x [op] [y] _ => inB n op && (notSet y && (chkE T sc sf i x && chkE T sc sf a y))
    | _ => false)
  | _, _ => false
def chkTl (T : Tab) (sc sf : Scope) : List IE → List Expr → Bool
  | [], xs => xs.isEmpty
  | e :: r, xs => (match xs with
    | x :: xs => chkT T sc sf e x && chkTl T sc sf r xs
    | [] => false)
def chkTs (T : Tab) (sc sf : Scope) : List IE → List Expr → Bool
  | [], xs => xs.isEmpty
  | e :: r, xs => (match xs with
    | [x] => r.isEmpty && chkT T sc sf e x
    | _ => false)
def chkEs (T : Tab) (sc sf : Scope) : List IE → List Expr → Bool
  | [], xs => xs.isEmpty
  | e :: r, xs => (match xs with
    | x :: xs => notStar x && (chkE T sc sf e x && chkEs T sc sf r xs)
    | [] => false)
def chkKs (T : Tab) (sc sf : Scope) : List IE → List Keyword → Bool
  | [], ks => ks.isEmpty
  | e :: r, ks => (match ks with
    | ⟨_, x, _⟩ :: ks => chkE T sc sf e x && chkKs T sc sf r ks
    | [] => false)
def chkO (T : Tab) (sc sf : Scope) : List IE → Option Expr → Bool
  | [], x => x.isNone
  | e :: r, x => (match x with
    | some x => r.isEmpty && chkE T sc sf e x
    | none => false)
def chkI (T : Tab) (sc sf : Scope) : IE → Expr → Expr → Bool
  | .rng es, _, e => (match e with
    | .Call (.Name x _) xs [] _ => decide (x = ("range" : Str)) && (T.free.contains x && (glB sc x && (decide (1 ≤ xs.length) && (decide (xs.length ≤ 3) && (xs.all notStar && chkEs T sc sf es xs)))))
    | _ => false)
  | .enum e', tg, e => (match e with
    | .Call (.Name x _) [y] [] _ => decide (x = ("enumerate" : Str)) && (T.free.contains x && (glB sc x && (isTup' tg && (notStar y && chkE T sc sf e' y))))
    | _ => false)
  | .zip a b, tg, e => (match e with
    | .Call (.Name x _) [y, z] [] _ => decide (x = ("zip" : Str)) && (T.free.contains x && (glB sc x && (isTup' tg && (notStar y && (notStar z && (chkE T sc sf a y && chkE T sc sf b z))))))
    | _ => false)
  | .walk e', _, e => chkE T sc sf e' e
  | .ezip a b, tg, e => (match e with
    | .Call (.Name x0 _) [.Call (.Name x _) [y, z] [] _] [] _ => decide (x0 = ("enumerate" : Str)) && (T.free.contains x0 && (glB sc x0 && (decide (x = ("zip" : Str)) && (T.free.contains x && (glB sc x && (isTup' tg && (notStar y && (notStar z && (chkE T sc sf a y && chkE T sc sf b z)))))))))
    | _ => false)
  | _, _, _ => false
end
end Ev

set_option Elab.async false
set_option linter.all false
set_option maxRecDepth 100000
set_option autoImplicit false
/-! Ev, part Q: what the checker lets pass is so: expressions. -/
namespace Ev
open PySem PySem.Spec PyProof.Rows L2

/-- what a law's world gives -/
structure CtxB (T : Tab) (xv : Nat → Value) (c : Cfg) (X : Cx) : Prop where
  N : X.N = T.N
  nd : X.N.Nodup
  un : X.A.units + 64 < cLine
  calm : X.calm = true
  fns : ∀ (f : Nat) (x : Str) (n : Nat), T.fns[f]? = some (x, n) → ∃ (k : Nat) (fa : Addr) (fd : FuncData) (ps : List Str), FnOk X.prog X.w X.K X.mg X.base (L2.CX X.prog X.w) k fa fd ps (spD X.K xv n (c.call f)) ∧ Room k X.A ∧ X.mg x = some (.ref fa) ∧ PySem.W.keepIn X.K (.ref fa) = true ∧ BindsB T.kws[f]? X.K fd ps
  free : ∀ x ∈ T.free, X.mg x = none
  blt : ∀ x ∈ T.blt, X.mg x = some (.builtin "math.gcd")
  glob : ∀ (i : Nat) (x : Str), T.glb[i]? = some x → ∀ d, c.glob[i]? = some d → ∃ v u, X.mg x = some u ∧ RelV v u ∧ ∀ m H, RD X.K m H d v
structure CtxE (T : Tab) (xv : Nat → Value) (c : Cfg) (X : Cx) (W : WX) (sc sf : Scope) : Prop extends CtxB T xv c X where
  sc_ : X.env.scope = sc
  sf_ : ∀ x, sf.names.lookup x = some .cell → X.fn x = true
  tk : Takes X W
section
variable {T : Tab} {xv : Nat → Value} {c : Cfg} {X : Cx} {W : WX} {sc sf : Scope}
theorem CtxE.blk (C : CtxE T xv c X W sc sf) (scope : Scope) (s : Shared) (H : Hp) (A : Addr) (cl : List (Str × Addr)) (fp : List Addr) : CtxE T xv c (X.blk s H scope (compEnvC scope cl A X.env) fp) WF (relS scope sc) scope :=
  { N := C.N, nd := C.nd, un := C.un, calm := C.calm, fns := C.fns, free := C.free, blt := C.blt, glob := C.glob
    sc_ := by rw [← C.sc_]; rfl
    sf_ := fun x h => by show (scope.names.lookup x == some .cell) = true; rw [h]; rfl
    tk := fun u s' ⟨a, B, sI, pins, σ, H, cls, d, e, I, nb, up, sky, na, os, ag, w⟩ => w }
theorem CtxB.fr (C : CtxB T xv c X) {x : Str} (h : T.free.contains x = true) : X.mg x = none := C.free x (by simpa using h)
theorem CtxE.gl (C : CtxE T xv c X W sc sf) {x : Str} (h : glB sc x = true) : Gl X x := by
  unfold Gl Env.kindOf
  rw [C.sc_]
  simpa [glB] using h
theorem CtxE.vis (C : CtxE T xv c X W sc sf) {x : Str} (h : visB sc x = true) : L2.Vis X.env.scope x := by
  rw [C.sc_]
  simpa [visB, L2.Vis] using h
theorem CtxE.loc (C : CtxE T xv c X W sc sf) {x : Str} (h : locB sc sf x = true) : L2.Loc X.env.scope x ∧ (X.fn x = true ∨ X.env.scope.names.lookup x = some .local) := by
  rw [C.sc_]
  simp only [locB, Bool.or_eq_true, Bool.and_eq_true, decide_eq_true_eq] at h
  rcases h with h | ⟨h, k⟩
  · exact ⟨.inl h, .inr h⟩
  · exact ⟨.inr h, .inl (C.sf_ x k)⟩
theorem okN_db {x : Str} (h : okN x = true) : (x == ("__debug__" : Str)) = false ∧ (x == ("__classdict__" : Str)) = false ∧ x ≠ "__name__" := by
  simpa [okN] using h
theorem plain_ok {b : Expr} (h : plainB b = true) : PlainIx b := by
  cases b <;> first | (intro o i; rfl) | simp [plainB] at h
theorem nosl_ok {b : Expr} (h : plainB b = true) : NoSl b := by
  cases b <;> first | (intro o i; rfl) | simp [plainB] at h
theorem in_ok {n : Bool} {op : CmpOp} (h : inB n op = true) : op = if n = true then .NotIn else .In := by
  cases n <;> cases op <;> first | rfl | simp [inB] at h
theorem nomark_in {n : Bool} {op : CmpOp} {y : Expr} (h : inB n op = true) (hy : notSet y = true) : behindInMarks op y = false := by
  cases n <;> cases op <;> first | (cases y <;> first | rfl | simp [notSet] at hy) | simp [inB] at h
theorem set_ok {e : Expr} (h : notSet e = true) (env : PySem.Env) (x : Value) : foldedSetIterable e env x = pure x := by
  cases e <;> first | rfl | simp [notSet] at h
theorem bin_ok {o : BO} {op : Operator} (h : binB o op = true) : OpE X xv W (binaryOp op) (binD o) := by
  cases o <;> cases op <;> first | (exact Bool.noConfusion (show false = true from h)) | skip
  · exact opE_add
  · exact opE_sub
  · exact opE_mul
  · exact opE_fdiv
  · exact opE_mod
  · exact opE_pow
theorem cmp_ok (C : CtxB T xv c X) {o : CO} {op : CmpOp} (h : cmpB o op = true) : CmpE X op o := by
  cases o <;> cases op <;> first | (exact Bool.noConfusion (show false = true from h)) | skip
  · exact cmpE_eq C.un
  · exact cmpE_ne C.un
  · exact cmpE_lt
  · exact cmpE_le
  · exact cmpE_gt
  · exact cmpE_ge
  · exact cmpE_is
  · exact cmpE_isnot
  · exact cmpE_in C.un
  · exact cmpE_notin C.un
theorem nomark {o : CO} {op : CmpOp} (h : cmpB o op = true) {e : Expr} (hs : notSet e = true) : behindInMarks op e = false := by
  cases o <;> cases op <;> first | (exact Bool.noConfusion (show false = true from h)) | (cases e <;> first | rfl | (simp [notSet] at hs))
theorem base_ok {o : Expr} (h : recvB o = true) (name : Str) (env : PySem.Env) (w : Sem Value) : attributeBase o name env w = w := by
  cases o <;> first | rfl | simp [recvB] at h
theorem bi_ok (C : CtxB T xv c X) {b : BI} {n : String} (h : biN b = some n) : BiE X xv W (.builtin n) (biD b) := by
  cases b <;> simp only [biN, Option.some.injEq, reduceCtorEq] at h <;> subst h
  · exact bi_len
  · exact bi_abs
  · exact bi_max C.calm
  · exact bi_min C.calm C.un
  · exact bi_sum C.calm
  · exact bi_all C.calm
  · exact bi_any C.calm
  · exact bi_sorted C.un
theorem biT_ok (C : CtxB T xv c X) {b : BI} {n : String} (h : tyNm b = some n) : BiE X xv W (.type n) (biD b) := by
  cases b <;> simp only [tyNm, Option.some.injEq, reduceCtorEq] at h <;> subst h
  · exact bi_int
  · exact bi_tuple
  · exact bi_list
theorem e_stuck {e : Expr} : PE X e (tEv X.K xv W fun _ _ => .stuck) := ⟨fun pins s σ H Q I ⟨m, env, st, re, rs, p⟩ => p.elim⟩
theorem evAs_len : ∀ (es : List IE) (env : Env) (st : Store) (ds : List D) (st' : Store), evAs c es env st = .ok ds st' → ds.length = es.length
  | [], env, st, ds, st', h => by
    have h : R.ok [] st = R.ok ds st' := h
    cases h
    rfl
  | e :: r, env, st, ds, st', h => by
    have h : ((evE c e env st).bind fun d st => (evAs c r env st).bind fun ds st => .ok (d :: ds) st) = R.ok ds st' := h
    revert h
    generalize evE c e env st = q
    intro h
    cases q with
    | ok d st1 =>
      have h : ((evAs c r env st1).bind fun ds st => .ok (d :: ds) st) = R.ok ds st' := h
      revert h
      generalize e1 : evAs c r env st1 = q
      intro h
      cases q with
      | ok l st2 =>
        have h : R.ok (d :: l) st2 = R.ok ds st' := h
        cases h
        exact congrArg (· + 1) (evAs_len r env st1 l _ e1)
      | exc c s => cases h
      | stuck => cases h
    | exc c s => cases h
    | stuck => cases h
theorem tys_ok (C : CtxE T xv c X W sc sf) : ∀ (ts : List Ty) (xs : List Expr), tysB T sc ts xs = true → xs.length = ts.length ∧ ∀ (i : Nat) (t : Ty) (e : Expr), ts[i]? = some t → xs[i]? = some e → PE X e (tC (.ty (Ty.n t))) ∧ notStar e = true
  | [], xs, h => by
    cases xs with
    | nil => exact ⟨rfl, fun i t e a => by simp at a⟩
    | cons x xs => simp [tysB] at h
  | t :: ts, xs, h => by
    simp only [tysB] at h
    split at h
    · rename_i x p xs
      simp only [Bool.and_eq_true, decide_eq_true_eq] at h
      obtain ⟨h1, h2, h3, h4, h5⟩ := h
      obtain ⟨l, r⟩ := tys_ok C ts xs h5
      refine ⟨congrArg (· + 1) l, fun i t' e a b => ?_⟩
      cases i with
      | zero =>
        simp only [List.getElem?_cons_zero, Option.some.injEq] at a b
        subst a b
        obtain ⟨o1, o2, o3⟩ := okN_db h4
        exact ⟨e_tyName (C.gl h3) (C.fr h2) h1 o3 o1, rfl⟩
      | succ i => exact r i t' e (by simpa using a) (by simpa using b)
    · cases h
theorem tyE_ok (C : CtxE T xv c X W sc sf) {ts : List Ty} {a z : Expr} {x : Str} {p pos : Pos} {f : Env → Store → R D} (hx : x = ("isinstance" : Str)) (hf : X.mg x = none) (hg : Gl X x) (hs : notStar a = true) (ha : PE X a (tEv X.K xv W f)) (h : tyE T sc ts z = true) :
    PE X (.Call (.Name x p) [a, z] [] pos) (tEv X.K xv W fun env st => (f env st).bind fun d st => .ofO (isiD ts d st) fun b => .ok (.bl b) st) := by
  cases z <;> simp only [tyE, Bool.false_eq_true] at h
  case Name y py =>
    split at h
    · rename_i t
      simp only [tysB, Bool.and_eq_true, decide_eq_true_eq] at h
      obtain ⟨h1, h2, h3, h4, _⟩ := h
      obtain ⟨o1, o2, o3⟩ := okN_db h4
      exact e_isi1 hg hf hx (C.gl h3) (C.fr h2) h1 o3 o1 ha hs
    · cases h
  case Tuple xs k py =>
    simp only [Bool.and_eq_true, decide_eq_true_eq] at h
    obtain ⟨h0, h1, h2⟩ := h
    exact e_isiT hg hf hx h0 h1 (tys_ok C ts xs h2) ha hs
theorem assignEach_len (env : PySem.Env) : ∀ xs : List Expr, (assignEach xs env).length = xs.length
  | [] => rfl
  | x :: xs => by cases x <;> exact congrArg (· + 1) (assignEach_len env xs)
theorem assignEach_star (env : PySem.Env) : ∀ xs : List Expr, xs.all notStar = true → (assignEach xs env).findIdx? (·.1) = none
  | [], _ => rfl
  | x :: xs, h => by
    simp only [List.all_cons, Bool.and_eq_true] at h
    have ih := assignEach_star env xs h.2
    have e : assignEach (x :: xs) env = (false, assign x env) :: assignEach xs env := by
      cases x <;> first | rfl | simp [notStar] at h
    rw [e, List.findIdx?_cons]
    simp [ih]
theorem assignEach_cons {x : Expr} {xs : List Expr} {env : PySem.Env} (h : notStar x = true) : (assignEach (x :: xs) env).map (·.2) = assign x env :: (assignEach xs env).map (·.2) := by
  cases x <;> first | rfl | simp [notStar] at h
theorem evGs_nil : evGs c [] = fun ds env st => match ds with | [] => .ok env st | _ => .stuck := by
  funext ds env st
  cases ds <;> rfl
theorem evGs_cons (e : IE) (r : List IE) : evGs c (e :: r) = fun ds env st => match ds with | d :: ds => (evG c e d env st).bind fun env st => evGs c r ds env st | _ => .stuck := by
  funext ds env st
  cases ds <;> rfl
mutual
theorem ckG (C : CtxE T xv c X W sc sf) : ∀ (ie : IE) (e : Expr), chkG T sc sf ie e = true → PG X e (tGv X.K (tgN ie) (evG c ie))
  | .v i, e, h => by
    simp only [chkG] at h
    split at h
    · rename_i x p
      simp only [Bool.and_eq_true, decide_eq_true_eq] at h
      obtain ⟨h1, h2⟩ := C.loc h.2
      exact g_name C.nd (by rw [C.N]; exact h.1) h1 h2
    · cases h
  | .tup es, e, h => by
    simp only [chkG] at h
    split at h
    · rename_i xs k p
      simp only [Bool.and_eq_true, decide_eq_true_eq] at h
      obtain ⟨⟨h1, h2⟩, h3⟩ := h
      exact g_tup C.calm (ckGs C es xs h1 h3) (by rw [assignEach_len, h2]) (assignEach_star _ _ h1)
    · cases h
  | .non, _, h | .bl _, _, h | .int _, _, h | .str _, _, h | .gl _, _, h | .lst _, _, h | .own _, _, h | .bin _ _ _, _, h | .neg _, _, h | .nt _, _, h | .and _, _, h | .or _, _, h | .cmp _ _ _, _, h | .chain _ _ _ _ _, _, h | .ife _ _ _, _, h | .ix _ _, _, h
  | .sl _ _ _, _, h | .slS _ _ _ _, _, h | .call _ _, _, h | .bi _ _, _, h | .me _ _ _, _, h | .isi _ _, _, h | .lc _ _ _ _ _, _, h | .lc2 _ _ _ _ _ _ _ _ _, _, h | .rng _, _, h | .enum _, _, h | .zip _ _, _, h | .walk _, _, h | .ezip _ _, _, h | .lset _, _, h | .lrng1 _, _, h | .lrng2 _ _, _, h | .kcall _ _ _, _, h | .dget _ _ _, _, h | .dnew, _, h | .dat _ _, _, h | .din _ _ _, _, h | .dg2 _ _ _, _, h => by simp [chkG] at h
theorem ckGs (C : CtxE T xv c X W sc sf) : ∀ (es : List IE) (xs : List Expr), xs.all notStar = true → chkGs T sc sf es xs = true → PGs X xs (tGvs X.K (tgNs es) (evGs c es))
  | [], xs, _, h => by
    cases xs with
    | nil =>
      rw [evGs_nil]
      exact gs_nil
    | cons x xs => simp [chkGs] at h
  | e :: r, xs, hs, h => by
    cases xs with
    | nil => simp [chkGs] at h
    | cons x xs =>
      simp only [chkGs, Bool.and_eq_true] at h
      simp only [List.all_cons, Bool.and_eq_true] at hs
      rw [evGs_cons]
      exact gs_cons (ckG C e x h.1) (ckGs C r xs hs.2 h.2) (assignEach_cons hs.1)
end
end
end Ev

set_option Elab.async false
set_option linter.all false
set_option maxRecDepth 100000
set_option autoImplicit false
/-! Ev, part R: what the checker lets pass is so: expressions. -/
namespace Ev
open PySem PySem.Spec PyProof.Rows L2
section
variable {T : Tab} {xv : Nat → Value} {c : Cfg}
/-- both readings -/
abbrev Both (X : Cx) (xv : Nat → Value) (W : WX) (ie : IE) (e : Expr) (f : Env → Store → R D) : Prop :=
  PE X e (tEv X.K xv W f) ∧ (ownable ie = true → PE X e (tEv X.K xv W fun env st => (f env st).bind ownD))
theorem evE_lrng1 (c : Cfg) (a : IE) : evE c (.lrng1 a) = fun env st => (evE c a env st).bind fun x st => .ofO (lrg (.int 0) x) fun l => .ok (.lst l) st := by
  funext env st
  simp only [evE]
theorem evE_lrng2 (c : Cfg) (a b : IE) : evE c (.lrng2 a b) = fun env st => (evE c a env st).bind fun x st => (evE c b env st).bind fun y st => .ofO (lrg x y) fun l => .ok (.lst l) st := by
  funext env st
  simp only [evE]
theorem evE_kcall (c : Cfg) (f : Nat) (p : List Nat) (es : List IE) : evE c (.kcall f p es) = fun env st => (evAs c es env st).bind fun ds st => c.call f (permL p ds) st := by
  funext env st
  simp only [evE]
theorem evE_dget (c : Cfg) (e a b : IE) : evE c (.dget e a b) = fun env st => (evE c e env st).bind fun x st => .ofO ((listItems st x).bind pairsD) fun ps => (evE c a env st).bind fun y st => (evE c b env st).bind fun z st => dgetD ps y z st := by
  funext env st
  simp only [evE]
theorem evE_dnew' (c : Cfg) : evE c .dnew = fun _ st => .ok (.ref st.length) (st ++ [.dk []]) := by
  funext env st
  simp only [evE]
theorem evE_dat' (c : Cfg) (a i : IE) : evE c (.dat a i) = fun env st => (evE c a env st).bind fun x st => (evE c i env st).bind fun y st => .ofO (datD x y st) fun d => .ok d st := by
  funext env st
  simp only [evE]
theorem evE_din' (c : Cfg) (n : Bool) (i a : IE) : evE c (.din n i a) = fun env st => (evE c i env st).bind fun y st => (evE c a env st).bind fun x st => .ofO (dinD x y st) fun b => .ok (.bl (b != n)) st := by
  funext env st
  simp only [evE]
theorem evT_din' (c : Cfg) (n : Bool) (i a : IE) : evT c (.din n i a) = fun env st => (evE c i env st).bind fun y st => (evE c a env st).bind fun x st => .ofO (dinD x y st) fun b => .ok (b != n) st := by
  funext env st
  simp only [evT]
theorem evE_dg2' (c : Cfg) (a i z : IE) : evE c (.dg2 a i z) = fun env st => (evE c a env st).bind fun x st => .ofO (dkOf st x) fun _ => (evE c i env st).bind fun y st => (evE c z env st).bind fun w st => .ofO (dg2D x y w st) fun d => .ok d st := by
  funext env st
  simp only [evE]
theorem evE_lset (c : Cfg) (a : IE) : evE c (.lset a) = fun env st => (evE c a env st).bind fun d st => .ofO (setLen st d) fun n => .ok (.int n) st := by
  funext env st
  simp only [evE]
theorem both1 {X : Cx} {W : WX} {ie : IE} {e : Expr} {f : Env → Store → R D} (h : PE X e (tEv X.K xv W f)) (ho : ownable ie = false) : Both X xv W ie e f := ⟨h, fun z => by rw [ho] at z; cases z⟩
theorem meN_app {m : MT} {name : Str} (h : meN m = some name) : (m = .append ∧ name = ("append" : Str)) ∨ (m = .extend ∧ name = ("extend" : Str)) ∨ (m = .pop ∧ name = ("pop" : Str)) := by
  cases m <;> simp only [meN, Option.some.injEq, reduceCtorEq] at h <;> subst h <;> simp
theorem me_ok {X : Cx} {W : WX} {m : MT} {name : Str} {o : Expr} {es : List IE} {xs : List Expr} {apos cpos : Pos} {f : Env → Store → R D} (h : meN m = some name) (ho : PE X o (tEv X.K xv W f)) (ha : PA X xs (tAv X.K xv W (evAs c es)))
    (hr : recvB o = true) (hl : apos.endLine = cpos.line) (hf : xs.length < 29) (hs : xs.all notStar = true) (hle : xs.length = es.length) :
    PE X (.Call (.Attribute o name apos) xs [] cpos) (tEv X.K xv W fun env st => ((f env st).bind fun x st => .ofO (ownL st x) fun _ => .ok x st).bind fun x st => (evAs c es env st).bind fun ds st => meD m x ds st) := by
  have hl' : (apos.endLine == cpos.line) = true := by rw [hl]; exact beq_self_eq_true _
  cases xs with
  | nil =>
    cases es with
    | cons e es => simp at hle
    | nil =>
      rcases meN_app h with ⟨rfl, rfl⟩ | ⟨rfl, rfl⟩ | ⟨rfl, rfl⟩
      · exact e_me0 me_append PySem.slot_list_append PySem.type_list_append ho (base_ok hr _ _ _) hl'
      · exact e_me0 me_extend PySem.F.slot_list_extend PySem.F.type_list_extend ho (base_ok hr _ _ _) hl'
      · exact e_me0 me_pop PySem.F.slot_list_pop PySem.F.type_list_pop ho (base_ok hr _ _ _) hl'
  | cons x xs =>
    have hf' : (x :: xs).length + 1 < 30 := by omega
    rcases meN_app h with ⟨rfl, rfl⟩ | ⟨rfl, rfl⟩ | ⟨rfl, rfl⟩
    · exact e_me me_append PySem.slot_list_append PySem.type_list_append ho ha (base_ok hr _ _ _) hf' hl' hs
    · exact e_me me_extend PySem.F.slot_list_extend PySem.F.type_list_extend ho ha (base_ok hr _ _ _) hf' hl' hs
    · exact e_me me_pop PySem.F.slot_list_pop PySem.F.type_list_pop ho ha (base_ok hr _ _ _) hf' hl' hs
theorem call_ok {X : Cx} {W : WX} {sc sf : Scope} {f : Nat} {x : Str} {es : List IE} {xs : List Expr} {p pos : Pos} (C : CtxE T xv c X W sc sf) (h : T.fns[f]? = some (x, es.length)) (hg : glB sc x = true) (hx : okN x = true) (hs : xs.all notStar = true) (hl : xs.length = es.length)
    (ha : PA X xs (tAv X.K xv W (evAs c es))) : PE X (.Call (.Name x p) xs [] pos) (tEv X.K xv W fun env st => (evAs c es env st).bind fun ds st => c.call f ds st) := by
  obtain ⟨k, fa, fd, ps, F, hr, hm, hk, hb⟩ := C.fns f x _ h
  obtain ⟨o1, o2, o3⟩ := okN_db hx
  cases xs with
  | nil =>
    cases es with
    | cons e es => simp at hl
    | nil => exact e_call0 F hr C.tk (C.gl hg) hm hk hb.1 o1
  | cons y ys => exact e_call F hr C.tk (C.gl hg) hm hk hb.1 ha (evAs_len es) o1 hs
theorem bi_ok2 {X : Cx} {W : WX} {sc sf : Scope} {b : BI} {x : Str} {es : List IE} {z : Expr} {xs : List Expr} {p pos : Pos} (C : CtxE T xv c X W sc sf) (h : biB2 T b x = true) (hf : frB T b x = true) (hg : glB sc x = true) (hx : okN x = true) (hs : (z :: xs).all notStar = true)
    (ha : PA X (z :: xs) (tAv X.K xv W (evAs c es))) : Both X xv W (.bi b es) (.Call (.Name x p) (z :: xs) [] pos) fun env st => (evAs c es env st).bind fun ds st => biD b ds st := by
  obtain ⟨o1, o2, o3⟩ := okN_db hx
  by_cases hgc : b = .gcd
  · subst hgc
    have h : T.blt.contains x = true := by simpa [biB2] using h
    have hm := C.blt x (by simpa using h)
    exact ⟨e_bfun bi_gcd (C.gl hg) hm o1 ha hs, fun _ => e_bfunOwn bi_gcd (C.gl hg) hm o1 ha hs⟩
  have h : biB b x = true := by simpa [biB2, hgc] using h
  have hf : T.free.contains x = true := by simpa [frB, hgc] using hf
  unfold biB at h
  cases e1 : biN b with
  | some n =>
    rw [e1] at h
    have h : bootBuiltins x = some (.builtin n) := by simpa using h
    exact ⟨e_bi (bi_ok C.toCtxB e1) (C.gl hg) (C.fr hf) h o3 o1 ha hs, fun _ => e_biOwn (bi_ok C.toCtxB e1) (C.gl hg) (C.fr hf) h o3 o1 ha hs⟩
  | none =>
    rw [e1] at h
    cases e2 : tyNm b with
    | some n =>
      rw [e2] at h
      have h : bootBuiltins x = some (.type n) := by simpa using h
      exact ⟨e_ty (biT_ok C.toCtxB e2) (C.gl hg) (C.fr hf) h o3 o1 ha hs, fun _ => e_tyOwn (biT_ok C.toCtxB e2) (C.gl hg) (C.fr hf) h o3 o1 ha hs⟩
    | none =>
      rw [e2] at h
      cases h
theorem kcall_ok {X : Cx} {W : WX} {sc sf : Scope} {f : Nat} {x : Str} {pm : List Nat} {es : List IE} {kws : List Keyword} {p pos : Pos} (C : CtxE T xv c X W sc sf) (h : kwOk T f x pm es.length (kws.map (·.arg)) = true) (hg : glB sc x = true) (hx : okN x = true)
    (ha : PK X kws (tAv X.K xv W (evAs c es))) : PE X (.Call (.Name x p) [] kws pos) (tEv X.K xv W fun env st => (evAs c es env st).bind fun ds st => c.call f (permL pm ds) st) := by
  unfold kwOk at h
  split at h
  · rename_i y n l e1 e2
    simp only [Bool.and_eq_true, decide_eq_true_eq, List.any_eq_true, List.all_eq_true] at h
    obtain ⟨rfl, h1, h2, q, hq, h3, h4, h5⟩ := h
    obtain ⟨k, fa, fd, ps, F, hr, hm, hk, hb⟩ := C.fns f y _ e1
    obtain ⟨o1, o2, o3⟩ := okN_db hx
    have kb := hb.2 l e2 q hq
    rw [h3] at kb
    exact e_kcall F hr C.tk (C.gl hg) hm hk kb ha (fun env st ds st' e => by rw [h5]; exact evAs_len es env st ds st' e) o1 h4.symm h1 (fun i hi => by rw [h5]; exact h2 i hi)
  · cases h
theorem rng_ok {X : Cx} {W : WX} {sc sf : Scope} {x : Str} {es : List IE} {xs : List Expr} {p pos : Pos} {tg : Expr} (C : CtxE T xv c X W sc sf) (hx : x = ("range" : Str)) (hf : T.free.contains x = true) (hg : glB sc x = true) (h1 : 1 ≤ xs.length) (h3 : xs.length ≤ 3) (hs : xs.all notStar = true) (hl : xs.length = es.length)
    (ha : PA X xs (tAv X.K xv W (evAs c es))) : PI X tg (.Call (.Name x p) xs [] pos) (tIv X.K xv W fun env st => (evAs c es env st).bind fun ds st => .ofO (rngOf ds) fun s => .ok s st) := by
  subst hx
  have hm := C.fr hf
  have hg := C.gl hg
  match xs, hs, h1, h3, hl, ha with
  | [a], hs, _, _, hl, ha =>
    simp only [List.all_cons, Bool.and_eq_true] at hs
    exact i_rng1 hg hm ha hs.1 fun env st ds st' e => (evAs_len es env st ds st' e).trans hl.symm
  | [a, b], hs, _, _, hl, ha =>
    simp only [List.all_cons, Bool.and_eq_true] at hs
    exact i_rng2 hg hm ha hs.1 hs.2.1 fun env st ds st' e => (evAs_len es env st ds st' e).trans hl.symm
  | [a, b, d], hs, _, _, hl, ha =>
    simp only [List.all_cons, Bool.and_eq_true] at hs
    exact i_rng3 hg hm ha hs.1 hs.2.1 hs.2.2.1 fun env st ds st' e => (evAs_len es env st ds st' e).trans hl.symm
theorem istup {e : Expr} (h : isTup' e = true) : ∃ xs k p, e = .Tuple xs k p := by
  cases e <;> first | exact ⟨_, _, _, rfl⟩ | simp [isTup'] at h
theorem contains_all {a b : List Nat} (h : a.all (fun i => b.contains i) = true) : ∀ i ∈ a, i ∈ b := fun i hi => by
  rw [List.all_eq_true] at h
  simpa using h i hi
set_option maxHeartbeats 3000000 in
mutual
theorem ckE : ∀ (ie : IE) {X : Cx} {W : WX} {sc sf : Scope} {e : Expr}, CtxE T xv c X W sc sf → chkE T sc sf ie e = true → Both X xv W ie e (evE c ie)
  | .non, X, W, sc, sf, e, C, h => by
    simp only [chkE] at h
    split at h
    · exact both1 e_non rfl
    · cases h
  | .bl b, X, W, sc, sf, e, C, h => by
    simp only [chkE] at h
    split at h
    · have h := eq_of_beq h
      subst h
      exact both1 e_bl rfl
    · cases h
  | .int b, X, W, sc, sf, e, C, h => by
    simp only [chkE] at h
    split at h
    · have h := eq_of_beq h
      subst h
      exact both1 e_int rfl
    · cases h
  | .str b, X, W, sc, sf, e, C, h => by
    simp only [chkE] at h
    split at h
    · simp only [decide_eq_true_eq] at h
      subst h
      exact both1 e_str rfl
    · cases h
  | .v i, X, W, sc, sf, e, C, h => by
    simp only [chkE] at h
    split at h
    · simp only [Bool.and_eq_true, decide_eq_true_eq] at h
      obtain ⟨h1, h2, h3⟩ := h
      obtain ⟨o1, o2, o3⟩ := okN_db h3
      exact both1 (e_var (by rw [C.N]; exact h1) (C.vis h2) o1 o2) rfl
    · cases h
  | .gl i, X, W, sc, sf, e, C, h => by
    simp only [chkE] at h
    split at h
    · simp only [Bool.and_eq_true, decide_eq_true_eq] at h
      obtain ⟨h1, h2, h3⟩ := h
      obtain ⟨o1, o2, o3⟩ := okN_db h3
      exact both1 (e_glob (gl := c.glob) (C.gl h2) (C.glob i _ h1) o1) rfl
    · cases h
  | .tup es, X, W, sc, sf, e, C, h => by
    simp only [chkE] at h
    split at h
    · simp only [Bool.and_eq_true, decide_eq_true_eq] at h
      exact both1 (e_tup (ckEs es C h.2).1 fun env st ds st' e => by rw [evAs_len es env st ds st' e]; exact h.1) rfl
    · cases h
  | .lst es, X, W, sc, sf, e, C, h => by
    simp only [chkE] at h
    split at h
    · simp only [Bool.and_eq_true, decide_eq_true_eq] at h
      exact ⟨e_lst (ckEs es C h.2).1 fun env st ds st' e => by rw [evAs_len es env st ds st' e]; exact h.1, fun _ => e_lstOwn (ckEs es C h.2).1 fun env st ds st' e => by rw [evAs_len es env st ds st' e]; exact h.1⟩
    · cases h
  | .own e', X, W, sc, sf, e, C, h => by
    simp only [chkE, Bool.and_eq_true] at h
    exact both1 ((ckE e' C h.2).2 h.1) rfl
  | .bin o a b, X, W, sc, sf, e, C, h => by
    simp only [chkE] at h
    split at h
    · simp only [Bool.and_eq_true] at h
      exact ⟨e_op (bin_ok h.1) (ckE a C h.2.1).1 (ckE b C h.2.2).1, fun _ => e_opOwn (bin_ok h.1) (ckE a C h.2.1).1 (ckE b C h.2.2).1⟩
    · cases h
  | .neg a, X, W, sc, sf, e, C, h => by
    simp only [chkE] at h
    split at h
    · exact both1 (e_neg (ckE a C h).1) rfl
    · cases h
  | .nt a, X, W, sc, sf, e, C, h => by
    simp only [chkE] at h
    split at h
    · exact both1 (e_not (ckE a C h).1) rfl
    · cases h
  | .and es, X, W, sc, sf, e, C, h => by
    simp only [chkE] at h
    split at h
    · exact both1 (ckAnd es C h) rfl
    · cases h
  | .or es, X, W, sc, sf, e, C, h => by
    simp only [chkE] at h
    split at h
    · exact both1 (ckOr es C h) rfl
    · cases h
  | .cmp o a b, X, W, sc, sf, e, C, h => by
    simp only [chkE] at h
    split at h
    · simp only [Bool.and_eq_true] at h
      exact both1 (e_cmp (cmp_ok C.toCtxB h.1) (ckE a C h.2.2.1).1 (ckE b C h.2.2.2).1 (nomark h.1 h.2.1)) rfl
    · cases h
  | .chain o p a b d, X, W, sc, sf, e, C, h => by
    simp only [chkE] at h
    split at h
    · simp only [Bool.and_eq_true] at h
      exact both1 (e_chain (cmp_ok C.toCtxB h.1) (cmp_ok C.toCtxB h.2.1) (ckE a C h.2.2.2.1).1 (ckE b C h.2.2.2.2.1).1 (ckE d C h.2.2.2.2.2).1 (nomark h.2.1 h.2.2.1)) rfl
    · cases h
  | .ife t a b, X, W, sc, sf, e, C, h => by
    simp only [chkE] at h
    split at h
    · simp only [Bool.and_eq_true] at h
      exact both1 (e_ife (ckT t C h.1) (ckE a C h.2.1).1 (ckE b C h.2.2).1) rfl
    · cases h
  | .ix a i, X, W, sc, sf, e, C, h => by
    simp only [chkE] at h
    split at h
    · simp only [Bool.and_eq_true] at h
      exact both1 (e_ix (ckE a C h.2.1).1 (ckE i C h.2.2).1 (plain_ok h.1)) rfl
    · cases h
  | .sl a lo hi, X, W, sc, sf, e, C, h => by
    simp only [chkE] at h
    split at h
    · simp only [Bool.and_eq_true] at h
      exact ⟨e_sl (ckE a C h.1).1 (ckO lo C h.2.1) (ckO hi C h.2.2), fun _ => e_slOwn (ckE a C h.1).1 (ckO lo C h.2.1) (ckO hi C h.2.2)⟩
    · cases h
  | .slS a lo hi k, X, W, sc, sf, e, C, h => by
    simp only [chkE] at h
    split at h
    · simp only [Bool.and_eq_true] at h
      exact both1 (e_slS (ckE a C h.1).1 (ckO lo C h.2.1) (ckO hi C h.2.2.1) (o_key (ckE k C h.2.2.2).1)) rfl
    · cases h
  | .call f es, X, W, sc, sf, e, C, h => by
    simp only [chkE] at h
    split at h
    · simp only [Bool.and_eq_true, decide_eq_true_eq] at h
      obtain ⟨h1, h2, h3, h4, h5⟩ := h
      obtain ⟨a, b⟩ := ckEs es C h5
      exact both1 (call_ok C h1 h2 h3 h4 b a) rfl
    · cases h
  | .dnew, X, W, sc, sf, e, C, h => by
    simp only [chkE] at h
    split at h
    · rw [evE_dnew']
      exact both1 e_dnew rfl
    · cases h
  | .dat a i, X, W, sc, sf, e, C, h => by
    simp only [chkE] at h
    split at h
    · simp only [Bool.and_eq_true] at h
      rw [evE_dat']
      exact both1 (e_dat C.un (ckE a C h.2.1).1 (ckE i C h.2.2).1 (nosl_ok h.1)) rfl
    · cases h
  | .din n i a, X, W, sc, sf, e, C, h => by
    simp only [chkE] at h
    split at h
    · simp only [Bool.and_eq_true] at h
      rw [evE_din']
      exact both1 (e_din (in_ok h.1) C.un (ckE i C h.2.2.1).1 (ckE a C h.2.2.2).1 (nomark_in h.1 h.2.1)) rfl
    · cases h
  | .dg2 a i z, X, W, sc, sf, e, C, h => by
    simp only [chkE] at h
    split at h
    · simp only [Bool.and_eq_true, decide_eq_true_eq] at h
      obtain ⟨rfl, h2, h3, h4, h5, h6, h7, h8⟩ := h
      rw [evE_dg2']
      exact both1 (e_dg2 C.un (ckE a C h6).1 (ckE i C h7).1 (ckE z C h8).1 (base_ok h2 _ _ _) h4 h5 h3) rfl
    · cases h
  | .dget e' a b, X, W, sc, sf, e, C, h => by
    simp only [chkE] at h
    split at h
    · simp only [Bool.and_eq_true, decide_eq_true_eq] at h
      obtain ⟨rfl, rfl, h2, h3, h4, h5, h6, h7, h8, h9, h10⟩ := h
      rw [evE_dget]
      exact both1 (e_dget C.calm C.un (C.gl h3) (C.fr h2) (ckE e' C h8).1 (ckE a C h9).1 (ckE b C h10).1 h4 h5 h6 h7) rfl
    · cases h
  | .kcall f p es, X, W, sc, sf, e, C, h => by
    simp only [chkE] at h
    split at h
    · simp only [Bool.and_eq_true, decide_eq_true_eq] at h
      obtain ⟨h1, h2, h3, h4⟩ := h
      rw [evE_kcall]
      exact both1 (kcall_ok C h1 h2 h3 (ckKs es C h4)) rfl
    · cases h
  | .bi b es, X, W, sc, sf, e, C, h => by
    simp only [chkE] at h
    split at h
    · simp only [Bool.and_eq_true, decide_eq_true_eq] at h
      obtain ⟨h1, h2, h3, h4, h5, h6⟩ := h
      exact bi_ok2 C h1 h2 h3 h4 h5 (ckEs es C h6).1
    · cases h
  | .me m r es, X, W, sc, sf, e, C, h => by
    simp only [chkE] at h
    split at h
    · simp only [Bool.and_eq_true, decide_eq_true_eq] at h
      obtain ⟨h1, h2, h3, h4, h5, h6, h7⟩ := h
      obtain ⟨a, b⟩ := ckEs es C h7
      exact both1 (me_ok h1 (ckE r C h6).1 a h2 h3 h4 h5 b) rfl
    · cases h
  | .isi e' ts, X, W, sc, sf, e, C, h => by
    simp only [chkE] at h
    split at h
    · simp only [Bool.and_eq_true, decide_eq_true_eq] at h
      obtain ⟨h1, h2, h3, h4, h5, h6⟩ := h
      exact both1 (tyE_ok C h1 (C.fr h2) (C.gl h3) h4 (ckE e' C h5).1 h6) rfl
    · cases h
  | .lc elt own tg it ifs, X, W, sc, sf, e, C, h => by
    simp only [chkE] at h
    split at h
    · rename_i elt' tg' it' ifs' n scope pos
      simp only [Bool.and_eq_true, decide_eq_true_eq] at h
      obtain ⟨rfl, h2, h3, h4, h5, h6, h7, h8⟩ := h
      have P := e_lc (pos := pos) (own := ownP T.N own) C.calm C.nd (ckI it C h5) (by rw [C.N, C.sc_]; exact blkOk_by h2) (fun s H A cl fp => ckG (C.blk _ s H A cl fp) tg _ h6) (fun s H A cl fp => ckTs ifs (C.blk _ s H A cl fp) h7) (fun s H A cl fp => (ckE elt (C.blk _ s H A cl fp) h8).1) (set_ok h3 _) (by rw [ownP_map]; exact contains_all h4)
      rw [ownP_map] at P
      exact ⟨P.1, fun _ => P.2⟩
    · cases h
  | .lc2 elt own own1 tg it ifs tg1 it1 ifs1, X, W, sc, sf, e, C, h => by
    simp only [chkE] at h
    split at h
    · rename_i elt' tg' it' ifs' n tg1' it1' ifs1' n1 scope pos
      simp only [Bool.and_eq_true, decide_eq_true_eq] at h
      obtain ⟨rfl, rfl, h2, h3, h3', h4, h4', h4'', h5, h6, h7, h5', h6', h7', h8⟩ := h
      have P := e_lc2 (pos := pos) (own := ownP T.N own) C.calm C.nd (ckI it C h5) (by rw [C.N, C.sc_]; exact blkOk_by h2) (by rw [ownP_map]; exact contains_all h4'') (fun s H A cl fp => ckG (C.blk _ s H A cl fp) tg _ h6) (fun s H A cl fp => ckTs ifs (C.blk _ s H A cl fp) h7)
        (fun s H A cl fp => ckI it1 (C.blk _ s H A cl fp) h5') (fun s H A cl fp => ckG (C.blk _ s H A cl fp) tg1 _ h6') (fun s H A cl fp => ckTs ifs1 (C.blk _ s H A cl fp) h7') (fun s H A cl fp => (ckE elt (C.blk _ s H A cl fp) h8).1) (set_ok h3 _) (set_ok h3') (by rw [ownP_map]; exact contains_all h4) (contains_all h4')
      rw [ownP_map] at P
      exact ⟨P.1, fun _ => P.2⟩
    · cases h
  | .rng es, X, W, sc, sf, e, C, h => by simp [chkE] at h
  | .enum es, X, W, sc, sf, e, C, h => by simp [chkE] at h
  | .zip a b, X, W, sc, sf, e, C, h => by simp [chkE] at h
  | .ezip a b, X, W, sc, sf, e, C, h => by simp [chkE] at h
  | .lrng1 a, X, W, sc, sf, e, C, h => by
    simp only [chkE] at h
    split at h
    · simp only [Bool.and_eq_true, decide_eq_true_eq] at h
      obtain ⟨rfl, h2, h3, rfl, h2', h3', h5, h6⟩ := h
      rw [evE_lrng1]
      exact both1 (e_lrng1 C.calm (C.gl h3) (C.fr h2) (C.gl h3') (C.fr h2') (ckE a C h6).1 h5) rfl
    · cases h
  | .lrng2 a b, X, W, sc, sf, e, C, h => by
    simp only [chkE] at h
    split at h
    · simp only [Bool.and_eq_true, decide_eq_true_eq] at h
      obtain ⟨rfl, h2, h3, rfl, h2', h3', h5, h6, h7, h8⟩ := h
      rw [evE_lrng2]
      exact both1 (e_lrng2 C.calm (C.gl h3) (C.fr h2) (C.gl h3') (C.fr h2') (ckE a C h7).1 (ckE b C h8).1 h5 h6) rfl
    · cases h
  | .lset a, X, W, sc, sf, e, C, h => by
    simp only [chkE] at h
    split at h
    · simp only [Bool.and_eq_true, decide_eq_true_eq] at h
      obtain ⟨rfl, h2, h3, rfl, h2', h3', h5, h6⟩ := h
      rw [evE_lset]
      exact both1 (e_lset C.calm (C.gl h3) (C.fr h2) (C.gl h3') (C.fr h2') (ckE a C h6).1 h5) rfl
    · cases h
  | .walk a, X, W, sc, sf, e, C, h => by simp [chkE] at h
theorem ckEs : ∀ (es : List IE) {X : Cx} {W : WX} {sc sf : Scope} {xs : List Expr}, CtxE T xv c X W sc sf → chkEs T sc sf es xs = true → PA X xs (tAv X.K xv W (evAs c es)) ∧ xs.length = es.length
  | [], X, W, sc, sf, xs, C, h => by
    cases xs with
    | nil => exact ⟨a_nil, rfl⟩
    | cons x xs => simp [chkEs] at h
  | e :: r, X, W, sc, sf, xs, C, h => by
    cases xs with
    | nil => simp [chkEs] at h
    | cons x xs =>
      simp only [chkEs, Bool.and_eq_true] at h
      obtain ⟨a, b⟩ := ckEs r C h.2.2
      exact ⟨a_cons (ckE e C h.2.1).1 a (star_cons h.1), congrArg (· + 1) b⟩
theorem ckKs : ∀ (es : List IE) {X : Cx} {W : WX} {sc sf : Scope} {xs : List Keyword}, CtxE T xv c X W sc sf → chkKs T sc sf es xs = true → PK X xs (tAv X.K xv W (evAs c es))
  | [], X, W, sc, sf, xs, C, h => by
    cases xs with
    | nil => exact k_nil
    | cons x xs => simp [chkKs] at h
  | e :: r, X, W, sc, sf, xs, C, h => by
    cases xs with
    | nil => simp [chkKs] at h
    | cons x xs =>
      obtain ⟨nm, x, kp⟩ := x
      simp only [chkKs, Bool.and_eq_true] at h
      exact k_cons (ckE e C h.1).1 (ckKs r C h.2)
theorem ckAnd : ∀ (es : List IE) {X : Cx} {W : WX} {sc sf : Scope} {xs : List Expr} {pos : Pos}, CtxE T xv c X W sc sf → chkEs T sc sf es xs = true → PE X (.BoolOp .And xs pos) (tEv X.K xv W (evAnd c es))
  | [], X, W, sc, sf, xs, pos, C, h => e_stuck
  | [e], X, W, sc, sf, xs, pos, C, h => by
    match xs, h with
    | [], h => simp [chkEs] at h
    | [x], h =>
      simp only [chkEs, Bool.and_eq_true] at h
      exact e_one (ckE e C h.2.1).1
    | _ :: _ :: _, h => simp [chkEs] at h
  | e :: e' :: r, X, W, sc, sf, xs, pos, C, h => by
    match xs, h with
    | [], h => simp [chkEs] at h
    | [x], h => simp [chkEs] at h
    | x :: y :: xs, h =>
      have h2 : chkEs T sc sf (e' :: r) (y :: xs) = true := by
        rw [chkEs] at h
        simp only [Bool.and_eq_true] at h
        exact h.2.2
      simp only [chkEs, Bool.and_eq_true] at h
      exact e_and (ckE e C h.2.1).1 (ckAnd (e' :: r) C h2)
theorem ckOr : ∀ (es : List IE) {X : Cx} {W : WX} {sc sf : Scope} {xs : List Expr} {pos : Pos}, CtxE T xv c X W sc sf → chkEs T sc sf es xs = true → PE X (.BoolOp .Or xs pos) (tEv X.K xv W (evOr c es))
  | [], X, W, sc, sf, xs, pos, C, h => e_stuck
  | [e], X, W, sc, sf, xs, pos, C, h => by
    match xs, h with
    | [], h => simp [chkEs] at h
    | [x], h =>
      simp only [chkEs, Bool.and_eq_true] at h
      exact e_one (ckE e C h.2.1).1
    | _ :: _ :: _, h => simp [chkEs] at h
  | e :: e' :: r, X, W, sc, sf, xs, pos, C, h => by
    match xs, h with
    | [], h => simp [chkEs] at h
    | [x], h => simp [chkEs] at h
    | x :: y :: xs, h =>
      have h2 : chkEs T sc sf (e' :: r) (y :: xs) = true := by
        rw [chkEs] at h
        simp only [Bool.and_eq_true] at h
        exact h.2.2
      simp only [chkEs, Bool.and_eq_true] at h
      exact e_or (ckE e C h.2.1).1 (ckOr (e' :: r) C h2)
theorem ckT : ∀ (ie : IE) {X : Cx} {W : WX} {sc sf : Scope} {e : Expr}, CtxE T xv c X W sc sf → chkT T sc sf ie e = true → PT X e (tTv X.K xv W (evT c ie))
  | .nt a, X, W, sc, sf, e, C, h => by
    simp only [chkT] at h
    split at h
    · exact t_not (ckT a C h)
    · cases h
  | .and es, X, W, sc, sf, e, C, h => by
    simp only [chkT] at h
    split at h
    · exact (ckTAnd es C h).pt
    · cases h
  | .or es, X, W, sc, sf, e, C, h => by
    simp only [chkT] at h
    split at h
    · exact (ckTOr es C h).pt
    · cases h
  | .cmp o a b, X, W, sc, sf, e, C, h => by
    simp only [chkT] at h
    split at h
    · simp only [Bool.and_eq_true] at h
      exact t_cmp (cmp_ok C.toCtxB h.1) (ckE a C h.2.2.1).1 (ckE b C h.2.2.2).1 (nomark h.1 h.2.1)
    · cases h
  | .chain o p a b d, X, W, sc, sf, e, C, h => by
    simp only [chkT] at h
    split at h
    · simp only [Bool.and_eq_true] at h
      exact t_chain (cmp_ok C.toCtxB h.1) (cmp_ok C.toCtxB h.2.1) (ckE a C h.2.2.2.1).1 (ckE b C h.2.2.2.2.1).1 (ckE d C h.2.2.2.2.2).1 (nomark h.2.1 h.2.2.1)
    · cases h
  | .v i, X, W, sc, sf, e, C, h => by
    simp only [chkT] at h
    split at h
    · simp only [Bool.and_eq_true, decide_eq_true_eq] at h
      obtain ⟨h1, h2, h3⟩ := h
      obtain ⟨o1, o2, o3⟩ := okN_db h3
      refine PT.use (t_truth (xv := xv) (W := W) (e_var (by rw [C.N]; exact h1) (C.vis h2) o1 o2) (fun _ => rfl)) fun σ H Q ⟨m, env, st, re, rs, p⟩ => ⟨m, env, st, re, rs, ?_⟩
      revert p
      show Post _ _ _ _ _ _ _ (R.ofO env[i]?.join fun d => .ofO (truD st d) fun k => .ok k st) Q → Post _ _ _ _ _ _ _ ((R.ofO env[i]?.join fun d => .ok d st).bind fun d st => .ofO (truD st d) fun k => .ok k st) _
      cases env[i]?.join with
      | none => exact fun p => p
      | some d => exact fun p => p.mono fun b H' q _ => q
    · cases h
  | .call f es, X, W, sc, sf, e, C, h => by
    simp only [chkT] at h
    split at h
    · simp only [Bool.and_eq_true, decide_eq_true_eq] at h
      obtain ⟨h1, h2, h3, h4, h5⟩ := h
      obtain ⟨a, b⟩ := ckEs es C h5
      exact t_truth (call_ok C h1 h2 h3 h4 b a) fun _ => rfl
    · cases h
  | .bi b es, X, W, sc, sf, e, C, h => by
    simp only [chkT] at h
    split at h
    · simp only [Bool.and_eq_true, decide_eq_true_eq] at h
      obtain ⟨h1, h2, h3, h4, h5, h6⟩ := h
      exact t_truth (bi_ok2 C h1 h2 h3 h4 h5 (ckEs es C h6).1).1 fun _ => rfl
    · cases h
  | .isi e' ts, X, W, sc, sf, e, C, h => by
    simp only [chkT] at h
    split at h
    · simp only [Bool.and_eq_true, decide_eq_true_eq] at h
      obtain ⟨h1, h2, h3, h4, h5, h6⟩ := h
      refine PT.use (t_truth (xv := xv) (W := W) (tyE_ok C h1 (C.fr h2) (C.gl h3) h4 (ckE e' C h5).1 h6) fun _ => rfl) fun σ H Q ⟨m, env, st, re, rs, p⟩ => ⟨m, env, st, re, rs, ?_⟩
      revert p
      show Post _ _ _ _ _ _ _ ((evE c e' env st).bind fun x st => .ofO (isiD ts x st) fun b => .ok b st) Q → Post _ _ _ _ _ _ _ (((evE c e' env st).bind fun d st => .ofO (isiD ts d st) fun b => .ok (.bl b) st).bind fun d st => .ofO (truD st d) fun k => .ok k st) _
      cases evE c e' env st with
      | ok d s =>
        show Post _ _ _ _ _ _ _ (R.ofO (isiD ts d s) fun b => .ok b s) Q → Post _ _ _ _ _ _ _ ((R.ofO (isiD ts d s) fun b => .ok (.bl b) s).bind fun d st => .ofO (truD st d) fun k => .ok k st) _
        cases isiD ts d s with
        | none => exact fun p => p
        | some b => exact fun p => p.mono fun b H' q _ => q
      | exc x s => exact fun p => p
      | stuck => exact fun p => p
    · cases h
  | .ix a i, X, W, sc, sf, e, C, h => by
    simp only [chkT] at h
    split at h
    · simp only [Bool.and_eq_true] at h
      exact t_truth (e_ix (ckE a C h.2.1).1 (ckE i C h.2.2).1 (plain_ok h.1)) fun _ => rfl
    · cases h
  | .bl b, X, W, sc, sf, e, C, h => by
    simp only [chkT] at h
    split at h
    · rename_i b' _ _
      have h := eq_of_beq h
      subst h
      refine PT.use (t_truth (xv := xv) (W := W) e_bl fun _ => rfl) fun σ H Q ⟨m, env, st, re, rs, p⟩ => ⟨m, env, st, re, rs, ?_⟩
      revert p
      show Post _ _ _ _ _ _ _ (R.ok b' st) Q → Post _ _ _ _ _ _ _ (R.ok b' st) _
      exact fun p => p.mono fun b H' q _ => q
    · cases h
  | .din n i a, X, W, sc, sf, e, C, h => by
    simp only [chkT] at h
    split at h
    · simp only [Bool.and_eq_true] at h
      rw [evT_din']
      exact t_din (in_ok h.1) C.un (ckE i C h.2.2.1).1 (ckE a C h.2.2.2).1 (nomark_in h.1 h.2.1)
    · cases h
  | .non, X, W, sc, sf, e, C, h | .int _, X, W, sc, sf, e, C, h | .str _, X, W, sc, sf, e, C, h | .gl _, X, W, sc, sf, e, C, h | .lst _, X, W, sc, sf, e, C, h | .tup _, X, W, sc, sf, e, C, h | .own _, X, W, sc, sf, e, C, h | .bin _ _ _, X, W, sc, sf, e, C, h
  | .neg _, X, W, sc, sf, e, C, h | .ife _ _ _, X, W, sc, sf, e, C, h | .sl _ _ _, X, W, sc, sf, e, C, h | .slS _ _ _ _, X, W, sc, sf, e, C, h | .me _ _ _, X, W, sc, sf, e, C, h | .lc _ _ _ _ _, X, W, sc, sf, e, C, h | .lc2 _ _ _ _ _ _ _ _ _, X, W, sc, sf, e, C, h
  | .rng _, X, W, sc, sf, e, C, h | .enum _, X, W, sc, sf, e, C, h | .zip _ _, X, W, sc, sf, e, C, h | .walk _, X, W, sc, sf, e, C, h | .ezip _ _, X, W, sc, sf, e, C, h | .lset _, X, W, sc, sf, e, C, h | .lrng1 _, X, W, sc, sf, e, C, h | .lrng2 _ _, X, W, sc, sf, e, C, h | .kcall _ _ _, X, W, sc, sf, e, C, h | .dget _ _ _, X, W, sc, sf, e, C, h | .dnew, X, W, sc, sf, e, C, h | .dat _ _, X, W, sc, sf, e, C, h | .dg2 _ _ _, X, W, sc, sf, e, C, h => by simp [chkT] at h
theorem ckTAnd : ∀ (es : List IE) {X : Cx} {W : WX} {sc sf : Scope} {xs : List Expr} {pos : Pos}, CtxE T xv c X W sc sf → chkTl T sc sf es xs = true → PW X (.BoolOp .And xs pos) (tTv X.K xv W (evTAnd c es))
  | [], X, W, sc, sf, xs, pos, C, h => ⟨fun wh pins s σ H Q I ⟨m, env, st, re, rs, p⟩ => p.elim⟩
  | [e], X, W, sc, sf, xs, pos, C, h => by
    match xs, h with
    | [], h => simp [chkTl] at h
    | [x], h =>
      simp only [chkTl, Bool.and_eq_true] at h
      exact t_and1 (ckT e C h.1)
    | _ :: _ :: _, h => simp [chkTl] at h
  | e :: e' :: r, X, W, sc, sf, xs, pos, C, h => by
    match xs, h with
    | [], h => simp [chkTl] at h
    | [x], h => simp [chkTl] at h
    | x :: y :: xs, h =>
      have h2 : chkTl T sc sf (e' :: r) (y :: xs) = true := by
        rw [chkTl] at h
        simp only [Bool.and_eq_true] at h
        exact h.2
      simp only [chkTl, Bool.and_eq_true] at h
      exact t_and (ckT e C h.1) (ckTAnd (e' :: r) C h2)
theorem ckTOr : ∀ (es : List IE) {X : Cx} {W : WX} {sc sf : Scope} {xs : List Expr} {pos : Pos}, CtxE T xv c X W sc sf → chkTl T sc sf es xs = true → PW X (.BoolOp .Or xs pos) (tTv X.K xv W (evTOr c es))
  | [], X, W, sc, sf, xs, pos, C, h => ⟨fun wh pins s σ H Q I ⟨m, env, st, re, rs, p⟩ => p.elim⟩
  | [e], X, W, sc, sf, xs, pos, C, h => by
    match xs, h with
    | [], h => simp [chkTl] at h
    | [x], h =>
      simp only [chkTl, Bool.and_eq_true] at h
      exact t_or1 (ckT e C h.1)
    | _ :: _ :: _, h => simp [chkTl] at h
  | e :: e' :: r, X, W, sc, sf, xs, pos, C, h => by
    match xs, h with
    | [], h => simp [chkTl] at h
    | [x], h => simp [chkTl] at h
    | x :: y :: xs, h =>
      have h2 : chkTl T sc sf (e' :: r) (y :: xs) = true := by
        rw [chkTl] at h
        simp only [Bool.and_eq_true] at h
        exact h.2
      simp only [chkTl, Bool.and_eq_true] at h
      exact t_or (ckT e C h.1) (ckTOr (e' :: r) C h2)
theorem ckTs : ∀ (es : List IE) {X : Cx} {W : WX} {sc sf : Scope} {xs : List Expr}, CtxE T xv c X W sc sf → chkTs T sc sf es xs = true → PTs X xs (tTv X.K xv W (evTs c es))
  | [], X, W, sc, sf, xs, C, h => by
    cases xs with
    | nil => exact PTs.use pts_nil fun σ H Q ⟨m, env, st, re, rs, p⟩ g => Post.here (a := true) p rfl rs g
    | cons x xs => simp [chkTs] at h
  | e :: r, X, W, sc, sf, xs, C, h => by
    simp only [chkTs] at h
    split at h
    · simp only [Bool.and_eq_true] at h
      cases r with
      | nil => exact pts_one (ckT e C h.2)
      | cons _ _ => simp at h
    · cases h
theorem ckO : ∀ (es : List IE) {X : Cx} {W : WX} {sc sf : Scope} {x : Option Expr}, CtxE T xv c X W sc sf → chkO T sc sf es x = true → PO X x (tOv X.K xv W fun env st => (evAs c es env st).bind fun l st => .ofO (oI l) fun l => .ok l st)
  | [], X, W, sc, sf, x, C, h => by
    cases x with
    | none => exact o_none
    | some x => simp [chkO] at h
  | e :: r, X, W, sc, sf, x, C, h => by
    cases x with
    | none => simp [chkO] at h
    | some x =>
      simp only [chkO, Bool.and_eq_true] at h
      cases r with
      | nil => exact o_some (ckE e C h.2).1
      | cons _ _ => simp at h
theorem ckI : ∀ (ie : IE) {X : Cx} {W : WX} {sc sf : Scope} {tg e : Expr}, CtxE T xv c X W sc sf → chkI T sc sf ie tg e = true → PI X tg e (tIv X.K xv W (evI c ie))
  | .rng es, X, W, sc, sf, tg, e, C, h => by
    simp only [chkI] at h
    split at h
    · simp only [Bool.and_eq_true, decide_eq_true_eq] at h
      obtain ⟨h1, h2, h3, h4, h5, h6, h7⟩ := h
      obtain ⟨a, b⟩ := ckEs es C h7
      exact rng_ok C h1 h2 h3 h4 h5 h6 b a
    · cases h
  | .enum a, X, W, sc, sf, tg, e, C, h => by
    simp only [chkI] at h
    split at h
    · simp only [Bool.and_eq_true, decide_eq_true_eq] at h
      obtain ⟨rfl, h2, h3, h4, h5, h6⟩ := h
      obtain ⟨ts, k, tp, rfl⟩ := istup h4
      exact i_enum (C.gl h3) (C.fr h2) (ckE a C h6).1 h5
    · cases h
  | .zip a b, X, W, sc, sf, tg, e, C, h => by
    simp only [chkI] at h
    split at h
    · simp only [Bool.and_eq_true, decide_eq_true_eq] at h
      obtain ⟨rfl, h2, h3, h4, h5, h6, h7, h8⟩ := h
      obtain ⟨ts, k, tp, rfl⟩ := istup h4
      exact i_zip (C.gl h3) (C.fr h2) (ckE a C h7).1 (ckE b C h8).1 h5 h6
    · cases h
  | .walk a, X, W, sc, sf, tg, e, C, h => by
    simp only [chkI] at h
    exact i_walk (ckE a C h).1
  | .ezip a b, X, W, sc, sf, tg, e, C, h => by
    simp only [chkI] at h
    split at h
    · simp only [Bool.and_eq_true, decide_eq_true_eq] at h
      obtain ⟨rfl, h2, h3, rfl, h2', h3', h4, h5, h6, h7, h8⟩ := h
      obtain ⟨ts, k, tp, rfl⟩ := istup h4
      exact i_ezip (C.gl h3) (C.fr h2) (C.gl h3') (C.fr h2') (ckE a C h7).1 (ckE b C h8).1 h5 h6
    · cases h
  | .non, X, W, sc, sf, tg, e, C, h | .bl _, X, W, sc, sf, tg, e, C, h | .int _, X, W, sc, sf, tg, e, C, h | .str _, X, W, sc, sf, tg, e, C, h | .gl _, X, W, sc, sf, tg, e, C, h | .lst _, X, W, sc, sf, tg, e, C, h | .tup _, X, W, sc, sf, tg, e, C, h | .own _, X, W, sc, sf, tg, e, C, h | .bin _ _ _, X, W, sc, sf, tg, e, C, h
  | .neg _, X, W, sc, sf, tg, e, C, h | .nt _, X, W, sc, sf, tg, e, C, h | .and _, X, W, sc, sf, tg, e, C, h | .or _, X, W, sc, sf, tg, e, C, h | .cmp _ _ _, X, W, sc, sf, tg, e, C, h | .chain _ _ _ _ _, X, W, sc, sf, tg, e, C, h | .v _, X, W, sc, sf, tg, e, C, h | .ix _ _, X, W, sc, sf, tg, e, C, h | .call _ _, X, W, sc, sf, tg, e, C, h | .bi _ _, X, W, sc, sf, tg, e, C, h | .isi _ _, X, W, sc, sf, tg, e, C, h
  | .ife _ _ _, X, W, sc, sf, tg, e, C, h | .sl _ _ _, X, W, sc, sf, tg, e, C, h | .slS _ _ _ _, X, W, sc, sf, tg, e, C, h | .me _ _ _, X, W, sc, sf, tg, e, C, h | .lc _ _ _ _ _, X, W, sc, sf, tg, e, C, h | .lc2 _ _ _ _ _ _ _ _ _, X, W, sc, sf, tg, e, C, h | .lset _, X, W, sc, sf, tg, e, C, h | .lrng1 _, X, W, sc, sf, tg, e, C, h | .lrng2 _ _, X, W, sc, sf, tg, e, C, h | .kcall _ _ _, X, W, sc, sf, tg, e, C, h | .dget _ _ _, X, W, sc, sf, tg, e, C, h | .dnew, X, W, sc, sf, tg, e, C, h | .dat _ _, X, W, sc, sf, tg, e, C, h | .din _ _ _, X, W, sc, sf, tg, e, C, h | .dg2 _ _ _, X, W, sc, sf, tg, e, C, h => by simp [chkI] at h
end
end
end Ev

set_option Elab.async false
set_option linter.all false
set_option maxRecDepth 100000
set_option autoImplicit false
/-! Ev, part S: statements, the checker and its soundness. -/
namespace Ev
open PySem PySem.Spec PyProof.Rows L2
section
variable {X : Cx} {xv : Nat → Value} {W : WX}
/-- name = [..] on one line, two clauses -/
theorem s_setLc2 {i : Nat} {y : Str} {py : Pos} {elt tg iter tg1 iter1 : Expr} {ifs ifs1 : List Expr} {scope : Scope} {own : List (Str × Nat)} {ns ns1 vs1 : List Nat} {pos spos : Pos} {it it1 : Env → Store → R Src} {g g1 : D → Env → Store → R Env} {tt tt1 : Env → Store → R Bool} {te : Env → Store → R D}
    (hc : X.calm = true) (hN : X.N.Nodup) (hy : X.N[i]? = some y) (hyl : X.env.scope.names.lookup y = some .local)
    (hsw : swapsWith (.ListComp elt [⟨tg, iter, ifs, 0⟩, ⟨tg1, iter1, ifs1, 0⟩] scope pos) (some (.Name y py)) spos.line X.env = pure true) (hi : PI X tg iter (tIv X.K xv W it)) (ok : BlkOk X.N X.env.scope scope own) (hv : ∀ i ∈ vs1, i ∈ own.map (·.2))
    (hg : ∀ (s : Shared) (H : Hp) (C : Addr) (cl : List (Str × Addr)) (fp : List Addr), PG (X.blk s H scope (compEnvC scope cl C X.env) fp) tg (tGv X.K ns g))
    (ht : ∀ (s : Shared) (H : Hp) (C : Addr) (cl : List (Str × Addr)) (fp : List Addr), PTs (X.blk s H scope (compEnvC scope cl C X.env) fp) ifs (tTv X.K xv WF tt))
    (hi1 : ∀ (s : Shared) (H : Hp) (C : Addr) (cl : List (Str × Addr)) (fp : List Addr), PI (X.blk s H scope (compEnvC scope cl C X.env) fp) tg1 iter1 (tIv X.K xv WF it1))
    (hg1 : ∀ (s : Shared) (H : Hp) (C : Addr) (cl : List (Str × Addr)) (fp : List Addr), PG (X.blk s H scope (compEnvC scope cl C X.env) fp) tg1 (tGv X.K ns1 g1))
    (ht1 : ∀ (s : Shared) (H : Hp) (C : Addr) (cl : List (Str × Addr)) (fp : List Addr), PTs (X.blk s H scope (compEnvC scope cl C X.env) fp) ifs1 (tTv X.K xv WF tt1))
    (he : ∀ (s : Shared) (H : Hp) (C : Addr) (cl : List (Str × Addr)) (fp : List Addr), PE (X.blk s H scope (compEnvC scope cl C X.env) fp) elt (tEv X.K xv WF te))
    (hs : ∀ x, foldedSetIterable iter X.env x = pure x) (hs1 : ∀ env x, foldedSetIterable iter1 env x = pure x) (hns : ∀ i ∈ ns, i ∈ own.map (·.2)) (hns1 : ∀ i ∈ ns1, i ∈ vs1) :
    PS X (.Assign [.Name y py] (.ListComp elt [⟨tg, iter, ifs, 0⟩, ⟨tg1, iter1, ifs1, 0⟩] scope pos) spos) (tSv X.K xv W fun env st => ((((it env st).bind fun src st => compL2 src.gs (lcB2 g tt it1 g1 tt1 te (own.map (·.2)) vs1 env) src.ds st).bind fun l st => if l.length ≤ line then .ok l st else .stuck).bind fun l st => .ok (.lst l) st).st env fun d st => .next (env.set i (some d)) st) ∧
    PS X (.Assign [.Name y py] (.ListComp elt [⟨tg, iter, ifs, 0⟩, ⟨tg1, iter1, ifs1, 0⟩] scope pos) spos) (tSv X.K xv W fun env st => (((((it env st).bind fun src st => compL2 src.gs (lcB2 g tt it1 g1 tt1 te (own.map (·.2)) vs1 env) src.ds st).bind fun l st => if l.length ≤ line then .ok l st else .stuck).bind fun l st => .ok (.lst l) st).bind ownD).st env fun d st => .next (env.set i (some d)) st) := by
  have go : ∀ (D : Ends) (σ : L2.St) (H : Hp), tLc2 (tIv X.K xv W it) (tGv X.K ns g) (tTv X.K xv WF tt) (tIv X.K xv WF it1) (tGv X.K ns1 g1) (tTv X.K xv WF tt1) (tEv X.K xv WF te) (own.map (·.2)) vs1 σ H (fun v H1 => Good X.K H1 → D.nx (σ.set i (some v)) H1) →
      tAsg (tLc2 (tIv X.K xv W it) (tGv X.K ns g) (tTv X.K xv WF tt) (tIv X.K xv WF it1) (tGv X.K ns1 g1) (tTv X.K xv WF tt1) (tEv X.K xv WF te) (own.map (·.2)) vs1) (gName i) (gd X.K D) σ H := fun D σ H h => h
  refine ⟨PS.use (ps_setLc2 hc hN hy hyl hsw hi ok hv hg ht hi1 hg1 ht1 he hs hs1) fun D σ H ⟨m, env, st, re, rs, p⟩ => go D σ H ?_, PS.use (ps_setLc2 hc hN hy hyl hsw hi ok hv hg ht hi1 hg1 ht1 he hs hs1) fun D σ H ⟨m, env, st, re, rs, p⟩ => go D σ H ?_⟩
  · refine lc2_main hns hns1 re rs (Q := fun v H1 => D.nx (σ.set i (some v)) H1) (Post.toL ?_)
    exact (PostS.ex (rel := RD X.K) re rs p).mono fun v H1 ⟨d, m1, st1, _, L, x, re1, rs1, g1, p1⟩ => p1 m1 H1 _ .refl (re1.set i x) rs1
  · refine lc2_main hns hns1 re rs (Q := fun v H1 => D.nx (σ.set i (some v)) H1) (Post.toLO ?_)
    exact (PostS.ex (rel := RD X.K) re rs p).mono fun v H1 ⟨d, m1, st1, _, L, x, re1, rs1, g1, p1⟩ => p1 m1 H1 _ .refl (re1.set i x) rs1
end
/-! ### the stores -/
theorem sw_notLc {e : Expr} (h : notLc e = true) (t : Option Expr) (l : Nat) (env : PySem.Env) : swapsWith e t l env = pure false := by
  cases e <;> first | rfl | simp [notLc] at h
def swB (sc : Scope) (x : Str) (p : Pos) (e : Expr) : Bool := notLc e || (match e with
  | .ListComp _ _ _ pos => decide (p.line ≠ pos.line) || decide (sc.names.lookup x ≠ some .local)
  | _ => false)
theorem sw_name {sc : Scope} {x : Str} {p : Pos} {e : Expr} {l : Nat} {env : PySem.Env} (hs : env.scope = sc) (h : swB sc x p e = true) : swapsWith e (some (.Name x p)) l env = pure false := by
  unfold swB at h
  rw [Bool.or_eq_true] at h
  rcases h with h | h
  · exact sw_notLc h _ _ _
  · cases e <;> simp only [Bool.false_eq_true] at h
    case ListComp elt gs scope pos =>
      simp only [Bool.or_eq_true, decide_eq_true_eq] at h
      unfold swapsWith
      rcases h with h | h
      · have e1 : (p.line == pos.line) = false := by simpa using h
        simp only [Expr.pos, e1, Bool.and_false, Bool.false_and]
      · have e1 : (env.kindOf x == some .local) = false := by
          unfold Env.kindOf
          rw [hs]
          simpa using h
        simp only [e1, Bool.and_false, Bool.false_and]
theorem sw_tup {xs : List Expr} {k : Nat} {p : Pos} (e : Expr) (l : Nat) (env : PySem.Env) : swapsWith e (some (.Tuple xs k p)) l env = pure false := by
  cases e <;> rfl
theorem sw_sub {a b : Expr} {p : Pos} (e : Expr) (l : Nat) (env : PySem.Env) : swapsWith e (some (.Subscript a b p)) l env = pure false := by
  cases e <;> rfl
theorem ss_name {x : Str} {p : Pos} (e : Expr) (env : PySem.Env) : swappedStores [.Name x p] e env = pure none := by
  cases e <;> rfl
theorem ss_sub {a b : Expr} {p : Pos} (e : Expr) (env : PySem.Env) : swappedStores [.Subscript a b p] e env = pure none := by
  cases e <;> rfl
theorem ss_tup {xs : List Expr} {k : Nat} {p : Pos} {e : Expr} (h : notTup e = true) (env : PySem.Env) : swappedStores [.Tuple xs k p] e env = pure none := by
  cases e <;> first | rfl | simp [notTup] at h
def swN (sc : Scope) (ts vs : List Expr) : Bool := decide ((ts.filterMap fun
    | .Name id pos => if sc.names.lookup id == some .local && pos.line == (ts.head?.map (·.pos.line)).getD 0 then some id else none
    | _ => none).length ≠ ts.length) || (decide (vs.length ≠ ts.length) || (!(ts.length == 2 || ts.length == 3) || vs.all (foldedForSure 8)))
theorem ss_none {sc : Scope} {ts vs : List Expr} {pt pt2 : Pos} {kt k2 : Nat} {env : PySem.Env} (hs : env.scope = sc) (h : swN sc ts vs = true) :
    swappedStores [.Tuple ts kt pt] (.Tuple vs k2 pt2) env = pure none := by
  unfold swappedStores
  simp only [swN, Bool.or_eq_true, decide_eq_true_eq] at h
  simp only [Env.kindOf, hs]
  split
  · rfl
  · rename_i h1
    split
    · rfl
    · split
      · rfl
      · rename_i h2 h3
        by_cases h4 : vs.all (foldedForSure 8) = true
        · rw [if_pos h4]
        · exfalso
          simp only [Bool.or_eq_true, bne_iff_ne, ne_eq, not_or, Decidable.not_not, Bool.not_eq_true', Bool.not_eq_false'] at h1 h3
          rcases h with h | h | h | h
          · exact h h3.1
          · exact h h1.1.2
          · simp_all
          · exact h4 h
def tupB (sc : Scope) (ts : List Expr) (e : Expr) : Bool := notTup e || (match e with
  | .Tuple vs _ _ => swN sc ts vs
  | _ => false)
theorem tupB_ok {sc : Scope} {ts : List Expr} {k : Nat} {p : Pos} {e : Expr} {env : PySem.Env} (hs : env.scope = sc) (h : tupB sc ts e = true) : swappedStores [.Tuple ts k p] e env = pure none := by
  unfold tupB at h
  rw [Bool.or_eq_true] at h
  rcases h with h | h
  · exact ss_tup h env
  · cases e <;> simp only [Bool.false_eq_true] at h
    exact ss_none hs h
def par2B (sc : Scope) (x : Str) (px : Pos) (y : Str) (py : Pos) (a b : Expr) : Bool :=
  notStar a && (notStar b && (decide (sc.names.lookup x = some .local) && (decide (sc.names.lookup y = some .local) && (decide (py.line = px.line) && (decide (x ≠ y) && (decide (sc.kind = .function) && (decide ([a, b].all (foldedForSure 8) = false) && decide ([a, b].all (constantsAlone 8) = false))))))))
theorem one_star {x : Expr} (h : notStar x = true) : (match (generalizing := false) x with | .Starred .. => true | _ => false) = false := by
  cases x <;> first | rfl | simp [notStar] at h
theorem ss_par2 {sc : Scope} {x y : Str} {px py pt pt2 : Pos} {a b : Expr} {kt k2 : Nat} {env : PySem.Env} (hs : env.scope = sc) (h : par2B sc x px y py a b = true) :
    swappedStores [.Tuple [.Name x px, .Name y py] kt pt] (.Tuple [a, b] k2 pt2) env = pure (some [x, y]) := by
  simp only [par2B, Bool.and_eq_true, decide_eq_true_eq] at h
  obtain ⟨h1, h2, h3, h4, h5, h6, h7, h8, h9⟩ := h
  have hk : env.blockKind = .function := by unfold Env.blockKind; rw [hs, h7]; rfl
  have kx : env.kindOf x = some .local := by unfold Env.kindOf; rw [hs]; exact h3
  have ky : env.kindOf y = some .local := by unfold Env.kindOf; rw [hs]; exact h4
  have ha := one_star h1
  have hb := one_star h2
  have hd : ([x, y].eraseDups).length = 2 := by
    have : (y == x) = false := by simpa using Ne.symm h6
    simp [List.eraseDups_cons, List.filter, this]
  unfold swappedStores
  simp only [List.head?_cons, Option.map_some, Option.getD_some, Expr.pos, hk, List.any_cons, List.any_nil, ha, hb, h8, h9, List.filterMap_cons, List.filterMap_nil, kx, ky, h5, List.length_cons, List.length_nil, hd]
  simp [hd]
  rintro (h | h)
  · exact Bool.noConfusion (ha.symm.trans h)
  · exact Bool.noConfusion (hb.symm.trans h)
def par3B (sc : Scope) (x : Str) (px : Pos) (y : Str) (py : Pos) (z : Str) (pz : Pos) (a b d : Expr) : Bool :=
  notStar a && (notStar b && (notStar d && (decide (sc.names.lookup x = some .local) && (decide (sc.names.lookup y = some .local) && (decide (sc.names.lookup z = some .local) && (decide (py.line = px.line) && (decide (pz.line = px.line) && (decide (x ≠ y) && (decide (x ≠ z) && (decide (y ≠ z) && (decide (sc.kind = .function) && (decide ([a, b, d].all (foldedForSure 8) = false) && decide ([a, b, d].all (constantsAlone 8) = false)))))))))))))
theorem ss_par3 {sc : Scope} {x y z : Str} {px py pz pt pt2 : Pos} {a b d : Expr} {kt k2 : Nat} {env : PySem.Env} (hs : env.scope = sc) (h : par3B sc x px y py z pz a b d = true) :
    swappedStores [.Tuple [.Name x px, .Name y py, .Name z pz] kt pt] (.Tuple [a, b, d] k2 pt2) env = pure (some [x, y, z]) := by
  simp only [par3B, Bool.and_eq_true, decide_eq_true_eq] at h
  obtain ⟨h1, h2, h2', h3, h4, h4', h5, h5', h6, h6', h6'', h7, h8, h9⟩ := h
  have hk : env.blockKind = .function := by unfold Env.blockKind; rw [hs, h7]; rfl
  have kx : env.kindOf x = some .local := by unfold Env.kindOf; rw [hs]; exact h3
  have ky : env.kindOf y = some .local := by unfold Env.kindOf; rw [hs]; exact h4
  have kz : env.kindOf z = some .local := by unfold Env.kindOf; rw [hs]; exact h4'
  have ha := one_star h1
  have hb := one_star h2
  have hdd := one_star h2'
  have hd : ([x, y, z].eraseDups).length = 3 := by
    have e1 : (y == x) = false := by simpa using Ne.symm h6
    have e2 : (z == x) = false := by simpa using Ne.symm h6'
    have e3 : (z == y) = false := by simpa using Ne.symm h6''
    simp [List.eraseDups_cons, List.filter, e1, e2, e3]
  unfold swappedStores
  simp only [List.head?_cons, Option.map_some, Option.getD_some, Expr.pos, hk, List.any_cons, List.any_nil, ha, hb, hdd, h8, h9, List.filterMap_cons, List.filterMap_nil, kx, ky, kz, h5, h5', List.length_cons, List.length_nil, hd]
  simp [hd]
  rintro (h | h | h)
  · exact Bool.noConfusion (ha.symm.trans h)
  · exact Bool.noConfusion (hb.symm.trans h)
  · exact Bool.noConfusion (hdd.symm.trans h)
end Ev

set_option Elab.async false
set_option linter.all false
set_option maxRecDepth 100000
set_option autoImplicit false
/-! Ev, part T: statements, the checker and its soundness. -/
namespace Ev
open PySem PySem.Spec PyProof.Rows L2
def isPat : IE → Bool
  | .v _ => true
  | .tup _ => true
  | _ => false
def constB : IE → Expr → Bool
  | .bl b, .Constant (.bool b') _ _ => b' == b
  | .int i, .Constant (.int j) _ _ => j == i
  | .non, .Constant .none _ _ => true
  | .str s, .Constant (.str t) _ _ => decide (t = s)
  | _, _ => false
def chkH (T : Tab) (sc : Scope) : List (Nat × Nat × IE) → List ExceptHandler → Bool
  | [], hs => hs.isEmpty
  | q :: r, hs => (match hs with
    | .ExceptHandler (some (.Name n _)) none [.Assign [.Name y _] ce _] _ :: hs => decide (T.exc[q.1]? = some n) && (glB sc n && (okN n && (decide (T.N[q.2.1]? = some y) && (locB sc sc y && (constB q.2.2 ce && chkH T sc r hs)))))
    | _ => false)
def augB : BO → Operator → Bool
  | .add, .Add => true
  | .sub, .Sub => true
  | _, _ => false
def nodup3 (i j l : Nat) : Bool := decide (i ≠ j) && (decide (i ≠ l) && decide (j ≠ l))
/-- name = [..] on one line -/
def lineB (T : Tab) (sc : Scope) (i : Nat) (y : Str) (py pos : Pos) (scope : Scope) : Bool := decide (T.N[i]? = some y) && (decide (sc.names.lookup y = some .local) && (decide (sc.kind = .function) && (py.line == pos.line && decide ((scope.names.any fun (n, k) => n == y && (k == .local || k == .cell)) = false))))
def chkLc (T : Tab) (sc : Scope) (i : Nat) : IE → Expr → Pos → Expr → Bool
  | .lc elt own tg it ifs, .Name y py, _, .ListComp elt' [⟨tg', it', ifs', n⟩] scope pos => lineB T sc i y py pos scope && chkE T sc sc (.lc elt own tg it ifs) (.ListComp elt' [⟨tg', it', ifs', n⟩] scope pos)
  | .lc2 elt own own1 tg it ifs tg1 it1 ifs1, .Name y py, _, .ListComp elt' [⟨tg', it', ifs', n⟩, ⟨tg1', it1', ifs1', n1⟩] scope pos => lineB T sc i y py pos scope && chkE T sc sc (.lc2 elt own own1 tg it ifs tg1 it1 ifs1) (.ListComp elt' [⟨tg', it', ifs', n⟩, ⟨tg1', it1', ifs1', n1⟩] scope pos)
  | _, _, _, _ => false
mutual
def chkS (T : Tab) (sc : Scope) : IS → Stmt → Bool
  | .asg t e, s => (match s with
    | .Assign [.Name x p] e' _ => isPat t && (swB sc x p e' && (chkG T sc sc t (.Name x p) && chkE T sc sc e e'))
    | .Assign [.Tuple xs k p] e' _ => isPat t && (tupB sc xs e' && (chkG T sc sc t (.Tuple xs k p) && chkE T sc sc e e'))
    | .Assign [.Subscript a i p] e' _ => plainB i && ((match t with
      | .ix a' i' => chkE T sc sc a' a && chkE T sc sc i' i
      | .dat a' i' => chkE T sc sc a' a && chkE T sc sc i' i
      | _ => false) && chkE T sc sc e e')
    | _ => false)
  | .setLc i e, s => (match s with
    | .Assign [t] e' pos => (match e with
      | .own e => chkLc T sc i e t pos e'
      | e => chkLc T sc i e t pos e')
    | _ => false)
  | .par is es, s => (match s with
    | .Assign [.Tuple [.Name x px, .Name y py] _ _] (.Tuple [a, b] _ _) _ => (match is with
      | [i, j] => decide (i ≠ j) && (decide (T.N[i]? = some x) && (decide (T.N[j]? = some y) && (par2B sc x px y py a b && chkEs T sc sc es [a, b])))
      | _ => false)
    | .Assign [.Tuple [.Name x px, .Name y py, .Name z pz] _ _] (.Tuple [a, b, d] _ _) _ => (match is with
      | [i, j, l] => nodup3 i j l && (decide (T.N[i]? = some x) && (decide (T.N[j]? = some y) && (decide (T.N[l]? = some z) && (par3B sc x px y py z pz a b d && chkEs T sc sc es [a, b, d]))))
      | _ => false)
    | _ => false)
  | .aug i o e, s => (match s with
    | .AugAssign (.Name x _) op e' _ => augB o op && (decide (T.N[i]? = some x) && (locB sc sc x && chkE T sc sc e e'))
    | _ => false)
  | .augS a i o e, s => (match s with
    | .AugAssign (.Subscript x y _) op e' _ => augB o op && (plainB y && (chkE T sc sc a x && (chkE T sc sc i y && chkE T sc sc e e')))
    | _ => false)
  | .ex e, s => (match s with
    | .Expr e' _ => notLc e' && chkE T sc sc e e'
    | _ => false)
  | .ret e, s => (match s with
    | .Return (some e') _ => chkE T sc sc e e'
    | _ => false)
  | .retN, s => (match s with
    | .Return none _ => true
    | _ => false)
  | .ife t a b, s => (match s with
    | .If t' a' b' _ => chkT T sc sc t t' && (chkSs T sc a a' && chkSs T sc b b')
    | _ => false)
  | .while t b, s => (match s with
    | .While t' b' [] _ => chkT T sc sc t t' && chkSs T sc b b'
    | _ => false)
  | .for t it b, s => (match s with
    | .For t' it' b' [] _ => isPat t && (notSet it' && (chkG T sc sc t t' && (chkI T sc sc it t' it' && chkSs T sc b b')))
    | _ => false)
  | .raise x, s => (match s with
    | .Raise (some (.Call (.Name n _) [] [] _)) none _ => decide (T.exc[x]? = some n) && (glB sc n && okN n)
    | _ => false)
  | .tr b hs, s => (match s with
    | .Try b' (h :: hs') [] [] _ => chkH T sc hs (h :: hs') && chkSs T sc b b'
    | _ => false)
  | .brk, s => (match s with
    | .Break _ => true
    | _ => false)
  | .cont, s => (match s with
    | .Continue _ => true
    | _ => false)
  | .pass, s => (match s with
    | .Pass _ => true
    | .Expr (.Constant (.str _) _ _) _ => true
    | _ => false)
def chkSs (T : Tab) (sc : Scope) : List IS → List Stmt → Bool
  | [], xs => xs.isEmpty
  | s :: r, xs => (match xs with
    | x :: xs => chkS T sc s x && chkSs T sc r xs
    | [] => false)
end
/-- what a def's body stands in -/
structure CtxS (T : Tab) (xv : Nat → Value) (c : Cfg) (X : Cx) (W : WX) (sc : Scope) : Prop extends CtxE T xv c X W sc sc where
  hp : PassesOwn (model X.prog X.w) X.A X.env X.xe
  stk : X.stack = X.env :: X.outer
  frm : X.env.frame = some X.env.locals
  exc : ∀ (i : Nat) (x : Str), T.exc[i]? = some x → ∃ (C : Addr) (bmB : List Value) (B newId initId : String), xv i = .ref C ∧ ExcBaseFacts B newId initId bmB ∧ PySem.W.excIn X.K C bmB newId = true ∧ X.mg x = some (.ref C) ∧ PySem.W.keepIn X.K (.ref C) = true ∧ Raises X (.ref C)
  hex : ∀ i x, i < c.nx → x < T.exc.length → PySem.W.exmOne X.K (xv i) (xv x) = some (x == i)
section
variable {T : Tab} {xv : Nat → Value} {c : Cfg}
theorem CtxS.tr {X : Cx} {W W' : WX} {sc : Scope} (C : CtxS T xv c X W sc) {pn : List (Addr × Obj)} {xe : Value → Shared → Prop} (tk : Takes (X.tr pn xe) W') (hp : PassesOwn (model X.prog X.w) X.A X.env xe) : CtxS T xv c (X.tr pn xe) W' sc :=
  { N := C.N, nd := C.nd, un := C.un, calm := C.calm, fns := C.fns, free := C.free, blt := C.blt, glob := C.glob, sc_ := C.sc_, sf_ := C.sf_, tk := tk, hp := hp, stk := C.stk, frm := C.frm, exc := C.exc, hex := C.hex }
mutual
theorem evG_pat : ∀ (t : IE) (d : D) (env : Env) (st : Store) (x : Nat) (s : Store) {sc sf : Scope} {e : Expr}, chkG T sc sf t e = true → evG c t d env st ≠ .exc x s
  | .v i, d, env, st, x, s, sc, sf, e, h => by
    intro z
    have z : R.ok (env.set i (some d)) st = R.exc x s := z
    cases z
  | .tup es, d, env, st, x, s, sc, sf, e, h => by
    intro z
    have z : (R.ofO (seqOf st d) fun ds => if ds.length = es.length then evGs c es ds env st else .stuck) = R.exc x s := z
    simp only [chkG] at h
    split at h
    · simp only [Bool.and_eq_true] at h
      cases ht : seqOf st d with
      | none =>
        rw [ht] at z
        cases z
      | some ds =>
        rw [ht] at z
        have z : (if ds.length = es.length then evGs c es ds env st else .stuck) = R.exc x s := z
        split at z
        · exact evGs_pat es ds env st x s h.2 z
        · cases z
    · cases h
  | .non, _, _, _, _, _, _, _, _, h | .bl _, _, _, _, _, _, _, _, _, h | .int _, _, _, _, _, _, _, _, _, h | .str _, _, _, _, _, _, _, _, _, h | .gl _, _, _, _, _, _, _, _, _, h | .lst _, _, _, _, _, _, _, _, _, h | .own _, _, _, _, _, _, _, _, _, h | .bin _ _ _, _, _, _, _, _, _, _, _, h
  | .neg _, _, _, _, _, _, _, _, _, h | .nt _, _, _, _, _, _, _, _, _, h | .and _, _, _, _, _, _, _, _, _, h | .or _, _, _, _, _, _, _, _, _, h | .cmp _ _ _, _, _, _, _, _, _, _, _, h | .chain _ _ _ _ _, _, _, _, _, _, _, _, _, h | .ife _ _ _, _, _, _, _, _, _, _, _, h | .ix _ _, _, _, _, _, _, _, _, _, h
  | .sl _ _ _, _, _, _, _, _, _, _, _, h | .slS _ _ _ _, _, _, _, _, _, _, _, _, h | .call _ _, _, _, _, _, _, _, _, _, h | .bi _ _, _, _, _, _, _, _, _, _, h | .me _ _ _, _, _, _, _, _, _, _, _, h | .isi _ _, _, _, _, _, _, _, _, _, h | .lc _ _ _ _ _, _, _, _, _, _, _, _, _, h | .lc2 _ _ _ _ _ _ _ _ _, _, _, _, _, _, _, _, _, h
  | .rng _, _, _, _, _, _, _, _, _, h | .enum _, _, _, _, _, _, _, _, _, h | .zip _ _, _, _, _, _, _, _, _, _, h | .walk _, _, _, _, _, _, _, _, _, h | .ezip _ _, _, _, _, _, _, _, _, _, h | .lset _, _, _, _, _, _, _, _, _, h | .lrng1 _, _, _, _, _, _, _, _, _, h | .lrng2 _ _, _, _, _, _, _, _, _, _, h | .kcall _ _ _, _, _, _, _, _, _, _, _, h | .dget _ _ _, _, _, _, _, _, _, _, _, h | .dnew, _, _, _, _, _, _, _, _, h | .dat _ _, _, _, _, _, _, _, _, _, h | .din _ _ _, _, _, _, _, _, _, _, _, h | .dg2 _ _ _, _, _, _, _, _, _, _, _, h => by simp [chkG] at h
theorem evGs_pat : ∀ (ts : List IE) (ds : List D) (env : Env) (st : Store) (x : Nat) (s : Store) {sc sf : Scope} {xs : List Expr}, chkGs T sc sf ts xs = true → evGs c ts ds env st ≠ .exc x s
  | [], ds, env, st, x, s, sc, sf, xs, h => by
    rw [evGs_nil]
    cases ds with
    | nil => intro z; cases z
    | cons _ _ => intro z; cases z
  | t :: r, ds, env, st, x, s, sc, sf, xs, h => by
    rw [evGs_cons]
    cases xs with
    | nil => simp [chkGs] at h
    | cons y ys =>
      simp only [chkGs, Bool.and_eq_true] at h
      cases ds with
      | nil => intro z; cases z
      | cons d ds =>
        intro z
        have z : ((evG c t d env st).bind fun env st => evGs c r ds env st) = R.exc x s := z
        revert z
        generalize e1 : evG c t d env st = q
        intro z
        cases q with
        | ok env2 st2 => exact evGs_pat r ds env2 st2 x s h.2 z
        | exc x2 s2 => exact evG_pat t d env st x2 s2 h.1 e1
        | stuck => cases z
end
theorem asub_ok {a b : Expr} {p : Pos} {env : PySem.Env} (h : plainB b = true) (v : Value) : assign (.Subscript a b p) env v = (do
      let ov ← holding [v] (eval a env)
      let iv ← holding [v, ov] (eval b env)
      standAt p
      holding [v, ov, iv] (setItem ov iv v)
      release [v, ov, iv] []) := by
  cases b <;> first | rfl | simp [plainB] at h
theorem augst_ok {b : Expr} (h : plainB b = true) (ov iv new : Value) : augStore b ov iv new = (do holding [new, ov, iv] (setItem ov iv new); release [new, ov, iv] []; pure .next) := by
  cases b <;> first | rfl | simp [plainB] at h
theorem aug_ok {X : Cx} {o : BO} {op : Operator} (h : augB o op = true) : AugE X op o := by
  cases o <;> cases op <;> first | (exact Bool.noConfusion (show false = true from h)) | skip
  · exact aug_add
  · exact aug_sub
theorem const_ok {X : Cx} {e : IE} {ce : Expr} (h : constB e ce = true) : (∀ (x : Option Expr) (l : Nat) (env : PySem.Env), swapsWith ce x l env = pure false) ∧ ∃ (d : D) (v : V), (∀ st, evE c e [] st = .ok d st) ∧ (∀ env st, evE c e env st = .ok d st) ∧ (∀ m H, RD X.K m H d v) ∧ ∀ a pn, PE (X.suite a pn) ce (tC v) := by
  unfold constB at h
  split at h
  · have h := eq_of_beq h
    subst h
    exact ⟨fun _ _ _ => rfl, .bl _, .bl _, fun _ => rfl, fun _ _ => rfl, fun m H => by simp only [RD], fun a pn => pe_bl⟩
  · have h := eq_of_beq h
    subst h
    exact ⟨fun _ _ _ => rfl, .int _, .int _, fun _ => rfl, fun _ _ => rfl, fun m H => by simp only [RD], fun a pn => pe_int⟩
  · exact ⟨fun _ _ _ => rfl, .non, .non, fun _ => rfl, fun _ _ => rfl, fun m H => by simp only [RD], fun a pn => pe_non⟩
  · simp only [decide_eq_true_eq] at h
    subst h
    exact ⟨fun _ _ _ => rfl, .str _, .str _, fun _ => rfl, fun _ _ => rfl, fun m H => by simp only [RD], fun a pn => pe_str⟩
  · cases h
theorem ckH {X : Cx} {W : WX} {sc : Scope} (C : CtxS T xv c X W sc) (env : Env) : ∀ (qs : List (Nat × Nat × IE)) (hs : List ExceptHandler), chkH T sc qs hs = true → Hds X xv (fun e st => evE c e [] st) hs qs ∧ (∀ q ∈ qs, q.1 < T.exc.length) ∧ ∀ q ∈ qs, ∀ env st, evE c q.2.2 env st = evE c q.2.2 [] st
  | [], hs, h => by
    cases hs with
    | nil => exact ⟨.nil, fun q hq => by simp at hq, fun q hq => by simp at hq⟩
    | cons _ _ => simp [chkH] at h
  | q :: r, hs, h => by
    simp only [chkH] at h
    split at h
    · rename_i n np y py ce spos hpos hs
      simp only [Bool.and_eq_true, decide_eq_true_eq] at h
      obtain ⟨h1, h2, h3, h4, h5, h6, h7⟩ := h
      obtain ⟨i1, i2, i3⟩ := ckH C env r hs h7
      obtain ⟨o1, o2, o3⟩ := okN_db h3
      obtain ⟨hsw, d, v, hv, hv', rd, pe⟩ := const_ok (c := c) (X := X) h6
      obtain ⟨Ca, bmB, B, newId, initId, e1, _, _, e2, _, _⟩ := C.exc q.1 n h1
      obtain ⟨l1, l2⟩ := C.loc h5
      refine ⟨.cons ⟨n, np, hpos, spos, py, y, ce, d, rfl, ⟨C.gl h2, o1, .inl (by rw [e1]; exact e2)⟩, by rw [C.N]; exact h4, l1, l2, hsw _ _ _, hv, v, rd, pe⟩ i1, fun q' hq => ?_, fun q' hq => ?_⟩
      · rcases List.mem_cons.mp hq with rfl | hq
        · exact (List.getElem?_eq_some_iff.mp h1).1
        · exact i2 q' hq
      · rcases List.mem_cons.mp hq with rfl | hq
        · intro env st
          rw [hv', hv]
        · exact i3 q' hq
    · cases h
theorem handle_eq (cn : Nat) (env env' : Env) (st : Store) : ∀ (qs : List (Nat × Nat × IE)), (∀ q ∈ qs, ∀ env st, evE c q.2.2 env st = evE c q.2.2 [] st) → handle qs cn env st (fun e st => evE c e env' st) = handle qs cn env st (fun e st => evE c e [] st)
  | [], _ => rfl
  | (x, i, e) :: r, h => by
    have h0 := h (x, i, e) List.mem_cons_self env' st
    have ih := handle_eq cn env env' st r fun q hq => h q (List.mem_cons_of_mem _ hq)
    show (if x = cn then (evE c e env' st).st env fun d st => .next (env.set i (some d)) st else handle r cn env st (fun e st => evE c e env' st)) = (if x = cn then (evE c e [] st).st env fun d st => .next (env.set i (some d)) st else handle r cn env st (fun e st => evE c e [] st))
    rw [show evE c e env' st = evE c e [] st from h0, ih]
theorem lc_line {X : Cx} {W : WX} {sc : Scope} (C : CtxS T xv c X W sc) {i : Nat} {e : IE} {t e' : Expr} {pos : Pos} (h : chkLc T sc i e t pos e' = true) :
    PS X (.Assign [t] e' pos) (tSv X.K xv W fun env st => (evE c e env st).st env fun d st => .next (env.set i (some d)) st) ∧
    PS X (.Assign [t] e' pos) (tSv X.K xv W fun env st => ((evE c e env st).bind ownD).st env fun d st => .next (env.set i (some d)) st) := by
  unfold chkLc at h
  split at h
  · rename_i elt own tg it ifs y py elt' tg' it' ifs' n scope lpos
    simp only [Bool.and_eq_true, lineB, decide_eq_true_eq] at h
    obtain ⟨⟨l1, l2, l3, l4, l5⟩, h⟩ := h
    simp only [chkE, Bool.and_eq_true, decide_eq_true_eq] at h
    obtain ⟨rfl, h2, h3, h4, h5, h6, h7, h8⟩ := h
    have P := s_setLc (pos := lpos) (spos := pos) (py := py) (own := ownP T.N own) C.calm C.nd (by rw [C.N]; exact l1) (by rw [C.sc_]; exact l2) (sw_true (by rw [C.sc_]; exact l3) (by rw [C.sc_]; exact l2) l4 l5) (ckI it C.toCtxE h5) (by rw [C.N, C.sc_]; exact blkOk_by h2) (fun s H A cl fp => ckG (C.toCtxE.blk _ s H A cl fp) tg _ h6) (fun s H A cl fp => ckTs ifs (C.toCtxE.blk _ s H A cl fp) h7) (fun s H A cl fp => (ckE elt (C.toCtxE.blk _ s H A cl fp) h8).1) (set_ok h3 _) (by rw [ownP_map]; exact contains_all h4)
    rw [ownP_map] at P
    exact P
  · rename_i elt own own1 tg it ifs tg1 it1 ifs1 y py elt' tg' it' ifs' n tg1' it1' ifs1' n1 scope lpos
    simp only [Bool.and_eq_true, lineB, decide_eq_true_eq] at h
    obtain ⟨⟨l1, l2, l3, l4, l5⟩, h⟩ := h
    simp only [chkE, Bool.and_eq_true, decide_eq_true_eq] at h
    obtain ⟨rfl, rfl, h2, h3, h3', h4, h4', h4'', h5, h6, h7, h5', h6', h7', h8⟩ := h
    have P := s_setLc2 (pos := lpos) (spos := pos) (py := py) (own := ownP T.N own) C.calm C.nd (by rw [C.N]; exact l1) (by rw [C.sc_]; exact l2) (sw_true (by rw [C.sc_]; exact l3) (by rw [C.sc_]; exact l2) l4 l5) (ckI it C.toCtxE h5) (by rw [C.N, C.sc_]; exact blkOk_by h2) (by rw [ownP_map]; exact contains_all h4'') (fun s H A cl fp => ckG (C.toCtxE.blk _ s H A cl fp) tg _ h6) (fun s H A cl fp => ckTs ifs (C.toCtxE.blk _ s H A cl fp) h7)
        (fun s H A cl fp => ckI it1 (C.toCtxE.blk _ s H A cl fp) h5') (fun s H A cl fp => ckG (C.toCtxE.blk _ s H A cl fp) tg1 _ h6') (fun s H A cl fp => ckTs ifs1 (C.toCtxE.blk _ s H A cl fp) h7') (fun s H A cl fp => (ckE elt (C.toCtxE.blk _ s H A cl fp) h8).1) (set_ok h3 _) (set_ok h3') (by rw [ownP_map]; exact contains_all h4) (contains_all h4')
    rw [ownP_map] at P
    exact P
  · cases h
set_option maxHeartbeats 2000000 in
mutual
theorem ckS : ∀ (is : IS) {X : Cx} {W : WX} {sc : Scope} {s : Stmt}, CtxS T xv c X W sc → chkS T sc is s = true → PS X s (tSv X.K xv W (evS c is))
  | .asg t e, X, W, sc, s, C, h => by
    simp only [chkS] at h
    split at h
    · rename_i x p e' pos
      simp only [Bool.and_eq_true] at h
      obtain ⟨_, h1, h2, h3⟩ := h
      exact s_asg (ckE e C.toCtxE h3).1 (ckG C.toCtxE t _ h2) (fun d env st x s => evG_pat t d env st x s h2) (sw_name (l := pos.line) C.sc_ h1) (ss_name _ _) rfl
    · rename_i xs k p e' pos
      simp only [Bool.and_eq_true] at h
      obtain ⟨_, h1, h2, h3⟩ := h
      exact s_asg (ckE e C.toCtxE h3).1 (ckG C.toCtxE t _ h2) (fun d env st x s => evG_pat t d env st x s h2) (sw_tup (xs := xs) (k := k) (p := p) e' pos.line X.env) (tupB_ok C.sc_ h1) rfl
    · rename_i a i p e' pos
      simp only [Bool.and_eq_true] at h
      obtain ⟨h1, h2, h3⟩ := h
      split at h2
      · simp only [Bool.and_eq_true] at h2
        exact s_sub (ckE e C.toCtxE h3).1 (ckE _ C.toCtxE h2.1).1 (ckE _ C.toCtxE h2.2).1 (asub_ok h1) (sw_sub (a := a) (b := i) (p := p) e' pos.line X.env) (ss_sub _ _) rfl
      · simp only [Bool.and_eq_true] at h2
        exact s_dsub C.un (ckE e C.toCtxE h3).1 (ckE _ C.toCtxE h2.1).1 (ckE _ C.toCtxE h2.2).1 (asub_ok h1) (sw_sub (a := a) (b := i) (p := p) e' pos.line X.env) (ss_sub _ _) rfl
      · cases h2
    · cases h
  | .setLc i e, X, W, sc, s, C, h => by
    simp only [chkS] at h
    split at h
    · split at h
      · exact (lc_line C h).2
      · exact (lc_line C h).1
    · cases h
  | .par is es, X, W, sc, s, C, h => by
    simp only [chkS] at h
    split at h
    · split at h
      · simp only [Bool.and_eq_true, decide_eq_true_eq] at h
        obtain ⟨h1, h2, h3, h4, h5⟩ := h
        have h4' := h4
        simp only [par2B, Bool.and_eq_true, decide_eq_true_eq] at h4'
        obtain ⟨_, _, k1, k2, _⟩ := h4'
        exact s_par2 C.calm C.nd (by rw [C.N]; exact h2) (by rw [C.N]; exact h3) h1 (by rw [C.sc_]; exact k1) (by rw [C.sc_]; exact k2) (ckEs es C.toCtxE h5).1 (ss_par2 C.sc_ h4)
      · cases h
    · split at h
      · simp only [Bool.and_eq_true, decide_eq_true_eq, nodup3] at h
        obtain ⟨⟨n1, n2, n3⟩, h2, h3, h3', h4, h5⟩ := h
        have h4' := h4
        simp only [par3B, Bool.and_eq_true, decide_eq_true_eq] at h4'
        obtain ⟨_, _, _, k1, k2, k3, _⟩ := h4'
        exact s_par3 C.calm C.nd (by rw [C.N]; exact h2) (by rw [C.N]; exact h3) (by rw [C.N]; exact h3') n1 n2 n3 (by rw [C.sc_]; exact k1) (by rw [C.sc_]; exact k2) (by rw [C.sc_]; exact k3) (ckEs es C.toCtxE h5).1 (ss_par3 C.sc_ h4)
      · cases h
    · cases h
  | .aug i o e, X, W, sc, s, C, h => by
    simp only [chkS] at h
    split at h
    · simp only [Bool.and_eq_true, decide_eq_true_eq] at h
      obtain ⟨h1, h2, h3, h4⟩ := h
      obtain ⟨l1, l2⟩ := C.loc h3
      exact s_aug C.nd (by rw [C.N]; exact h2) l1 (ckE e C.toCtxE h4).1 (aug_ok h1) l2
    · cases h
  | .augS a i o e, X, W, sc, s, C, h => by
    simp only [chkS] at h
    split at h
    · simp only [Bool.and_eq_true] at h
      obtain ⟨h1, h2, h3, h4, h5⟩ := h
      exact s_augS (ckE a C.toCtxE h3).1 (ckE i C.toCtxE h4).1 (ckE e C.toCtxE h5).1 (aug_ok h1) (augst_ok h2)
    · cases h
  | .ex e, X, W, sc, s, C, h => by
    simp only [chkS] at h
    split at h
    · simp only [Bool.and_eq_true] at h
      exact s_ex (ckE e C.toCtxE h.2).1 (sw_notLc h.1 _ _ _)
    · cases h
  | .ret e, X, W, sc, s, C, h => by
    simp only [chkS] at h
    split at h
    · exact s_ret (ckE e C.toCtxE h).1
    · cases h
  | .retN, X, W, sc, s, C, h => by
    simp only [chkS] at h
    split at h
    · exact s_retN
    · cases h
  | .ife t a b, X, W, sc, s, C, h => by
    simp only [chkS] at h
    split at h
    · simp only [Bool.and_eq_true] at h
      exact s_if (ckT t C.toCtxE h.1) (ckSs a C h.2.1) (ckSs b C h.2.2)
    · cases h
  | .while t b, X, W, sc, s, C, h => by
    simp only [chkS] at h
    split at h
    · simp only [Bool.and_eq_true] at h
      exact s_while C.hp (ckT t C.toCtxE h.1) (ckSs b C h.2)
    · cases h
  | .for t it b, X, W, sc, s, C, h => by
    simp only [chkS] at h
    split at h
    · simp only [Bool.and_eq_true] at h
      obtain ⟨_, h1, h2, h3, h4⟩ := h
      exact s_for C.hp C.calm (ckI it C.toCtxE h3) (ckG C.toCtxE t _ h2) (fun d env st x s => evG_pat t d env st x s h2) (ckSs b C h4) (set_ok h1 _)
    · cases h
  | .raise x, X, W, sc, s, C, h => by
    simp only [chkS] at h
    split at h
    · simp only [Bool.and_eq_true, decide_eq_true_eq] at h
      obtain ⟨h1, h2, h3⟩ := h
      obtain ⟨o1, o2, o3⟩ := okN_db h3
      obtain ⟨Ca, bmB, B, newId, initId, e1, F, e2, e3, e4, e5⟩ := C.exc x _ h1
      exact s_raise C.calm C.tk (by rw [e1]; exact pmk_own0 F e2 e3 e4 e5 (C.gl h2) o1)
    · cases h
  | .tr b hs, X, W, sc, s, C, h => by
    simp only [chkS] at h
    split at h
    · simp only [Bool.and_eq_true] at h
      obtain ⟨i1, i2, i3⟩ := ckH C [] hs _ h.1
      have P := s_try (pos := by assumption) C.nd C.stk C.frm C.tk C.hex i2 (fun W' pn xe tk hp => ckSs b (C.tr tk hp) h.2) i1
      refine PS.use P fun D σ H ⟨m, env, st, re, rs, p⟩ => ⟨m, env, st, re, rs, ?_⟩
      have p : PostS X.K xv W (gd X.K D) m H (evS c (.tr b hs) env st) := PostS.good p
      have e : (match evSs c b env st with
        | .exc x env st => if x < c.nx then handle hs x env st fun e st => evE c e [] st else .stuck
        | r => r) = evS c (.tr b hs) env st := by
        show _ = (match evSs c b env st with
          | .exc x env st => if x < c.nx then handle hs x env st fun e st => evE c e env st else .stuck
          | r => r)
        cases evSs c b env st with
        | exc x env2 st2 =>
          show (if x < c.nx then handle hs x env2 st2 fun e st => evE c e [] st else .stuck) = if x < c.nx then handle hs x env2 st2 fun e st => evE c e env2 st else .stuck
          rw [handle_eq x env2 env2 st2 hs i3]
        | _ => rfl
      rw [← e] at p
      exact p
    · cases h
  | .brk, X, W, sc, s, C, h => by
    simp only [chkS] at h
    split at h
    · exact s_brk
    · cases h
  | .cont, X, W, sc, s, C, h => by
    simp only [chkS] at h
    split at h
    · exact s_cont
    · cases h
  | .pass, X, W, sc, s, C, h => by
    simp only [chkS] at h
    split at h
    · exact s_pass
    · exact s_doc
    · cases h
theorem ckSs : ∀ (ss : List IS) {X : Cx} {W : WX} {sc : Scope} {xs : List Stmt}, CtxS T xv c X W sc → chkSs T sc ss xs = true → PSs X xs (tSv X.K xv W (evSs c ss))
  | [], X, W, sc, xs, C, h => by
    cases xs with
    | nil => exact ss_nil
    | cons _ _ => simp [chkSs] at h
  | s :: r, X, W, sc, xs, C, h => by
    cases xs with
    | nil => simp [chkSs] at h
    | cons x xs =>
      simp only [chkSs, Bool.and_eq_true] at h
      exact ss_cons (ckS s C h.1) (ckSs r C h.2)
end
end
end Ev

set_option Elab.async false
set_option linter.all false
set_option maxRecDepth 100000
set_option autoImplicit false
/-! Ev, part U: defs, by levels. -/
namespace Ev
open PySem PySem.Spec PyProof.Rows L2
/-! ### what a def leaves behind -/
mutual
def D.lt (n : Nat) : D → Bool
  | .tup l => D.lts n l
  | .lst l => D.lts n l
  | .fl l => D.lts n l
  | .ref i => decide (i < n)
  | _ => true
def D.lts (n : Nat) : List D → Bool
  | [] => true
  | d :: r => D.lt n d && D.lts n r
end
def frzL (f : D → Option D) : List D → Option (List D)
  | [] => some []
  | d :: r => match f d, frzL f r with
    | some x, some l => some (x :: l)
    | _, _ => none
/-- the new things in d as what they hold -/
def frz (n : Nat) (st : Store) : Nat → D → Option D
  | _, .non => some .non
  | _, .bl b => some (.bl b)
  | _, .int i => some (.int i)
  | _, .str s => some (.str s)
  | 0, _ => none
  | k + 1, .tup l => (frzL (frz n st k) l).map .tup
  | k + 1, .lst l => (frzL (frz n st k) l).map .lst
  | k + 1, .fl l => (frzL (frz n st k) l).map .fl
  | k + 1, .ref i => if i < n then some (.ref i) else match st[i]? with
    | some (.lst l) => (frzL (frz n st k) l).map .lst
    | _ => none
/-- values by keys, the same -/
def kvB {κ : Type} [DecidableEq κ] : List (κ × D) → List (κ × D) → Bool
  | [], [] => true
  | a :: as, b :: bs => decide (a.1 = b.1) && (D.beq a.2 b.2 && kvB as bs)
  | _, _ => false
theorem kvB_eq {κ : Type} [DecidableEq κ] : ∀ {a b : List (κ × D)}, kvB a b = true → a = b
  | [], [], _ => rfl
  | [], _ :: _, h => by simp [kvB] at h
  | _ :: _, [], h => by simp [kvB] at h
  | a :: as, b :: bs, h => by
    simp only [kvB, Bool.and_eq_true, decide_eq_true_eq] at h
    have e : a = b := Prod.ext h.1 (D.beq_eq _ _ h.2.1)
    rw [e, kvB_eq h.2.2]
theorem kvB_refl {κ : Type} [DecidableEq κ] : ∀ a : List (κ × D), kvB a a = true
  | [] => rfl
  | a :: as => by simp [kvB, kvB_refl as]
def O.beq : O → O → Bool
  | .lst a, .lst b => D.beqs a b
  | .dk a, .dk b => kvB a b
  | .dt a, .dt b => kvB a b
  | _, _ => false
theorem O.beq_refl (o : O) : O.beq o o = true := by
  cases o with
  | lst l => simp [O.beq]
  | dk l => exact kvB_refl l
  | dt l => exact kvB_refl l
def stSame : Store → Store → Bool
  | [], _ => true
  | a :: r, b :: s => O.beq a b && stSame r s
  | _ :: _, [] => false
theorem O.beq_eq {a b : O} (h : O.beq a b = true) : a = b := by
  cases a <;> cases b <;> simp only [O.beq, Bool.false_eq_true] at h
  · rw [D.beqs_eq _ _ h]
  · rw [kvB_eq h]
  · rw [kvB_eq h]
theorem stSame_eq : ∀ {a b : Store}, stSame a b = true → ∃ r, b = a ++ r
  | [], b, _ => ⟨b, rfl⟩
  | a :: r, [], h => by simp [stSame] at h
  | a :: r, b :: s, h => by
    simp only [stSame, Bool.and_eq_true] at h
    obtain ⟨t, e⟩ := stSame_eq h.2
    exact ⟨t, by rw [O.beq_eq h.1, e]; rfl⟩
section
variable {K : PySem.W.Frag} {m m' : Ms} {H H' : Hp} {st : Store}
mutual
theorem RD.lt : ∀ (d : D) (v : V), RD K m H d v → D.lt m.vis.length d = true
  | .non, v, h => rfl
  | .bl b, v, h => rfl
  | .int i, v, h => rfl
  | .str s, v, h => rfl
  | .tup l, v, h => by
    simp only [RD] at h
    obtain ⟨a, vs, e, q, h⟩ := h
    simp only [D.lt]
    exact RDs.lt l vs h
  | .lst l, v, h => by
    simp only [RD] at h
    obtain ⟨a, vs, e, q, n, h⟩ := h
    simp only [D.lt]
    exact RDs.lt l vs h
  | .fl l, v, h => by
    simp only [RD] at h
    obtain ⟨a, vs, e, q, h⟩ := h
    simp only [D.lt]
    exact RDs.lt l vs h
  | .ref i, v, h => by
    simp only [RD] at h
    obtain ⟨a, e, q⟩ := h
    simp only [D.lt, decide_eq_true_eq]
    exact (List.getElem?_eq_some_iff.mp e).1
theorem RDs.lt : ∀ (ds : List D) (vs : List V), RDs K m H ds vs → D.lts m.vis.length ds = true
  | [], vs, h => rfl
  | d :: ds, vs, h => by
    simp only [RDs] at h
    obtain ⟨v, r, e, q, h⟩ := h
    simp only [D.lts, Bool.and_eq_true]
    exact ⟨RD.lt d v q, RDs.lt ds r h⟩
end
mutual
theorem RD.cut (L : Lat m H m' H') : ∀ (d : D) (v : V), RD K m' H' d v → D.lt m.vis.length d = true → RD K m H' d v
  | .non, v, h, _ => by simpa only [RD] using h
  | .bl b, v, h, _ => by simpa only [RD] using h
  | .int i, v, h, _ => by simpa only [RD] using h
  | .str s, v, h, _ => by simpa only [RD] using h
  | .tup l, v, h, z => by
    simp only [RD] at h ⊢
    simp only [D.lt] at z
    obtain ⟨a, vs, e, q, h⟩ := h
    exact ⟨a, vs, e, q, RDs.cut L l vs h z⟩
  | .lst l, v, h, z => by
    simp only [RD] at h ⊢
    simp only [D.lt] at z
    obtain ⟨a, vs, e, q, n, h⟩ := h
    refine ⟨a, vs, e, q, ⟨fun k => n.1 ?_, fun k => n.2 (by rw [L.hid]; exact k)⟩, RDs.cut L l vs h z⟩
    obtain ⟨t, e⟩ := L.pre
    rw [e]
    exact List.mem_append_left _ k
  | .fl l, v, h, z => by
    simp only [RD] at h ⊢
    simp only [D.lt] at z
    obtain ⟨a, vs, e, q, h⟩ := h
    refine ⟨a, vs, e, ?_, RDs.cut L l vs h z⟩
    rcases q with ⟨q, n⟩ | q
    · refine .inl ⟨q, ⟨fun k => n.1 ?_, fun k => n.2 (by rw [L.hid]; exact k)⟩⟩
      obtain ⟨t, e⟩ := L.pre
      rw [e]
      exact List.mem_append_left _ k
    · exact .inr q
  | .ref i, v, h, z => by
    simp only [RD] at h ⊢
    simp only [D.lt, decide_eq_true_eq] at z
    obtain ⟨a, e, q⟩ := h
    refine ⟨a, ?_, q⟩
    obtain ⟨t, e'⟩ := L.pre
    rw [e', List.getElem?_append_left z] at e
    exact e
theorem RDs.cut (L : Lat m H m' H') : ∀ (ds : List D) (vs : List V), RDs K m' H' ds vs → D.lts m.vis.length ds = true → RDs K m H' ds vs
  | [], vs, h, _ => by simpa only [RDs] using h
  | d :: ds, vs, h, z => by
    simp only [RDs] at h ⊢
    simp only [D.lts, Bool.and_eq_true] at z
    obtain ⟨v, rr, e, q, h⟩ := h
    exact ⟨v, rr, e, RD.cut L d v q z.1, RDs.cut L ds rr h z.2⟩
end
theorem RKV.lt {κ : Type} : ∀ (ds : List (κ × D)) (vs : List (κ × V)), RKV K m H ds vs → ∀ p ∈ ds, D.lt m.vis.length p.2 = true
  | [], vs, h => fun p hp => by simp at hp
  | q :: ds, vs, h => fun p hp => by
    obtain ⟨v, rr, e, x, h⟩ := h
    rcases List.mem_cons.mp hp with rfl | hp
    · exact RD.lt _ v x
    · exact RKV.lt ds rr h p hp
theorem RKV.cut {κ : Type} (L : Lat m H m' H') : ∀ (ds : List (κ × D)) (vs : List (κ × V)), RKV K m' H' ds vs → (∀ p ∈ ds, D.lt m.vis.length p.2 = true) → RKV K m H' ds vs
  | [], vs, h, _ => h
  | q :: ds, vs, h, z => by
    obtain ⟨v, rr, e, x, h⟩ := h
    exact ⟨v, rr, e, RD.cut L _ v x (z q List.mem_cons_self), RKV.cut L ds rr h fun p hp => z p (List.mem_cons_of_mem _ hp)⟩
/-- what was made since is let go -/
theorem RS.cut {r : Store} (L : Lat m H m' H') (rs : RS K m H st) (rs' : RS K m' H' (st ++ r)) : RS K m H' st := by
  obtain ⟨t, et⟩ := L.pre
  refine ⟨rs.len, rs.nd, fun i o a e e' => ?_, fun a ha => ?_⟩
  · have hi := (List.getElem?_eq_some_iff.mp e).1
    have q := rs'.at_ i o a (by rw [List.getElem?_append_left hi]; exact e) (by rw [et, List.getElem?_append_left (by rw [← rs.len]; exact hi)]; exact e')
    have q0 := rs.at_ i o a e e'
    cases o with
    | lst l =>
      obtain ⟨vs, q, x⟩ := q
      obtain ⟨vs0, _, x0⟩ := q0
      exact ⟨vs, q, RDs.cut L _ _ x (RDs.lt _ _ x0)⟩
    | dk l =>
      obtain ⟨vs, q, x⟩ := q
      obtain ⟨vs0, _, x0⟩ := q0
      exact ⟨vs, q, RKV.cut L _ _ x (RKV.lt _ _ x0)⟩
    | dt l =>
      obtain ⟨vs, q, x⟩ := q
      obtain ⟨vs0, _, x0⟩ := q0
      exact ⟨vs, q, RKV.cut L _ _ x (RKV.lt _ _ x0)⟩
  · obtain ⟨n, vs, e⟩ := rs'.hd a (by rw [L.hid]; exact ha)
    exact ⟨fun k => n (by rw [et]; exact List.mem_append_left _ k), vs, e⟩
theorem Lat.cut (L : Lat m H m' H') : Lat m H m H' := ⟨⟨[], (List.append_nil _).symm⟩, rfl, fun _ h n => absurd h n, L.keep⟩
theorem frzL_at {f : D → Option D} (hf : ∀ d v d', RD K m' H' d v → f d = some d' → RD K m H' d' v) : ∀ (l : List D) (vs : List V) (l' : List D), RDs K m' H' l vs → frzL f l = some l' → RDs K m H' l' vs
  | [], vs, l', h, e => by
    simp only [frzL, Option.some.injEq] at e
    subst e
    simpa only [RDs] using h
  | d :: r, vs, l', h, e => by
    simp only [frzL] at e
    split at e
    · rename_i x l e1 e2
      cases e
      simp only [RDs] at h ⊢
      obtain ⟨v, rr, e, q, h⟩ := h
      exact ⟨v, rr, e, hf d v x q e1, frzL_at hf r rr l h e2⟩
    · cases e
theorem frz_at (L : Lat m H m' H') (rs' : RS K m' H' st) : ∀ (k : Nat) (d : D) (v : V) (d' : D), RD K m' H' d v → frz m.vis.length st k d = some d' → RD K m H' d' v := by
  have no : ∀ {a : Addr}, m'.No a → m.No a := fun {a} n => ⟨fun k => n.1 (by obtain ⟨t, e⟩ := L.pre; rw [e]; exact List.mem_append_left _ k), fun k => n.2 (by rw [L.hid]; exact k)⟩
  have hflat : ∀ (d : D) (v : V), flatB d = true → RD K m' H' d v → RD K m H' d v := fun d v hb h => by
    cases d <;> first | (simp only [RD] at h ⊢; exact h) | (simp [flatB] at hb)
  intro k
  induction k with
  | zero =>
    intro d v d' h e
    cases d <;> simp only [frz, Option.some.injEq, reduceCtorEq] at e <;> subst e <;> exact hflat _ _ rfl h
  | succ k ih =>
    intro d v d' h e
    cases d with
    | non => simp only [frz, Option.some.injEq] at e; subst e; exact hflat _ _ rfl h
    | bl b => simp only [frz, Option.some.injEq] at e; subst e; exact hflat _ _ rfl h
    | int b => simp only [frz, Option.some.injEq] at e; subst e; exact hflat _ _ rfl h
    | str b => simp only [frz, Option.some.injEq] at e; subst e; exact hflat _ _ rfl h
    | tup l =>
      simp only [frz, Option.map_eq_some_iff] at e
      obtain ⟨l', e, rfl⟩ := e
      simp only [RD] at h ⊢
      obtain ⟨a, vs, e1, q, h⟩ := h
      exact ⟨a, vs, e1, q, frzL_at ih l vs l' h e⟩
    | lst l =>
      simp only [frz, Option.map_eq_some_iff] at e
      obtain ⟨l', e, rfl⟩ := e
      simp only [RD] at h ⊢
      obtain ⟨a, vs, e1, q, n, h⟩ := h
      exact ⟨a, vs, e1, q, no n, frzL_at ih l vs l' h e⟩
    | fl l =>
      simp only [frz, Option.map_eq_some_iff] at e
      obtain ⟨l', e, rfl⟩ := e
      simp only [RD] at h ⊢
      obtain ⟨a, vs, e1, q, h⟩ := h
      refine ⟨a, vs, e1, ?_, frzL_at ih l vs l' h e⟩
      rcases q with ⟨q, n⟩ | q
      · exact .inl ⟨q, no n⟩
      · exact .inr q
    | ref i =>
      simp only [RD] at h
      obtain ⟨a, e1, rfl⟩ := h
      simp only [frz] at e
      by_cases hi : i < m.vis.length
      · rw [if_pos hi] at e
        cases e
        simp only [RD]
        refine ⟨a, ?_, rfl⟩
        obtain ⟨t, et⟩ := L.pre
        rw [et, List.getElem?_append_left hi] at e1
        exact e1
      · rw [if_neg hi] at e
        split at e
        · rename_i l el
          simp only [Option.map_eq_some_iff] at e
          obtain ⟨l', e, rfl⟩ := e
          obtain ⟨vs, hq, hx⟩ := rs'.at_ i _ a el e1
          simp only [RD]
          refine ⟨a, vs, rfl, hq, ⟨fun k => ?_, fun k => ?_⟩, frzL_at ih l vs l' hx e⟩
          · obtain ⟨j, hj, ej⟩ := List.getElem_of_mem k
            have e2 : m'.vis[j]? = some a := by
              obtain ⟨t, et⟩ := L.pre
              rw [et, List.getElem?_append_left hj, List.getElem?_eq_getElem hj, ej]
            have := nodup_ix_addr rs'.nd e1 e2
            omega
          · exact (rs'.hd a (by rw [L.hid]; exact k)).1 (List.mem_of_getElem? e1)
        · cases e
end
/-! ### defs -/
/-- a def: its names, how many arguments, its body; keep: what it gives back may be changed -/
structure FI where
  N : List Str
  n : Nat
  ir : List IS
  keep : Bool
/-- the end of a def -/
def finD (keep : Bool) (st0 : Store) (d : D) (st : Store) : R D :=
  if keep = true then .ok d st else if stSame st0 st = true then (match frz st0.length st 9 d with
    | some d' => .ok d' st0
    | none => .ok d st) else .ok d st
def finX (st0 : Store) (c : Nat) (st : Store) : R D := if stSame st0 st = true then .exc c st0 else .exc c st
def endF (keep : Bool) (st0 : Store) : RSt → R D
  | .ret d st => finD keep st0 d st
  | .next _ st => finD keep st0 .non st
  | .exc c _ st => finX st0 c st
  | _ => .stuck
def startE (N : List Str) (ds : List D) : Env := ds.map some ++ List.replicate (N.length - ds.length) none
def runF (c : Cfg) (f : FI) (ds : List D) (st : Store) : R D := endF f.keep st (evSs c f.ir (startE f.N ds) st)
/-- defs that call one another, by levels -/
def callL (F : List FI) (glob : List D) (fuel nx : Nat) : Nat → Nat → List D → Store → R D
  | 0, _, _, _ => .stuck
  | j + 1, f, ds, st => match F[f]? with
    | some d => runF ⟨callL F glob fuel nx j, glob, fuel, nx⟩ d ds st
    | none => .stuck
theorem RE.start {K : PySem.W.Frag} {m : Ms} {H : Hp} {N : List Str} {ds : List D} {vs : List V} (x : RDs K m H ds vs) : RE K m H (startE N ds) (L2.start N vs) := by
  have hl := x.length
  refine ⟨by simp [startE, L2.start, hl], fun i d e => ?_⟩
  unfold startE at e
  unfold L2.start
  by_cases hi : i < ds.length
  · rw [List.getElem?_append_left (by simpa using hi)] at e
    rw [List.getElem?_map] at e
    cases e1 : ds[i]? with
    | none => rw [e1] at e; cases e
    | some d' =>
      rw [e1] at e
      cases e
      obtain ⟨v, ev, q⟩ := x.get e1
      exact ⟨v, by rw [List.getElem?_append_left (by rw [List.length_map, ← hl]; exact hi), List.getElem?_map, ev]; rfl, q⟩
  · rw [List.getElem?_append_right (by simpa using Nat.le_of_not_lt hi)] at e
    rw [List.getElem?_replicate] at e
    split at e <;> cases e
/-- what a law's module gives -/
structure Laws (K : PySem.W.Frag) (mg : Str → Option Value) (T : Tab) (F : List FI) (glob : List D) (nx : Nat) (xv : Nat → Value) : Prop where
  fns : ∀ (f : Nat) (x : Str) (n : Nat), T.fns[f]? = some (x, n) → ∃ (fi : FI) (fa : Addr) (fd : FuncData) (name qual : Str) (params : Arguments) (body : List Stmt) (scope : Scope) (ps : List Str),
    F[f]? = some fi ∧ fi.n = n ∧ mg x = some (.ref fa) ∧ FunD K name qual params body scope [] [] fa fd ∧ FnScope fi.N ps scope ∧ ps.length = n ∧ BindsB T.kws[f]? K fd ps ∧ chkSs { T with N := fi.N } scope fi.ir body = true
  free : ∀ x ∈ T.free, mg x = none
  blt : ∀ x ∈ T.blt, mg x = some (.builtin "math.gcd")
  glob : ∀ (i : Nat) (x : Str), T.glb[i]? = some x → ∀ d, glob[i]? = some d → ∃ v u, mg x = some u ∧ RelV v u ∧ ∀ m H, RD K m H d v
  exc : ∀ (i : Nat) (x : Str), T.exc[i]? = some x → ∃ C : Addr, xv i = .ref C ∧ PySem.W.excIn K C He.veBase "ValueError.__new__" = true ∧ mg x = some (.ref C) ∧ PySem.W.keepIn K (.ref C) = true ∧ PySem.W.subIn K (.ref C) (.type "BaseException") = some true ∧ PySem.W.typeIn K (.ref C) = some (.type "type")
  hex : ∀ i x, i < nx → x < T.exc.length → PySem.W.exmOne K (xv i) (xv x) = some (x == i)
section
variable {P : Program} {w : World} {K : PySem.W.Frag} {mg : Str → Option Value} {base : Heap} {T : Tab} {F : List FI} {glob : List D} {fuel nx : Nat} {xv : Nat → Value}
theorem end_post {KK : PySem.W.Frag} {m : Ms} {H : Hp} {st : Store} {keep : Bool} {r : RSt} {Q : VK} {E : XK} {N : List Str} (rs : RS KK m H st)
    (p : match endF keep st r with
      | .ok d st' => ∀ m' H' v, Lat m H m' H' → RD KK m' H' d v → RS KK m' H' st' → Q v H'
      | .exc c st' => ∀ m' H', Lat m H m' H' → RS KK m' H' st' → E (xv c) none H'
      | .stuck => False) :
    PostS KK xv (fun cls d _ H => E cls d H) { nx := fun _ H' => Q .non H', rt := Q } m H r := by
  have fin : ∀ (d : D) (st1 : Store), (match finD keep st d st1 with
      | .ok d st' => ∀ m' H' v, Lat m H m' H' → RD KK m' H' d v → RS KK m' H' st' → Q v H'
      | .exc c st' => ∀ m' H', Lat m H m' H' → RS KK m' H' st' → E (xv c) none H'
      | .stuck => False) → ∀ m' H' v, Lat m H m' H' → RD KK m' H' d v → RS KK m' H' st1 → Q v H' := by
    intro d st1 p m' H' v L x rs'
    unfold finD at p
    by_cases hk : keep = true
    · rw [if_pos hk] at p
      exact p m' H' v L x rs'
    · rw [if_neg hk] at p
      by_cases hs : stSame st st1 = true
      · rw [if_pos hs] at p
        obtain ⟨r, e⟩ := stSame_eq hs
        cases ef : frz st.length st1 9 d with
        | none =>
          rw [ef] at p
          exact p m' H' v L x rs'
        | some d' =>
          rw [ef] at p
          rw [rs.len] at ef
          have x' := frz_at L rs' 9 d v d' x ef
          subst e
          exact p m H' v L.cut x' (RS.cut L rs rs')
      · rw [if_neg hs] at p
        exact p m' H' v L x rs'
  cases r with
  | next env st1 => exact fun m' H' σ' L re rs' => fin .non st1 p m' H' .non L (by simp only [RD]) rs'
  | ret d st1 => exact fun m' H' v L x rs' _ => fin d st1 p m' H' v L x rs'
  | exc c env st1 =>
    intro m' H' σ' L re rs'
    have p : match finX st c st1 with
      | .ok d st' => ∀ m' H' v, Lat m H m' H' → RD KK m' H' d v → RS KK m' H' st' → Q v H'
      | .exc c st' => ∀ m' H', Lat m H m' H' → RS KK m' H' st' → E (xv c) none H'
      | .stuck => False := p
    unfold finX at p
    by_cases hs : stSame st st1 = true
    · rw [if_pos hs] at p
      obtain ⟨r, e⟩ := stSame_eq hs
      exact p m H' L.cut (RS.cut (r := r) L rs (by rw [← e]; exact rs'))
    · rw [if_neg hs] at p
      exact p m' H' L rs'
  | brk env st1 => exact p.elim
  | cont env st1 => exact p.elim
  | stuck => exact p.elim
theorem level_step {j : Nat} (Y : Laws K mg T F glob nx xv)
    (ih : ∀ (f : Nat) (x : Str) (n : Nat), T.fns[f]? = some (x, n) → ∃ (fa : Addr) (fd : FuncData) (ps : List Str), FnOk P w K mg base (L2.CX P w) j fa fd ps (spD K xv n (callL F glob fuel nx j f)) ∧ mg x = some (.ref fa) ∧ PySem.W.keepIn K (.ref fa) = true ∧ BindsB T.kws[f]? K fd ps)
    {f n : Nat} {fi : FI} {fa : Addr} {fd : FuncData} {name qual : Str} {params : Arguments} {body : List Stmt} {scope : Scope} {ps : List Str}
    (hF : F[f]? = some fi) (hn : fi.n = n) (FD : FunD K name qual params body scope [] [] fa fd) (S : FnScope fi.N ps scope) (hp : ps.length = n) (hc : chkSs { T with N := fi.N } scope fi.ir body = true) :
    FnOk P w K mg base (L2.CX P w) (j + 1) fa fd ps (spD K xv n (callL F glob fuel nx (j + 1) f)) := by
    refine FD.ok S (fun vs H Q E ⟨z, _⟩ => z.trans hp.symm) (fun cdv A outer s H vs Q E hr ⟨hl, m, ds, st, x, rs, p⟩ => ?_)
    generalize hX : cxOf (L2.CX P w) P w K mg base fi.N qual scope fa cdv A outer s H E = X
    have C : CtxS { T with N := fi.N } xv ⟨callL F glob fuel nx j, glob, fuel, nx⟩ X (fun cls d _ H => E cls d H) scope := by
      subst hX
      exact
      { N := rfl, nd := S.nd, un := by
          have := hr.un
          show (A.deeper _).units + 64 < cLine
          omega
        calm := rfl
        fns := fun f x n h => by
          obtain ⟨fa, fd, ps, G, a, b, d⟩ := ih f x n h
          exact ⟨j, fa, fd, ps, G, hr, a, b, d⟩
        free := Y.free
        blt := Y.blt
        glob := Y.glob
        sc_ := rfl
        sf_ := fun _ _ => rfl
        tk := takes_of rfl rfl rfl rfl
        hp := passes_of rfl
        stk := rfl
        frm := rfl
        exc := fun i x h => by
          obtain ⟨Ca, e1, e2, e3, e4, e5, e6⟩ := Y.exc i x h
          exact ⟨Ca, _, _, _, _, e1, PySem.F.excBase_ValueError, e2, e3, e4, raises_own e5 e6⟩
        hex := Y.hex }
    refine ⟨_, ckSs fi.ir C hc, m, startE fi.N ds, st, ?_, ?_, ?_⟩
    · subst hX
      exact RE.start x
    · subst hX
      exact rs
    · have p : match callL F glob fuel nx (j + 1) f ds st with
        | .ok d st' => ∀ m' H' v, Lat m H m' H' → RD K m' H' d v → RS K m' H' st' → Q v H'
        | .exc c st' => ∀ m' H', Lat m H m' H' → RS K m' H' st' → E (xv c) none H'
        | .stuck => False := p
      unfold callL at p
      rw [hF] at p
      subst hX
      exact end_post (N := fi.N) rs p
theorem level (Y : Laws K mg T F glob nx xv) : ∀ (j : Nat) (f : Nat) (x : Str) (n : Nat), T.fns[f]? = some (x, n) → ∃ (fa : Addr) (fd : FuncData) (ps : List Str),
    FnOk P w K mg base (L2.CX P w) j fa fd ps (spD K xv n (callL F glob fuel nx j f)) ∧ mg x = some (.ref fa) ∧ PySem.W.keepIn K (.ref fa) = true ∧ BindsB T.kws[f]? K fd ps
  | 0, f, x, n, h => by
    obtain ⟨fi, fa, fd, name, qual, params, body, scope, ps, hF, hn, hm, FD, S, hp, hb, hc⟩ := Y.fns f x n h
    exact ⟨fa, fd, ps, ⟨fun vs H Q E ⟨_, _, _, _, _, _, z⟩ => z.elim, fun A outer s H args us vs Q E _ _ _ _ ⟨_, _, _, _, _, _, z⟩ => z.elim⟩, hm, FD.kp, hb⟩
  | j + 1, f, x, n, h => by
    obtain ⟨fi, fa, fd, name, qual, params, body, scope, ps, hF, hn, hm, FD, S, hp, hb, hc⟩ := Y.fns f x n h
    exact ⟨fa, fd, ps, level_step Y (level Y j) hF hn FD S hp hc, hm, FD.kp, hb⟩
end
end Ev

set_option Elab.async false
set_option linter.all false
set_option maxRecDepth 100000
set_option autoImplicit false
/-! Ev, part V: a law. -/
namespace Ev
open PySem PySem.Spec PyProof.Rows L2
/-- a def of a law's module: its text, its form, its parameters -/
structure LD where
  dd : He.DefD
  fi : FI
  ps : List Str
  kw : List (List Str × List Nat)
/-- a constant of the module -/
inductive CD where
  | i (n : Int) | t (l : List Int)
def CD.d : CD → D
  | .i n => .int n
  | .t l => .tup (l.map .int)
def CD.fa (x : Str) : CD → He.Fa
  | .i n => .int x n
  | .t _ => .glo x
def CD.ok (K : PySem.W.Frag) (x : Str) : CD → Bool
  | .i _ => true
  | .t l => He.tupB K x (l.map He.Dv.int)
/-- what is asked of the heap beyond the facts -/
def exOf (consts : List (Str × CD)) (blt : List Str) (K : PySem.W.Frag) : Bool := blt.all (fun x => He.eqO (PySem.W.nsIn K mainGlobals x) (some (some (.builtin "math.gcd")))) && consts.all fun q => q.2.ok K q.1
def tabOf (ds : List LD) (consts : List (Str × CD)) (exc free blt : List Str) : Tab := ⟨[], ds.map (fun q => (q.dd.at_.1, q.fi.n)), consts.map (·.1), exc, free, blt, ds.map (·.kw)⟩
def faOf (ds : List LD) (consts : List (Str × CD)) (exc free : List Str) : List He.Fa :=
  ds.map (fun q => .glo q.dd.at_.1) ++ (free.map .free ++ (exc.map .exc ++ (exc.map .glo ++ ((exc.flatMap fun x => exc.map fun y => .exm x y (decide (x = y))) ++ consts.map fun q => q.2.fa q.1))))
def scopeB (N ps : List Str) (sc : Scope) : Bool :=
  decide (sc.kind = .function) && (decide (sc.isCoroutine = false) && (decide (sc.isGenerator = false) && (decide N.Nodup && (decide (N.take ps.length = ps) && ((ps.all fun x => decide (sc.names.lookup x = some .local) || decide (sc.names.lookup x = some .cell)) && sc.names.all fun y => decide (y.2 ≠ .free))))))
theorem scopeB_ok {N ps : List Str} {sc : Scope} (h : scopeB N ps sc = true) : FnScope N ps sc := by
  simp only [scopeB, Bool.and_eq_true, decide_eq_true_eq, List.all_eq_true, Bool.or_eq_true] at h
  obtain ⟨h1, h2, h3, h4, h5, h6, h7⟩ := h
  exact ⟨h1, h2, h3, h4, h5, h6, h7⟩
def chkD (T : Tab) (q : LD) : Bool :=
  decide (q.dd.at_.2 = none) && (q.dd.dfl.isEmpty && (q.dd.kwd.isEmpty && (scopeB q.fi.N q.ps q.dd.scope && (decide (q.ps.length = q.fi.n) && chkSs { T with N := q.fi.N } q.dd.scope q.fi.ir q.dd.body))))
def BindOk (q : LD) : Prop := ∀ (kV doc pm : Value) (an : Option Addr) (cdv ct : Value) (us : List Value), us.length = q.ps.length → bindArgs (PySem.W.fnOf q.dd.name q.dd.qual q.dd.params q.dd.body q.dd.scope .none kV doc pm an cdv ct) ⟨us, []⟩ = pure (q.ps.zip us)
def KwOk (q : LD) (e : List Str × List Nat) : Prop := ∀ (kV doc pm : Value) (an : Option Addr) (cdv ct : Value) (ws : List Value), ws.length = e.1.length → bindArgs (PySem.W.fnOf q.dd.name q.dd.qual q.dd.params q.dd.body q.dd.scope .none kV doc pm an cdv ct) ⟨[], e.1.zip ws⟩ = pure (q.ps.zip (permL e.2 ws))
def AllEv {α : Type} (P : α → Prop) : List α → Prop
  | [] => True
  | q :: r => P q ∧ AllEv P r
theorem AllEv.mem {α : Type} {P : α → Prop} : ∀ {l : List α}, AllEv P l → ∀ q ∈ l, P q
  | [], _, q, h => by simp at h
  | a :: l, h, q, hq => by
    rcases List.mem_cons.mp hq with rfl | hq
    · exact h.1
    · exact AllEv.mem h.2 q hq
def KwsOk (q : LD) : Prop := AllEv (KwOk q) q.kw
theorem kb_of {K : PySem.W.Frag} {x qual : Str} {params : Arguments} {body : List Stmt} {scope : Scope} {kws : List (Str × V)} {f : Addr} {fd : FuncData} {ps ks : List Str} {p : List Nat} (F : L2.FunD K x qual params body scope [] kws f fd)
    (h : ∀ (kV doc pm : Value) (an : Option Addr) (cdv ct : Value) (ws : List Value), ws.length = ks.length → bindArgs (PySem.W.fnOf x qual params body scope .none kV doc pm an cdv ct) ⟨[], ks.zip ws⟩ = pure (ps.zip (permL p ws))) : KB K fd ps ks p := by
  obtain ⟨oc, od, dV, kV, doc, pm, an, cdv, ct, osl, rfl, lk, hcd, hD, hK⟩ := F.ex
  rcases hD with ⟨_, rfl⟩ | ⟨e, _⟩
  · refine ⟨fun s us ws _ l1 l2 => ?_, fun _ r => permL_vals r p⟩
    cases us with
    | nil => exact .of_eq (h kV doc pm an cdv ct ws l2)
    | cons _ _ => cases l1
  · exact absurd rfl e
def xvOf (K : PySem.W.Frag) (exc : List Str) (i : Nat) : Value := match exc[i]? with
  | some x => .ref (He.ga K x)
  | none => .none
section
variable {P : Program} {w : World} {K : PySem.W.Frag} {mg : Str → Option Value} {h : Heap} {ds : List LD} {consts : List (Str × CD)} {exc free blt : List Str}
theorem laws_of (c : He.SaysD (faOf ds consts exc free) (ds.map (·.dd)) K) (KX : K.In h) (G : h.Ns mainGlobals mg) (hd : ds.all (chkD (tabOf ds consts exc free blt)) = true) (hb : AllEv BindOk ds) (hkw : AllEv KwsOk ds) (hex : exOf consts blt K = true) (hx : exc.Nodup) :
    Laws K mg (tabOf ds consts exc free blt) (ds.map (·.fi)) (consts.map fun q => q.2.d) exc.length (xvOf K exc) := by
  have fact : ∀ f ∈ faOf ds consts exc free, f.ok K = true := fun f hf => c.facts hf
  have hex := Bool.and_eq_true_iff.mp hex
  refine ⟨fun f x n hf => ?_, fun x hx => ?_, fun x hx => ?_, fun i x hi d hd => ?_, fun i x hi => ?_, fun i x hi hx' => ?_⟩
  · have hf : (ds.map fun q => (q.dd.at_.1, q.fi.n))[f]? = some (x, n) := hf
    rw [List.getElem?_map] at hf
    cases e : ds[f]? with
    | none => rw [e] at hf; cases hf
    | some q =>
      have e1' := e
      rw [e] at hf
      have hf : (q.dd.at_.1, q.fi.n) = (x, n) := Option.some.inj hf
      have hq := List.mem_of_getElem? e
      have hc := List.all_eq_true.mp hd q hq
      simp only [chkD, Bool.and_eq_true, decide_eq_true_eq, List.isEmpty_iff] at hc
      obtain ⟨c1, c2, c3, c4, c5, c6⟩ := hc
      obtain ⟨fd, FD⟩ := c.defs (List.mem_map_of_mem (f := (·.dd)) hq)
      have e1 : q.dd.dvs K = [] := by unfold He.DefD.dvs; rw [c2]; rfl
      have e2 : q.dd.kws K = [] := by unfold He.DefD.kws; rw [c3]; rfl
      rw [e1, e2] at FD
      have e3 : He.fAd K q.dd.at_ = He.ga K q.dd.at_.1 := by unfold He.fAd; rw [c1]
      rw [e3] at FD
      have g := He.glo_ok KX G (fact (.glo q.dd.at_.1) (List.mem_append_left _ (List.mem_map_of_mem (f := fun q : LD => He.Fa.glo q.dd.at_.1) hq)))
      cases hf
      refine ⟨q.fi, _, fd, _, _, _, _, _, q.ps, by rw [List.getElem?_map, e]; rfl, rfl, g, FD, scopeB_ok c4, c5, ⟨FD.bindsN (hb.mem q hq), fun r er e he => ?_⟩, c6⟩
      have er : (ds.map (·.kw))[f]? = some r := er
      rw [List.getElem?_map, e1'] at er
      cases er
      have a1 : AllEv (KwOk q) q.kw := hkw.mem q hq
      exact kb_of FD (a1.mem e he)
  · exact He.free_ok KX G (fact (.free x) (List.mem_append_right _ (List.mem_append_left _ (List.mem_map_of_mem hx))))
  · exact PySem.W.mg_of KX G (He.eqO_ok (List.all_eq_true.mp hex.1 x hx))
  · have hi : (consts.map (·.1))[i]? = some x := hi
    rw [List.getElem?_map] at hi hd
    cases e : consts[i]? with
    | none => rw [e] at hi; cases hi
    | some q =>
      rw [e] at hi hd
      cases hi
      cases hd
      have hm := List.mem_of_getElem? e
      have hfa := fact (q.2.fa q.1) (List.mem_append_right _ (List.mem_append_right _ (List.mem_append_right _ (List.mem_append_right _ (List.mem_append_right _ (List.mem_map_of_mem (f := fun q : Str × CD => q.2.fa q.1) hm))))))
      have hok := List.all_eq_true.mp hex.2 q hm
      obtain ⟨y, cd⟩ := q
      cases cd with
      | i n =>
        obtain ⟨t, g⟩ := He.int_ok KX G hfa
        exact ⟨.int n, _, g, ⟨t, rfl⟩, fun m H => by simp only [RD, CD.d]⟩
      | t l =>
        have g := He.glo_ok KX G hfa
        refine ⟨.ref (He.ga K y), _, g, rfl, fun m H => ?_⟩
        have q := He.tupB_ok hok H
        have e2 : (l.map He.Dv.int).map (He.Dv.v K) = l.map V.int := by rw [List.map_map]; rfl
        rw [e2] at q
        simp only [RD, CD.d]
        exact ⟨_, _, rfl, q, RDs.ofInts l⟩
  · have hm := List.mem_of_getElem? hi
    obtain ⟨a, b, d, e⟩ := He.exc_ok (fact (.exc x) (List.mem_append_right _ (List.mem_append_right _ (List.mem_append_left _ (List.mem_map_of_mem hm)))))
    have g := He.glo_ok KX G (fact (.glo x) (List.mem_append_right _ (List.mem_append_right _ (List.mem_append_right _ (List.mem_append_left _ (List.mem_map_of_mem hm))))))
    have hi : exc[i]? = some x := hi
    exact ⟨He.ga K x, by unfold xvOf; rw [hi], a, g, b, d, e⟩
  · have hx' : x < exc.length := hx'
    have hm : He.Fa.exm exc[i] exc[x] (decide (exc[i] = exc[x])) ∈ faOf ds consts exc free := by
      refine List.mem_append_right _ (List.mem_append_right _ (List.mem_append_right _ (List.mem_append_right _ (List.mem_append_left _ ?_))))
      exact List.mem_flatMap.mpr ⟨exc[i], List.getElem_mem hi, List.mem_map_of_mem (f := fun y => He.Fa.exm exc[i] y (decide (exc[i] = y))) (List.getElem_mem hx')⟩
    have g := He.exm_ok (fact _ hm)
    unfold xvOf
    rw [List.getElem?_eq_getElem hi, List.getElem?_eq_getElem hx']
    have e : decide (exc[i] = exc[x]) = (x == i) := by
      by_cases q : x = i
      · subst q
        simp
      · have : exc[i] ≠ exc[x] := fun z => q ((List.getElem_inj hx).mp z).symm
        simp [q, this]
    rw [← e]
    exact g
/-- without exceptions -/
theorem to0 {base : Heap} {k : Nat} {f : Addr} {fd : FuncData} {ps : List Str} {sp : Sp} (F : FnOk P w K mg base (L2.CX P w) k f fd ps sp) : FnOk P w K mg base CX0 k f fd ps fun vs H Q _ => sp vs H Q fun _ _ _ => False :=
  ⟨fun vs H Q E h => F.len vs H Q _ h, fun A outer s H args us vs Q E hr e0 hb r h => codeAny_mono (F.run A outer s H args us vs Q _ hr e0 hb r h) fun r s' x => by
    cases r with
    | ok f => cases f <;> exact x
    | error e =>
      obtain ⟨_, _, _, _, _, _, _, _, _, _, _, _, z⟩ := x
      exact z.elim⟩
theorem fn_any {base : Heap} {k : Nat} {f : Addr} {fd : FuncData} {ps : List Str} {ι : Type} {sp : ι → Sp} (F : ∀ i, FnOk P w K mg base CX0 k f fd ps (sp i)) : FnOk P w K mg base CX0 k f fd ps fun vs H Q E => ∃ i, sp i vs H Q E :=
  ⟨fun vs H Q E ⟨i, h⟩ => (F i).len vs H Q E h, fun A outer s H args us vs Q E hr e0 hb r ⟨i, h⟩ => (F i).run A outer s H args us vs Q E hr e0 hb r h⟩
/-- the law's def keeps its promise: what is left is the evaluator's word -/
theorem law_done (c : He.SaysD (faOf ds consts exc free) (ds.map (·.dd)) K) (KX : K.In h) (G : h.Ns mainGlobals mg) (hd : ds.all (chkD (tabOf ds consts exc free blt)) = true) (hb : AllEv BindOk ds) (hkw : AllEv KwsOk ds) (hex : exOf consts blt K = true) (hx : exc.Nodup)
    {f j most : Nat} {q : LD} (hq : ds[f]? = some q) (hat : q.dd.at_.1 = "law") (hps : q.ps = [("script" : Str)]) {fa : Addr} (hfa : mg "law" = some (.ref fa))
    (go : ∀ ns : List Int, ns.length ≤ most → ∃ fuel, callL (ds.map (·.fi)) (consts.map fun q => q.2.d) fuel exc.length (j + 1) f [.fl (ns.map .int)] [] = .ok (.bl true) []) :
    ∃ (fd : FuncData) (sp : Sp), (∀ (s : Shared) (u : Value), BindsTo s fd ⟨[u], []⟩ [("script", u)]) ∧
      (∀ (H : Hp) (a : Addr) (ns : List Int), ns.length ≤ most → Only H → SqL K H a (ns.map V.int) → sp [.ref a] H (fun v _ => v = .bl true) fun _ _ _ => False) ∧
      ∀ base : Heap, K.In base → base.Ns mainGlobals mg → FnOk P w K mg base CX0 (j + 1) fa fd ["script"] sp := by
  have Y := laws_of c KX G hd hb hkw hex hx
  have hm := List.mem_of_getElem? hq
  have hc := List.all_eq_true.mp hd q hm
  simp only [chkD, Bool.and_eq_true, decide_eq_true_eq, List.isEmpty_iff] at hc
  obtain ⟨c1, c2, c3, c4, c5, c6⟩ := hc
  obtain ⟨fd, FD⟩ := c.defs (List.mem_map_of_mem (f := (·.dd)) hm)
  have e1 : q.dd.dvs K = [] := by unfold He.DefD.dvs; rw [c2]; rfl
  have e2 : q.dd.kws K = [] := by unfold He.DefD.kws; rw [c3]; rfl
  rw [e1, e2] at FD
  have e3 : He.fAd K q.dd.at_ = He.ga K q.dd.at_.1 := by unfold He.fAd; rw [c1]
  rw [e3] at FD
  have g := He.glo_ok KX G (c.facts (f := .glo q.dd.at_.1) (List.mem_append_left _ (List.mem_map_of_mem (f := fun q : LD => He.Fa.glo q.dd.at_.1) hm)))
  have e4 : He.ga K q.dd.at_.1 = fa := by
    rw [hat] at g ⊢
    rw [hfa] at g
    cases g
    rfl
  rw [e4] at FD
  have hn : q.fi.n = 1 := by rw [← c5, hps]; rfl
  refine ⟨fd, fun vs H Q E => ∃ fuel, spD K (xvOf K exc) 1 (callL (ds.map (·.fi)) (consts.map fun q => q.2.d) fuel exc.length (j + 1) f) vs H Q fun _ _ _ => False, fun s u => ?_, fun H a ns hl hO hS => ?_, fun base _ _ => ?_⟩
  · have := FD.bindsA (ps := q.ps) (hb.mem q hm) s [u] (by rw [hps]; rfl)
    rw [hps] at this
    exact this
  · obtain ⟨fuel, e⟩ := go ns hl
    refine ⟨fuel, rfl, ⟨[], []⟩, [.fl (ns.map .int)], [], ?_, ⟨rfl, List.nodup_nil, fun i o a e => by simp at e, fun a ha => by simp at ha⟩, ?_⟩
    · refine RDs.cons ?_ .nil
      simp only [RD]
      refine ⟨a, ns.map V.int, rfl, ?_, RDs.ofInts ns⟩
      rcases hS with k | k
      · exact .inl ⟨k, by simp, by simp⟩
      · exact .inr k
    · rw [e]
      intro m' H' v _ x _
      simpa only [RD] using x
  · have S := scopeB_ok c4
    rw [hps] at S c5
    exact fn_any fun fuel => to0 (level_step (fuel := fuel) Y (level Y j) (by rw [List.getElem?_map, hq]; rfl) hn FD S rfl c6)
end
end Ev

set_option Elab.async false
set_option linter.all false
set_option maxRecDepth 100000
set_option autoImplicit false
/-! Ev, part W: what the evaluator computes, for proofs by hand. -/
namespace Ev
open PySem PySem.Spec PyProof.Rows L2
/-- a comprehension whose turns leave the store -/
theorem compL_pure {gs : List (Nat × List D)} {body : D → Store → R (Option D)} {st : Store} (f : D → Option D) : ∀ {ds : List D}, guards gs st = true → (∀ d ∈ ds, body d st = .ok (f d) st) → compL gs body ds st = .ok (ds.filterMap f) st
  | [], hg, _ => by simp [compL, hg]
  | d :: r, hg, h => by
    have ih := compL_pure f (ds := r) hg fun d hd => h d (List.mem_cons_of_mem _ hd)
    simp only [compL, hg, if_true, h d List.mem_cons_self, ih, List.filterMap_cons]
    cases f d <;> rfl
theorem compL_map {gs : List (Nat × List D)} {body : D → Store → R (Option D)} {st : Store} (f : D → D) {ds : List D} (hg : guards gs st = true) (h : ∀ d ∈ ds, body d st = .ok (some (f d)) st) : compL gs body ds st = .ok (ds.map f) st := by
  rw [compL_pure (fun d => some (f d)) hg h, List.filterMap_eq_map']
/-- a loop by an invariant: I i env st before the i-th item -/
theorem forL_inv {gs : List (Nat × List D)} {body : D → Env → Store → RSt} (I : Nat → Env → Store → Prop) {ds : List D} (hg : ∀ i env st, i ≤ ds.length → I i env st → guards gs st = true)
    (hs : ∀ i d env st, ds[i]? = some d → I i env st → ∃ env' st', (body d env st = .next env' st' ∨ body d env st = .cont env' st') ∧ I (i + 1) env' st') {env : Env} {st : Store} (h0 : I 0 env st) :
    ∃ env' st', forL gs body ds env st = .next env' st' ∧ I ds.length env' st' := by
  have go : ∀ (n i : Nat) (env : Env) (st : Store), n + i = ds.length → I i env st → ∃ env' st', forL gs body (ds.drop i) env st = .next env' st' ∧ I ds.length env' st' := by
    intro n
    induction n with
    | zero =>
      intro i env st e h
      have e : i = ds.length := by omega
      subst e
      refine ⟨env, st, ?_, h⟩
      rw [List.drop_length]
      simp [forL, hg _ _ _ (Nat.le_refl _) h]
    | succ n ih =>
      intro i env st e h
      have hi : i < ds.length := by omega
      rw [List.drop_eq_getElem_cons hi]
      obtain ⟨env', st', hb, h'⟩ := hs i ds[i] env st (List.getElem?_eq_getElem hi) h
      obtain ⟨env2, st2, e2, h2⟩ := ih (i + 1) env' st' (by omega) h'
      refine ⟨env2, st2, ?_, h2⟩
      simp only [forL, hg i env st (Nat.le_of_lt hi) h, if_true]
      rcases hb with hb | hb <;> rw [hb] <;> exact e2
  have := go ds.length 0 env st (by omega) h0
  rwa [List.drop_zero] at this
/-- a comprehension that changes the store -/
theorem compL_inv {gs : List (Nat × List D)} {body : D → Store → R (Option D)} (I : Nat → List D → Store → Prop) {ds : List D} (hg : ∀ i acc st, i ≤ ds.length → I i acc st → guards gs st = true)
    (hs : ∀ i d acc st, ds[i]? = some d → I i acc st → ∃ o st', body d st = .ok o st' ∧ I (i + 1) (acc ++ o.toList) st') {st : Store} (h0 : I 0 [] st) :
    ∃ l st', compL gs body ds st = .ok l st' ∧ I ds.length l st' := by
  have go : ∀ (n i : Nat) (acc : List D) (st : Store), n + i = ds.length → I i acc st → ∃ l st', compL gs body (ds.drop i) st = .ok l st' ∧ I ds.length (acc ++ l) st' := by
    intro n
    induction n with
    | zero =>
      intro i acc st e h
      have e : i = ds.length := by omega
      subst e
      refine ⟨[], st, ?_, by rw [List.append_nil]; exact h⟩
      rw [List.drop_length]
      simp [compL, hg _ _ _ (Nat.le_refl _) h]
    | succ n ih =>
      intro i acc st e h
      have hi : i < ds.length := by omega
      rw [List.drop_eq_getElem_cons hi]
      obtain ⟨o, st', hb, h'⟩ := hs i ds[i] acc st (List.getElem?_eq_getElem hi) h
      obtain ⟨l, st2, e2, h2⟩ := ih (i + 1) _ st' (by omega) h'
      refine ⟨o.toList ++ l, st2, ?_, by rw [← List.append_assoc]; exact h2⟩
      simp only [compL, hg i acc st (Nat.le_of_lt hi) h, if_true, hb, e2]
      cases o <;> rfl
  obtain ⟨l, st', e, h⟩ := go ds.length 0 [] st (by omega) h0
  rw [List.drop_zero] at e
  exact ⟨l, st', e, by simpa using h⟩
end Ev

set_option Elab.async false
set_option linter.all false
set_option maxRecDepth 100000
set_option autoImplicit false
/-! Ev, part X: the draws. -/
namespace Ev
open PySem PySem.Spec PyProof.Rows L2
def takeF : FI := ⟨["tin", "below_so", "once_so", "wide_so", "twice_so", "drawn_so"], 2, [
    .ife (.cmp .gt (.ix (.v 0) (.int 0)) (.int 0)) [.asg (.v 5) (.bin .mod (.bi .int [(.ix (.v 0) (.int 0))]) (.v 1)), .asg (.ix (.v 0) (.int 0)) (.bin .fdiv (.ix (.v 0) (.int 0)) (.v 1)), .ret (.v 5)] [],
    .asg (.ix (.v 0) (.int 2)) (.bin .add (.ix (.v 0) (.int 2)) (.int 1)),
    .asg (.v 2) (.bin .mod (.bi .int [(.bin .mul (.bin .add (.ix (.v 0) (.int 1)) (.bin .mul (.int 48271) (.ix (.v 0) (.int 2)))) (.bin .add (.int 39373) (.ix (.v 0) (.int 2))))]) (.int 2147483647)),
    .asg (.v 3) (.bin .add (.bin .mod (.bi .int [(.v 2)]) (.int 40009)) (.int 7)),
    .asg (.v 4) (.bin .mod (.bi .int [(.bin .mul (.bin .add (.bin .add (.v 2) (.ix (.v 0) (.int 2))) (.bin .fdiv (.ix (.v 0) (.int 1)) (.int 1000003))) (.v 3))]) (.int 2147483629)),
    .ret (.bin .mod (.bi .int [(.bin .fdiv (.bin .mod (.bi .int [(.bin .add (.bin .mul (.v 4) (.int 48271)) (.v 2))]) (.int 2147483587)) (.int 64))]) (.v 1))], true⟩
/-- the state of the draws at place t: n draws at most so far -/
def Tin (st : Store) (t : Nat) (k : Int) : Prop := ∃ a s n : Int, st[t]? = some (.lst [.int a, .int s, .int n]) ∧ 0 ≤ n ∧ n ≤ k
theorem take_big (c : Cfg) (st : Store) (t : Nat) (a s n b : Int) (h : st[t]? = some (.lst [.int a, .int s, .int n])) (ha : 0 < a) (hb : 0 < b) (hb2 : b.natAbs.log2 < 9000) : runF c takeF [.ref t, .int b] st = .ok (.int (a % b)) (st.set t (.lst [.int (a / b), .int s, .int n])) := by
  have hl : t < st.length := (List.getElem?_eq_some_iff.mp h).1
  simp [runF, takeF, startE, evSs, evS, evT, evE, evAs, evG, R.bind, R.st, R.ofO, RSt.seq, endF, finD, ixD, items, h, cmpD, cmpI, ha, hb, binD, binInt, binI, biD, biD1, intD, setD, ownL, atI, ixN, hb2]
theorem take_small (c : Cfg) (st : Store) (t : Nat) (a s n b : Int) (h : st[t]? = some (.lst [.int a, .int s, .int n])) (ha : ¬ 0 < a) (hb : 0 < b) (hn : 0 ≤ n) (hn2 : n ≤ 1000000) : ∃ r : Int, runF c takeF [.ref t, .int b] st = .ok (.int (r % b)) (st.set t (.lst [.int a, .int s, .int (n + 1)])) := by
  obtain ⟨hl, hv⟩ := List.getElem?_eq_some_iff.mp h
  have s1 : small (39373 + (n + 1)) = true := by simp only [small, Bool.and_eq_true, decide_eq_true_eq]; omega
  have s2 : small 48271 = true := by decide
  have g1 : Nat.log2 1000003 < 9000 := by decide +kernel
  have g2 : Nat.log2 64 < 9000 := by decide +kernel
  have s3 : ∀ x : Int, small (x % 40009 + 7) = true := fun x => by simp only [small, Bool.and_eq_true, decide_eq_true_eq]; omega
  refine ⟨((((s + 48271 * (n + 1)) * (39373 + (n + 1)) % 2147483647 + (n + 1) + s / 1000003) * ((s + 48271 * (n + 1)) * (39373 + (n + 1)) % 2147483647 % 40009 + 7) % 2147483629 * 48271 + (s + 48271 * (n + 1)) * (39373 + (n + 1)) % 2147483647) % 2147483587) / 64, ?_⟩
  simp [runF, takeF, startE, evSs, evS, evT, evE, evAs, evG, R.bind, R.st, R.ofO, RSt.seq, endF, finD, ixD, items, hv, hl, cmpD, cmpI, ha, hb, binD, binInt, binI, biD, biD1, intD, setD, ownL, atI, ixN, s1, s2, s3, g1, g2]
theorem take_ok (c : Cfg) (st : Store) (t : Nat) (k b : Int) (h : Tin st t k) (hb : 0 < b) (hb2 : b.natAbs.log2 < 9000) (hk : k ≤ 1000000) : ∃ (r : Int) (l : List D), runF c takeF [.ref t, .int b] st = .ok (.int r) (st.set t (.lst l)) ∧ 0 ≤ r ∧ r < b ∧ Tin (st.set t (.lst l)) t (k + 1) := by
  obtain ⟨a, s, n, h, h0, h1⟩ := h
  have hl : t < st.length := (List.getElem?_eq_some_iff.mp h).1
  by_cases ha : 0 < a
  · exact ⟨_, _, take_big c st t a s n b h ha hb hb2, Int.emod_nonneg _ (by omega), Int.emod_lt_of_pos _ hb, a / b, s, n, List.getElem?_set_self hl, h0, by omega⟩
  · obtain ⟨r, e⟩ := take_small c st t a s n b h ha hb h0 (by omega)
    exact ⟨_, _, e, Int.emod_nonneg _ (by omega), Int.emod_lt_of_pos _ hb, a, s, n + 1, List.getElem?_set_self hl, by omega, by omega⟩
end Ev

set_option Elab.async false
set_option linter.all false
set_option maxRecDepth 100000
set_option autoImplicit false
/-! Ev, part Z: for the laws' own proofs: data that holds no changing list, what a def gives back, stores that change in few places. -/
namespace Ev
open PySem PySem.Spec PyProof.Rows L2
abbrev intsL (xs : List Int) : List D := xs.map .int
abbrev rowD (xs : List Int) : D := .tup (intsL xs)
/-! ### data -/
mutual
def pureB : Nat → D → Bool
  | _, .non => true
  | _, .bl _ => true
  | _, .int _ => true
  | _, .str _ => true
  | 0, _ => false
  | k + 1, .tup l => pureBs k l
  | k + 1, .lst l => pureBs k l
  | k + 1, .fl l => pureBs k l
  | _ + 1, .ref _ => false
def pureBs : Nat → List D → Bool
  | _, [] => true
  | k, d :: r => pureB k d && pureBs k r
end
mutual
theorem frz_pure (n : Nat) (st : Store) : ∀ (k : Nat) (d : D), pureB k d = true → frz n st k d = some d
  | _, .non, _ => by simp [frz]
  | _, .bl _, _ => by simp [frz]
  | _, .int _, _ => by simp [frz]
  | _, .str _, _ => by simp [frz]
  | 0, .tup _, h | 0, .lst _, h | 0, .fl _, h | 0, .ref _, h => by simp [pureB] at h
  | k + 1, .tup l, h => by simp only [pureB] at h; simp [frz, frzL_pure n st k l h]
  | k + 1, .lst l, h => by simp only [pureB] at h; simp [frz, frzL_pure n st k l h]
  | k + 1, .fl l, h => by simp only [pureB] at h; simp [frz, frzL_pure n st k l h]
  | _ + 1, .ref _, h => by simp [pureB] at h
theorem frzL_pure (n : Nat) (st : Store) : ∀ (k : Nat) (l : List D), pureBs k l = true → frzL (frz n st k) l = some l
  | _, [], _ => rfl
  | k, d :: r, h => by
    simp only [pureBs, Bool.and_eq_true] at h
    simp [frzL, frz_pure n st k d h.1, frzL_pure n st k r h.2]
end
@[simp] theorem pureBs_ints (k : Nat) : ∀ xs : List Int, pureBs k (intsL xs) = true
  | [] => by simp [intsL, pureBs]
  | x :: r => by
    have := pureBs_ints k r
    simp only [intsL] at this
    simp [intsL, pureBs, pureB, this]
@[simp] theorem pureBs_mapInt (k : Nat) (xs : List Int) : pureBs k (xs.map .int) = true := pureBs_ints k xs
theorem finD_pure {kp : Bool} {st : Store} {d : D} (h : pureB 9 d = true) : finD kp st d st = .ok d st := by
  unfold finD
  rw [frz_pure _ _ 9 d h]
  split
  · rfl
  · split <;> rfl
theorem finX_same {st : Store} {c : Nat} : finX st c st = .exc c st := by
  unfold finX
  split <;> rfl
/-- any store (once: a store of lists) -/
def LstS (st : Store) : Prop := ∀ o ∈ st, O.beq o o = true
theorem LstS.any (st : Store) : LstS st := fun o _ => O.beq_refl o
theorem LstS.same : ∀ {st : Store} (x : Store), LstS st → stSame st (st ++ x) = true
  | [], x, _ => rfl
  | o :: r, x, h => by
    simp only [List.cons_append, stSame, Bool.and_eq_true]
    exact ⟨O.beq_refl o, LstS.same x (LstS.any r)⟩
theorem LstS.app {st x : Store} (h : LstS st) (hx : LstS x) : LstS (st ++ x) := .any _
theorem LstS.one (l : List D) : LstS [.lst l] := .any _
theorem LstS.nil : LstS [] := .any _
theorem LstS.set {st : Store} (h : LstS st) (i : Nat) (l : List D) : LstS (st.set i (.lst l)) := .any _
theorem finD_new {st x : Store} {d d' : D} (h : LstS st) (e : frz st.length (st ++ x) 9 d = some d') : finD false st d (st ++ x) = .ok d' st := by
  unfold finD
  simp [h.same x, e]
theorem finX_new {st x : Store} {c : Nat} (h : LstS st) : finX st c (st ++ x) = .exc c st := by
  unfold finX
  simp [h.same x]
/-! ### stores -/
/-- the store changed at the places ws alone; it may have grown -/
def Ch (ws : List Nat) (st st' : Store) : Prop := st.length ≤ st'.length ∧ ∀ i, i < st.length → i ∉ ws → st'[i]? = st[i]?
theorem Ch.refl {ws : List Nat} {st : Store} : Ch ws st st := ⟨Nat.le_refl _, fun _ _ _ => rfl⟩
theorem Ch.trans {ws : List Nat} {st st' st'' : Store} (a : Ch ws st st') (b : Ch ws st' st'') : Ch ws st st'' :=
  ⟨Nat.le_trans a.1 b.1, fun i h n => (b.2 i (Nat.lt_of_lt_of_le h a.1) n).trans (a.2 i h n)⟩
theorem Ch.mono {ws ws' : List Nat} {st st' : Store} (a : Ch ws st st') (h : ∀ i ∈ ws, i ∈ ws') : Ch ws' st st' := ⟨a.1, fun i l n => a.2 i l fun q => n (h i q)⟩
theorem Ch.set {ws : List Nat} {st : Store} {i : Nat} {o : O} (h : i ∈ ws) : Ch ws st (st.set i o) :=
  ⟨by simp, fun j _ n => List.getElem?_set_ne (show i ≠ j from fun q => n (by rw [← q]; exact h))⟩
theorem Ch.app {ws : List Nat} {st x : Store} : Ch ws st (st ++ x) := ⟨by simp, fun j h _ => List.getElem?_append_left h⟩
theorem Ch.at {ws : List Nat} {st st' : Store} {i : Nat} {o : O} (a : Ch ws st st') (h : st[i]? = some o) (n : i ∉ ws) : st'[i]? = some o := by
  rw [a.2 i (List.getElem?_eq_some_iff.mp h).1 n, h]
theorem Ch.tin {ws : List Nat} {st st' : Store} {t : Nat} {k : Int} (a : Ch ws st st') (h : Tin st t k) (n : t ∉ ws) : Tin st' t k := by
  obtain ⟨x, y, z, h, r⟩ := h
  exact ⟨x, y, z, a.at h n, r⟩
theorem Tin.mono {st : Store} {t : Nat} {k k' : Int} (h : Tin st t k) (l : k ≤ k') : Tin st t k' := by
  obtain ⟨x, y, z, h, a, b⟩ := h
  exact ⟨x, y, z, h, a, by omega⟩
theorem Tin.lt {st : Store} {t : Nat} {k : Int} (h : Tin st t k) : t < st.length := by
  obtain ⟨x, y, z, h, a, b⟩ := h
  exact (List.getElem?_eq_some_iff.mp h).1
/-- a draw, the store told by what stays -/
theorem take_ch (c : Cfg) (st : Store) (t : Nat) (k b : Int) (h : Tin st t k) (hl : LstS st) (hb : 0 < b) (hb2 : b < 2 ^ 62) (hk : k < 1000000) :
    ∃ (r : Int) (st' : Store), runF c takeF [.ref t, .int b] st = .ok (.int r) st' ∧ 0 ≤ r ∧ r < b ∧ Tin st' t (k + 1) ∧ Ch [t] st st' ∧ st'.length = st.length ∧ LstS st' := by
  have hb3 : b.natAbs.log2 < 9000 := by
    have : b.natAbs < 2 ^ 62 := by omega
    have h0 : b.natAbs ≠ 0 := by omega
    have := (Nat.log2_lt h0).mpr this
    omega
  obtain ⟨r, l, e, h0, h1, T⟩ := take_ok c st t k b h hb hb3 (by omega)
  exact ⟨r, _, e, h0, h1, T, .set (by simp), by simp, hl.set _ _⟩
/-! ### stepping -/
section
variable {α β : Type} {a : α} {st : Store} {env : Env} {n : Nat}
@[simp] theorem bind_ok {k : α → Store → R β} : (R.ok a st).bind k = k a st := by simp only [R.bind]
@[simp] theorem bind_exc {k : α → Store → R β} : (R.exc n st : R α).bind k = .exc n st := by simp only [R.bind]
@[simp] theorem bind_stuck {k : α → Store → R β} : (R.stuck : R α).bind k = .stuck := by simp only [R.bind]
@[simp] theorem ofO_some {k : α → R β} : R.ofO (some a) k = k a := by simp only [R.ofO]
@[simp] theorem ofO_none {k : α → R β} : R.ofO (none : Option α) k = .stuck := by simp only [R.ofO]
@[simp] theorem st_ok {k : α → Store → RSt} : (R.ok a st).st env k = k a st := by simp only [R.st]
@[simp] theorem st_exc {k : α → Store → RSt} : (R.exc n st : R α).st env k = .exc n env st := by simp only [R.st]
@[simp] theorem seq_next {k : Env → Store → RSt} : (RSt.next env st).seq k = k env st := by simp only [RSt.seq]
@[simp] theorem seq_ret {k : Env → Store → RSt} {d : D} : (RSt.ret d st).seq k = .ret d st := by simp only [RSt.seq]
@[simp] theorem seq_exc {k : Env → Store → RSt} : (RSt.exc n env st).seq k = .exc n env st := by simp only [RSt.seq]
@[simp] theorem endF_ret {kp : Bool} {st0 : Store} {d : D} : endF kp st0 (.ret d st) = finD kp st0 d st := by simp only [endF]
@[simp] theorem endF_exc {kp : Bool} {st0 : Store} : endF kp st0 (.exc n env st) = finX st0 n st := by simp only [endF]
end
theorem runF_eq (c : Cfg) (f : FI) (ds : List D) (st : Store) : runF c f ds st = endF f.keep st (evSs c f.ir (startE f.N ds) st) := by simp only [runF]
/-! ### statements, one by one -/
theorem step {c : Cfg} {s : IS} {r : List IS} {env env' : Env} {st st' : Store} {x : RSt} (h : evS c s env st = .next env' st') (k : evSs c r env' st' = x) : evSs c (s :: r) env st = x := by
  simp only [evSs, h, RSt.seq, k]
theorem stepX {c : Cfg} {s : IS} {r : List IS} {env env' : Env} {st st' : Store} {n : Nat} (h : evS c s env st = .exc n env' st') : evSs c (s :: r) env st = .exc n env' st' := by
  simp only [evSs, h, RSt.seq]
theorem stepR {c : Cfg} {s : IS} {r : List IS} {env : Env} {st st' : Store} {d : D} (h : evS c s env st = .ret d st') : evSs c (s :: r) env st = .ret d st' := by
  simp only [evSs, h, RSt.seq]
theorem forS {c : Cfg} {t it : IE} {b : List IS} {env env' : Env} {st st' : Store} {src : Src} (hi : evI c it env st = .ok src st) (hl : forL src.gs (fun d env st => (evG c t d env st).st env fun env st => evSs c b env st) src.ds env st = .next env' st') :
    evS c (.for t it b) env st = .next env' st' := by
  simp only [evS, hi, st_ok, hl]
theorem runF_ret {c : Cfg} {f : FI} {ds : List D} {st st' : Store} {d : D} (h : evSs c f.ir (startE f.N ds) st = .ret d st') : runF c f ds st = finD f.keep st d st' := by
  rw [runF_eq, h, endF_ret]
/-- a comprehension of one clause and no test, whose turns leave the store -/
theorem lc_map {c : Cfg} {elt tg it : IE} {own : List Nat} {env : Env} {st : Store} {src : Src} (f : D → D) (hi : evI c it env st = .ok src st) (hg : guards src.gs st = true)
    (hb : ∀ d ∈ src.ds, ((evG c tg d (wipeE env own) st).bind fun env st => (evE c elt env st).bind fun x st => R.ok (some x) st) = .ok (some (f d)) st) :
    evE c (.lc elt own tg it []) env st = .ok (.lst (src.ds.map f)) st := by
  have := compL_map (gs := src.gs) (body := fun d st => (evG c tg d (wipeE env own) st).bind fun env st => (evE c elt env st).bind fun x st => R.ok (some x) st) (st := st) f hg hb
  simp only [evE, hi, R.bind, evTs, if_true] at this ⊢
  rw [this]
@[simp] theorem guards_nil (st : Store) : guards [] st = true := by simp [guards]
theorem boolsD_true : ∀ l : List D, boolsD (l.map fun _ => D.bl true) = some (l.map fun _ => true)
  | [] => rfl
  | _ :: r => by simp [boolsD, boolsD_true r]
end Ev

set_option Elab.async false
set_option linter.all false
set_option maxRecDepth 100000
set_option autoImplicit true
/-! Ev, part Za: the evaluator, construct by construct, without comprehensions and loops (printed by a program of ours). -/
namespace Ev
open PySem PySem.Spec PyProof.Rows L2
section
variable {c : Cfg} {env : Env} {st : Store}
@[simp] theorem evE_1 {u0} : evE c .non u0 st = .ok .non st := by simp only [evE]
@[simp] theorem evE_2 {b} {u0} : evE c (.bl b) u0 st = .ok (.bl b) st := by simp only [evE]
@[simp] theorem evE_3 {i} {u0} : evE c (.int i) u0 st = .ok (.int i) st := by simp only [evE]
@[simp] theorem evE_4 {s} {u0} : evE c (.str s) u0 st = .ok (.str s) st := by simp only [evE]
@[simp] theorem evE_5 {i} : evE c (.v i) env st = .ofO env[i]?.join fun d => .ok d st := by simp only [evE]
@[simp] theorem evE_6 {i} {u0} : evE c (.gl i) u0 st = .ofO c.glob[i]? fun d => .ok d st := by simp only [evE]
@[simp] theorem evE_7 {es} : evE c (.tup es) env st = (evAs c es env st).bind fun ds st => .ok (.tup ds) st := by simp only [evE]
@[simp] theorem evE_8 {es} : evE c (.lst es) env st = (evAs c es env st).bind fun ds st => .ok (.lst ds) st := by simp only [evE]
@[simp] theorem evE_9 {e} : evE c (.own e) env st = (evE c e env st).bind ownD := by simp only [evE]
@[simp] theorem evE_10 {o} {a} {b} : evE c (.bin o a b) env st = (evE c a env st).bind fun x st => (evE c b env st).bind fun y st => binD o x y st := by simp only [evE]
@[simp] theorem evE_11 {a} : evE c (.neg a) env st = (evE c a env st).bind fun x st => .ofO (negD x) fun i => .ok (.int i) st := by simp only [evE]
@[simp] theorem evE_12 {a} : evE c (.nt a) env st = (evE c a env st).bind fun d st => .ofO (truD st d) fun b => .ok (.bl (!b)) st := by simp only [evE]
@[simp] theorem evE_13 {es} : evE c (.and es) env st = evAnd c es env st := by simp only [evE]
@[simp] theorem evE_14 {es} : evE c (.or es) env st = evOr c es env st := by simp only [evE]
@[simp] theorem evE_15 {o} {a} {b} : evE c (.cmp o a b) env st = (evE c a env st).bind fun x st => (evE c b env st).bind fun y st => .ofO (cmpD o x y st) fun k => .ok (.bl k) st := by simp only [evE]
@[simp] theorem evE_16 {o} {p} {a} {b} {d} : evE c (.chain o p a b d) env st = (evE c a env st).bind fun x st => (evE c b env st).bind fun y st => .ofO (cmpD o x y st) fun k => if k = true then (evE c d env st).bind fun z st => .ofO (cmpD p y z st) fun k => .ok (.bl k) st else .ok (.bl false) st := by simp only [evE]
@[simp] theorem evE_17 {t} {a} {b} : evE c (.ife t a b) env st = (evT c t env st).bind fun k st => if k = true then evE c a env st else evE c b env st := by simp only [evE]
@[simp] theorem evE_18 {a} {i} : evE c (.ix a i) env st = (evE c a env st).bind fun x st => (evE c i env st).bind fun y st => ixD x y st := by simp only [evE]
@[simp] theorem evE_19 {a} {lo} {hi} : evE c (.sl a lo hi) env st = (evE c a env st).bind fun x st => ((evAs c lo env st).bind fun l st => .ofO (oI l) fun l => .ok l st).bind fun l st => ((evAs c hi env st).bind fun h st => .ofO (oI h) fun h => .ok h st).bind fun h st => cut1 x l h st := by simp only [evE]
@[simp] theorem evE_20 {a} {lo} {hi} {k} : evE c (.slS a lo hi k) env st = (evE c a env st).bind fun x st => ((evAs c lo env st).bind fun l st => .ofO (oI l) fun l => .ok l st).bind fun l st => ((evAs c hi env st).bind fun h st => .ofO (oI h) fun h => .ok h st).bind fun h st => ((evE c k env st).bind fun d st => .ofO (oI [d]) fun _ => .ok d st).bind fun d st => cut3 x l h d st := by simp only [evE]
@[simp] theorem evE_21 {f} {es} : evE c (.call f es) env st = (evAs c es env st).bind fun ds st => c.call f ds st := by simp only [evE]
@[simp] theorem evE_k {f} {p} {es} : evE c (.kcall f p es) env st = (evAs c es env st).bind fun ds st => c.call f (permL p ds) st := by simp only [evE]
@[simp] theorem evE_dg {e} {a} {b} : evE c (.dget e a b) env st = (evE c e env st).bind fun x st => .ofO ((listItems st x).bind pairsD) fun ps => (evE c a env st).bind fun y st => (evE c b env st).bind fun z st => dgetD ps y z st := by simp only [evE]
@[simp] theorem evE_dn {u0} : evE c .dnew u0 st = .ok (.ref st.length) (st ++ [.dk []]) := by simp only [evE]
@[simp] theorem evE_da {a i} : evE c (.dat a i) env st = (evE c a env st).bind fun x st => (evE c i env st).bind fun y st => .ofO (datD x y st) fun d => .ok d st := by simp only [evE]
@[simp] theorem evE_di {n i a} : evE c (.din n i a) env st = (evE c i env st).bind fun y st => (evE c a env st).bind fun x st => .ofO (dinD x y st) fun b => .ok (.bl (b != n)) st := by simp only [evE]
@[simp] theorem evE_d2 {a i z} : evE c (.dg2 a i z) env st = (evE c a env st).bind fun x st => .ofO (dkOf st x) fun _ => (evE c i env st).bind fun y st => (evE c z env st).bind fun w st => .ofO (dg2D x y w st) fun d => .ok d st := by simp only [evE]
@[simp] theorem evT_di {n i a} : evT c (.din n i a) env st = (evE c i env st).bind fun y st => (evE c a env st).bind fun x st => .ofO (dinD x y st) fun b => .ok (b != n) st := by simp only [evT]
@[simp] theorem evG_da {a i d} : evG c (.dat a i) d env st = (evE c a env st).bind fun x st => (evE c i env st).bind fun y st => .ofO (dsetD x y d st) fun st => .ok env st := by simp only [evG]
@[simp] theorem evE_22 {b} {es} : evE c (.bi b es) env st = (evAs c es env st).bind fun ds st => biD b ds st := by simp only [evE]
@[simp] theorem evE_23 {m} {r} {es} : evE c (.me m r es) env st = ((evE c r env st).bind fun x st => .ofO (ownL st x) fun _ => .ok x st).bind fun x st => (evAs c es env st).bind fun ds st => meD m x ds st := by simp only [evE]
@[simp] theorem evE_24 {e} {ts} : evE c (.isi e ts) env st = (evE c e env st).bind fun x st => .ofO (isiD ts x st) fun b => .ok (.bl b) st := by simp only [evE]
@[simp] theorem evT_1 {a} : evT c (.nt a) env st = (evT c a env st).bind fun b st => .ok (!b) st := by simp only [evT]
@[simp] theorem evT_2 {es} : evT c (.and es) env st = evTAnd c es env st := by simp only [evT]
@[simp] theorem evT_3 {es} : evT c (.or es) env st = evTOr c es env st := by simp only [evT]
@[simp] theorem evT_4 {o} {a} {b} : evT c (.cmp o a b) env st = (evE c a env st).bind fun x st => (evE c b env st).bind fun y st => .ofO (cmpD o x y st) fun k => .ok k st := by simp only [evT]
@[simp] theorem evT_5 {o} {p} {a} {b} {d} : evT c (.chain o p a b d) env st = (evE c a env st).bind fun x st => (evE c b env st).bind fun y st => .ofO (cmpD o x y st) fun k => if k = true then (evE c d env st).bind fun z st => .ofO (cmpD p y z st) fun k => .ok k st else .ok false st := by simp only [evT]
@[simp] theorem evT_6 {b} {u0} : evT c (.bl b) u0 st = .ok b st := by simp only [evT]
@[simp] theorem evT_7 {i} : evT c (.v i) env st = .ofO env[i]?.join fun d => .ofO (truD st d) fun k => .ok k st := by simp only [evT]
@[simp] theorem evT_8 {f} {es} : evT c (.call f es) env st = ((evAs c es env st).bind fun ds st => c.call f ds st).bind fun d st => .ofO (truD st d) fun k => .ok k st := by simp only [evT]
@[simp] theorem evT_9 {b} {es} : evT c (.bi b es) env st = ((evAs c es env st).bind fun ds st => biD b ds st).bind fun d st => .ofO (truD st d) fun k => .ok k st := by simp only [evT]
@[simp] theorem evT_10 {e} {ts} : evT c (.isi e ts) env st = (evE c e env st).bind fun x st => .ofO (isiD ts x st) fun b => .ok b st := by simp only [evT]
@[simp] theorem evT_11 {a} {i} : evT c (.ix a i) env st = ((evE c a env st).bind fun x st => (evE c i env st).bind fun y st => ixD x y st).bind fun d st => .ofO (truD st d) fun k => .ok k st := by simp only [evT]
@[simp] theorem evTAnd_1 {e} : evTAnd c [e] env st = evT c e env st := by simp only [evTAnd]
@[simp] theorem evTAnd_2 {e} {e'} {r} : evTAnd c (e :: e' :: r) env st = (evT c e env st).bind fun k st => if k = true then evTAnd c (e' :: r) env st else .ok false st := by simp only [evTAnd]
@[simp] theorem evTOr_1 {e} : evTOr c [e] env st = evT c e env st := by simp only [evTOr]
@[simp] theorem evTOr_2 {e} {e'} {r} : evTOr c (e :: e' :: r) env st = (evT c e env st).bind fun k st => if k = true then .ok true st else evTOr c (e' :: r) env st := by simp only [evTOr]
@[simp] theorem evTs_1 {u0} : evTs c [] u0 st = .ok true st := by simp only [evTs]
@[simp] theorem evTs_2 {e} : evTs c [e] env st = evT c e env st := by simp only [evTs]
@[simp] theorem evAnd_1 {e} : evAnd c [e] env st = evE c e env st := by simp only [evAnd]
@[simp] theorem evAnd_2 {e} {e'} {r} : evAnd c (e :: e' :: r) env st = (evE c e env st).bind fun d st => .ofO (truD st d) fun k => if k = true then evAnd c (e' :: r) env st else .ok d st := by simp only [evAnd]
@[simp] theorem evOr_1 {e} : evOr c [e] env st = evE c e env st := by simp only [evOr]
@[simp] theorem evOr_2 {e} {e'} {r} : evOr c (e :: e' :: r) env st = (evE c e env st).bind fun d st => .ofO (truD st d) fun k => if k = true then .ok d st else evOr c (e' :: r) env st := by simp only [evOr]
@[simp] theorem evAs_1 {u0} : evAs c [] u0 st = .ok [] st := by simp only [evAs]
@[simp] theorem evAs_2 {e} {r} : evAs c (e :: r) env st = (evE c e env st).bind fun d st => (evAs c r env st).bind fun ds st => .ok (d :: ds) st := by simp only [evAs]
@[simp] theorem evI_1 {es} : evI c (.rng es) env st = (evAs c es env st).bind fun ds st => .ofO (rngOf ds) fun s => .ok s st := by simp only [evI]
@[simp] theorem evI_2 {e} : evI c (.enum e) env st = (evE c e env st).bind fun d st => .ofO (srcOf st d) fun s => .ok ⟨enumD 0 s.ds, s.gs⟩ st := by simp only [evI]
@[simp] theorem evI_3 {a} {b} : evI c (.zip a b) env st = (evE c a env st).bind fun x st => (evE c b env st).bind fun y st => .ofO (srcOf st x) fun s => .ofO (srcOf st y) fun t => .ok ⟨zipD s.ds t.ds, s.gs ++ t.gs⟩ st := by simp only [evI]
@[simp] theorem evI_4 {e} : evI c (.walk e) env st = (evE c e env st).bind fun d st => .ofO (srcOf st d) fun s => .ok s st := by simp only [evI]
@[simp] theorem evI_5 {a} {b} : evI c (.ezip a b) env st = (evE c a env st).bind fun x st => (evE c b env st).bind fun y st => .ofO (srcOf st x) fun s => .ofO (srcOf st y) fun t => .ok ⟨enumD 0 (zipD s.ds t.ds), s.gs ++ t.gs⟩ st := by simp only [evI]
@[simp] theorem evG_1 {i} {d} : evG c (.v i) d env st = .ok (env.set i (some d)) st := by simp only [evG]
@[simp] theorem evG_2 {es} {d} : evG c (.tup es) d env st = .ofO (seqOf st d) fun ds => if ds.length = es.length then evGs c es ds env st else .stuck := by simp only [evG]
@[simp] theorem evG_3 {a} {i} {d} : evG c (.ix a i) d env st = (evE c a env st).bind fun x st => (evE c i env st).bind fun y st => .ofO (setD x y d st) fun st => .ok env st := by simp only [evG]
@[simp] theorem evGs_1  : evGs c [] [] env st = .ok env st := by simp only [evGs]
@[simp] theorem evGs_2 {e} {es} {d} {ds} : evGs c (e :: es) (d :: ds) env st = (evG c e d env st).bind fun env st => evGs c es ds env st := by simp only [evGs]
@[simp] theorem evS_1 {t} {e} : evS c (.asg t e) env st = (evE c e env st).st env fun d st => (evG c t d env st).st env fun env st => .next env st := by simp only [evS]
@[simp] theorem evS_2 {i} {e} : evS c (.setLc i e) env st = (evE c e env st).st env fun d st => .next (env.set i (some d)) st := by simp only [evS]
@[simp] theorem evS_3 {is} {es} : evS c (.par is es) env st = (evAs c es env st).st env fun ds st => if ds.length = is.length then .next ((is.zip ds).foldl (fun env p => env.set p.1 (some p.2)) env) st else .stuck := by simp only [evS]
@[simp] theorem evS_4 {i} {o} {e} : evS c (.aug i o e) env st = (R.ofO env[i]?.join fun d => .ok d st).st env fun x st => (evE c e env st).st env fun y st => (augD o x y st).st env fun d st => .next (env.set i (some d)) st := by simp only [evS]
@[simp] theorem evS_5 {a} {i} {o} {e} : evS c (.augS a i o e) env st = (evE c a env st).st env fun x st => (evE c i env st).st env fun y st => (getL x y st).st env fun z st => (evE c e env st).st env fun w st => (augD o z w st).st env fun n st => (R.ofO (setD x y n st) fun st => R.ok () st).st env fun _ st => .next env st := by simp only [evS]
@[simp] theorem evS_6 {e} : evS c (.ex e) env st = (evE c e env st).st env fun _ st => .next env st := by simp only [evS]
@[simp] theorem evS_7 {e} : evS c (.ret e) env st = (evE c e env st).st env fun d st => .ret d st := by simp only [evS]
@[simp] theorem evS_8 {u0} : evS c .retN u0 st = .ret .non st := by simp only [evS]
@[simp] theorem evS_9 {t} {a} {b} : evS c (.ife t a b) env st = (evT c t env st).st env fun k st => if k = true then evSs c a env st else evSs c b env st := by simp only [evS]
@[simp] theorem evS_10 {x} : evS c (.raise x) env st = .exc x env st := by simp only [evS]
@[simp] theorem evS_11  : evS c .brk env st = .brk env st := by simp only [evS]
@[simp] theorem evS_12  : evS c .cont env st = .cont env st := by simp only [evS]
@[simp] theorem evS_13  : evS c .pass env st = .next env st := by simp only [evS]
@[simp] theorem evSs_1  : evSs c [] env st = .next env st := by simp only [evSs]
@[simp] theorem evSs_cons {s} {r} : evSs c (s :: r) env st = (evS c s env st).seq fun env st => evSs c r env st := by simp only [evSs]
end
end Ev

set_option Elab.async false
set_option linter.all false
set_option maxRecDepth 100000
set_option autoImplicit false
/-! Ev, part Zb: values: equality, the sameness of the law. -/
namespace Ev
open PySem PySem.Spec PyProof.Rows L2
@[simp] theorem eqv_int (a b : Int) : PyData.eqv (.int a) (.int b) = decide (a = b) := by simp [PyData.eqv]; rfl
@[simp] theorem eqv_bool (a b : Bool) : PyData.eqv (.bool a) (.bool b) = decide (a = b) := by cases a <;> cases b <;> simp [PyData.eqv]
@[simp] theorem deq_int (st : Store) (a b : Int) : deq st (.int a) (.int b) = some (decide (a = b)) := by simp [deq, flat1, pd]
@[simp] theorem deq_bl (st : Store) (a b : Bool) : deq st (.bl a) (.bl b) = some (decide (a = b)) := by simp [deq, flat1, pd]
theorem pd_str {n : Nat} {s : Str} {p : PyData} (h : pd n (.str s) = some p) : p = .str s ∧ PyData.canLay0 (.str s) = true := by
  cases n <;> simp only [pd] at h <;> split at h <;> simp_all
theorem deq_str (st : Store) (s : Str) (h : s.cps.size ≤ 1000000 ∧ PyData.canLay0 (.str s) = true) : deq st (.str s) (.str s) = some true := by
  have : pd 60 (.str s) = some (.str s) := by simp [pd, h]
  simp [deq, flat1, this, SeqAt.eqv_refl _ h.2]
/-- data that the law's own sameness takes -/
def sameB : Nat → D → Bool
  | _, .non => true
  | _, .bl _ => true
  | _, .int _ => true
  | _, .str s => decide (s.cps.size ≤ 1000000) && PyData.canLay0 (.str s)
  | k + 1, .tup l => l.all (sameB k)
  | k + 1, .lst l => l.all (sameB k)
  | _, _ => false
theorem zipD_mem : ∀ {l : List D} {d : D}, d ∈ zipD l l → ∃ x ∈ l, d = .tup [x, x]
  | [], d, h => by simp [zipD] at h
  | x :: r, d, h => by
    simp only [zipD, List.mem_cons] at h
    rcases h with h | h
    · exact ⟨x, by simp, h⟩
    · obtain ⟨y, hy, e⟩ := zipD_mem h
      exact ⟨y, by simp [hy], e⟩
@[simp] theorem all_true {α : Type} (l : List α) : (l.all fun _ => true) = true := by induction l <;> simp_all
def sameF : FI := ⟨["got", "due", "mine", "its"], 2, [
    .ife (.isi (.v 1) [.list, .tuple]) [.ife (.or [(.cmp .ne (.isi (.v 0) [.list]) (.isi (.v 1) [.list])), (.cmp .ne (.isi (.v 0) [.tuple]) (.isi (.v 1) [.tuple]))]) [.ret (.bl false)] [], .ret (.and [(.cmp .eq (.bi .len [(.v 0)]) (.bi .len [(.v 1)])), (.bi .all [(.lc (.call 1 [(.v 2), (.v 3)]) [2, 3] (.tup [(.v 2), (.v 3)]) (.zip (.v 0) (.v 1)) [])])])] [],
    .ife (.cmp .is (.v 1) .non) [.ret (.cmp .is (.v 0) .non)] [],
    .ife (.isi (.v 1) [.bool, .str]) [.ret (.and [(.cmp .eq (.isi (.v 0) [.bool]) (.isi (.v 1) [.bool])), (.cmp .eq (.isi (.v 0) [.str]) (.isi (.v 1) [.str])), (.cmp .eq (.v 0) (.v 1))])] [],
    .ret (.and [(.isi (.v 0) [.int]), (.nt (.isi (.v 0) [.bool])), (.cmp .eq (.v 0) (.v 1))])], false⟩
theorem same_lc {c : Cfg} {x : D} {l : List D} {st : Store} (hl : items st x = some l) (hx : srcOf st x = some ⟨l, []⟩) (hc : ∀ d ∈ l, c.call 1 [d, d] st = .ok (.bl true) st) :
    evE c (.lc (.call 1 [(.v 2), (.v 3)]) [2, 3] (.tup [(.v 2), (.v 3)]) (.zip (.v 0) (.v 1)) []) [some x, some x, none, none] st = .ok (.lst ((zipD l l).map fun _ => .bl true)) st := by
  refine lc_map (src := ⟨zipD l l, []⟩) (fun _ => .bl true) (by simp [hx]) rfl fun d hd => ?_
  obtain ⟨a, ha, rfl⟩ := zipD_mem hd
  simp [wipeE, seqOf, hc a ha]
theorem same_flat (c : Cfg) (d : D) (st : Store) (h : sameB 0 d = true) : runF c sameF [d, d] st = .ok (.bl true) st := by
  have fin : ∀ {x : R D}, x = finD false st (.bl true) st → x = .ok (.bl true) st := fun e => e.trans (finD_pure rfl)
  rw [runF_eq]
  apply fin
  cases d with
  | non => simp [sameF, startE, isiD, tyN, tyB, Ty.n, cmpD, isNon]
  | bl b => cases b <;> simp [sameF, startE, isiD, tyN, tyB, Ty.n, cmpD, isNon, truD]
  | int i => simp [sameF, startE, isiD, tyN, tyB, Ty.n, cmpD, isNon, truD]
  | str s =>
    simp only [sameB, Bool.and_eq_true, decide_eq_true_eq] at h
    simp [sameF, startE, isiD, tyN, tyB, Ty.n, cmpD, isNon, truD, deq_str st s h]
  | tup l => simp [sameB] at h
  | lst l => simp [sameB] at h
  | fl l => simp [sameB] at h
  | ref i => simp [sameB] at h
/-- one more level of sameness, over any environment that calls it as its def 1 -/
theorem same_step (c : Cfg) (k : Nat) (d : D) (st : Store) (h : sameB (k + 1) d = true) (hc : ∀ d, sameB k d = true → c.call 1 [d, d] st = .ok (.bl true) st) : runF c sameF [d, d] st = .ok (.bl true) st := by
  have fin : ∀ {x : R D}, x = finD false st (.bl true) st → x = .ok (.bl true) st := fun e => e.trans (finD_pure rfl)
  rw [runF_eq]
  apply fin
  cases d with
  | non => exact (same_flat c _ st (by simpa [sameB] using h)).trans (finD_pure rfl).symm
  | bl b => exact (same_flat c _ st (by simpa [sameB] using h)).trans (finD_pure rfl).symm
  | int i => exact (same_flat c _ st (by simpa [sameB] using h)).trans (finD_pure rfl).symm
  | str s => exact (same_flat c _ st (by simpa [sameB] using h)).trans (finD_pure rfl).symm
  | tup l =>
    simp only [sameB, List.all_eq_true] at h
    have q := same_lc (c := c) (x := .tup l) (l := l) (st := st) rfl rfl fun d hd => hc d (h d hd)
    simp [sameF, startE, isiD, tyN, tyB, Ty.n, cmpD, isNon, truD, biD, biD1, lenD, items, q, boolsOf, listItems, boolsD_true]
  | lst l =>
    simp only [sameB, List.all_eq_true] at h
    have q := same_lc (c := c) (x := .lst l) (l := l) (st := st) rfl rfl fun d hd => hc d (h d hd)
    simp [sameF, startE, isiD, tyN, tyB, Ty.n, cmpD, isNon, truD, biD, biD1, lenD, items, q, boolsOf, listItems, boolsD_true]
  | fl l => simp [sameB] at h
  | ref i => simp [sameB] at h
theorem boolsD_comp {α : Type} (g : α → D) (l : List α) : boolsD (l.map ((fun _ => D.bl true) ∘ g)) = some (l.map fun _ => true) := by
  induction l with
  | nil => rfl
  | cons a r ih => simp [boolsD, ih]
end Ev

set_option Elab.async false
set_option linter.all false
set_option maxRecDepth 100000
set_option autoImplicit false
/-! Ev, part Zc: draws in comprehensions, slices of rows, emptiness. -/
namespace Ev
open PySem.Spec
/-- a comprehension of draws -/
theorem comp_draw {body : D → Store → R (Option D)} {t : Nat} {lo hi : Int}
    (hb : ∀ (d : D) (st : Store) (k : Int), Tin st t k → LstS st → k < 1000000 → ∃ (x : Int) (st' : Store), body d st = .ok (some (.int x)) st' ∧ lo ≤ x ∧ x ≤ hi ∧ Tin st' t (k + 1) ∧ Ch [t] st st' ∧ st'.length = st.length ∧ LstS st') :
    ∀ (ds : List D) (st : Store) (k : Int), Tin st t k → LstS st → k + ds.length ≤ 1000000 →
      ∃ (xs : List Int) (st' : Store), compL [] body ds st = .ok (intsL xs) st' ∧ xs.length = ds.length ∧ (∀ x ∈ xs, lo ≤ x ∧ x ≤ hi) ∧ Tin st' t (k + ds.length) ∧ Ch [t] st st' ∧ st'.length = st.length ∧ LstS st'
  | [], st, k, T, hs, hk => ⟨[], st, by simp [compL], rfl, by simp, by simpa using T, .refl, rfl, hs⟩
  | d :: r, st, k, T, hs, hk => by
    simp only [List.length_cons] at hk
    obtain ⟨x, s1, e1, h0, h1, T1, c1, l1, hs1⟩ := hb d st k T hs (by omega)
    obtain ⟨xs, s2, e2, hl, hx, T2, c2, l2, hs2⟩ := comp_draw hb r s1 (k + 1) T1 hs1 (by omega)
    refine ⟨x :: xs, s2, ?_, by simp [hl], ?_, T2.mono (by simp; omega), c1.trans c2, l2.trans l1, hs2⟩
    · simp only [compL, guards_nil, if_true, e1, e2, intsL, List.map_cons]
    · intro y hy
      rcases List.mem_cons.mp hy with rfl | hy
      · exact ⟨h0, h1⟩
      · exact hx y hy
theorem lc_draw {c : Cfg} {elt it : IE} {i t n : Nat} {lo hi : Int} {env : Env} {st st1 : Store} {k : Int} {src : Src} (hi' : evI c it env st = .ok src st1) (hg : src.gs = []) (hn : src.ds.length = n)
    (hb : ∀ (d : D) (st : Store) (k : Int), Tin st t k → LstS st → k < 1000000 → ∃ (x : Int) (st' : Store), evE c elt ((env.set i none).set i (some d)) st = .ok (.int x) st' ∧ lo ≤ x ∧ x ≤ hi ∧ Tin st' t (k + 1) ∧ Ch [t] st st' ∧ st'.length = st.length ∧ LstS st')
    (T : Tin st1 t k) (hs : LstS st1) (hk : k + n ≤ 1000000) :
    ∃ (xs : List Int) (st' : Store), evE c (.lc elt [i] (.v i) it []) env st = .ok (.lst (intsL xs)) st' ∧ xs.length = n ∧ (∀ x ∈ xs, lo ≤ x ∧ x ≤ hi) ∧ Tin st' t (k + n) ∧ Ch [t] st1 st' ∧ st'.length = st1.length ∧ LstS st' := by
  obtain ⟨xs, st', e, r⟩ := comp_draw (body := fun d st => (evG c (.v i) d (wipeE env [i]) st).bind fun env st => (evTs c [] env st).bind fun q st => if q = true then (evE c elt env st).bind fun x st => .ok (some x) st else .ok none st) (fun d st k T hs hk => by
    obtain ⟨x, st', e, q⟩ := hb d st k T hs hk
    exact ⟨x, st', by simp only [wipeE, evG_1, bind_ok, evTs_1, if_true, e], q⟩) src.ds st1 k T hs (by omega)
  rw [hn] at r
  refine ⟨xs, st', ?_, r⟩
  simp only [evE, hi', bind_ok, hg, e]
theorem pds_ints (n : Nat) : ∀ xs : List Int, pds n (intsL xs) = some (xs.map .int)
  | [] => rfl
  | x :: r => by
    have := pds_ints n r
    simp only [intsL] at this
    cases n <;> simp [pds, pd, this]
theorem deq_emptyT (st : Store) (l : List Int) : deq st (.tup (intsL l)) (.tup []) = some (l.isEmpty) := by
  have : pd 60 (.tup (intsL l)) = some (.tuple (l.map .int)) := by simp only [pd, pds_ints, Option.map_some]
  simp only [deq, flat1, this]
  cases l <;> simp [pd, pds, PySem.PyData.eqv, PySem.PyData.eqvAll]
theorem deq_emptyL (st : Store) (l : List Int) : deq st (.lst (intsL l)) (.lst []) = some (l.isEmpty) := by
  have : pd 60 (.lst (intsL l)) = some (.list (l.map .int)) := by simp only [pd, pds_ints, Option.map_some]
  simp only [deq, flat1, this]
  cases l <;> simp [pd, pds, PySem.PyData.eqv, PySem.PyData.eqvAll]
theorem cutD_take (xs : List Int) (m : Int) (h : 0 ≤ m) : cutD (intsL xs) none (some m) = intsL (xs.take m.toNat) := by
  have q : ¬ m < 0 := by omega
  unfold cutD
  simp only [HT.sIx, q, if_false, List.drop_zero, Nat.sub_zero, intsL, List.length_map]
  rw [← List.map_take]
  congr 1
  rw [List.take_eq_take_iff]
  omega
theorem rngD_eq (r b : Int) : ∀ (N : Nat), rngD r b N = (List.range N).map fun m : Nat => D.int (r + m * b) := by
  intro N
  induction N generalizing r with
  | zero => rfl
  | succ n ih =>
    rw [rngD, ih, List.range_succ_eq_map]
    simp only [List.map_cons, List.map_map]
    congr 1
    · simp
    · refine List.map_congr_left fun m _ => ?_
      simp only [Function.comp_apply, Nat.succ_eq_add_one, Int.natCast_add, D.int.injEq]
      rw [Int.add_mul]
      simp
      omega
/-- every b-th item from r on -/
def picks (xs : List Int) (r b : Int) (N : Nat) : List Int := (List.range N).map fun m : Nat => xs.getD (r + m * b).toNat 0
theorem size_lt {r n b : Int} (hr : 0 ≤ r) (hb : 0 < b) {m : Nat} (hm : m < (PySem.Builtin.Range.rangeSize r n b).toNat) : r + m * b < n := by
  unfold PySem.Builtin.Range.rangeSize at hm
  rw [if_pos hb] at hm
  split at hm
  · rename_i h
    have h0 : 0 ≤ (n - r - 1) / b := Int.ediv_nonneg (by omega) (by omega)
    have h1 : (m : Int) ≤ (n - r - 1) / b := by omega
    have h2 : (m : Int) * b ≤ n - r - 1 := Int.le_trans (Int.mul_le_mul_of_nonneg_right h1 (by omega)) (Int.ediv_mul_le _ (by omega))
    omega
  · simp at hm
theorem pickD_picks (xs : List Int) (r b : Int) (hr : 0 ≤ r ∧ r < xs.length) (hb : 0 < b) : pickD (intsL xs) (some r) none b = intsL (picks xs r b (PySem.Builtin.Range.rangeSize r xs.length b).toNat) := by
  have q1 : ¬ r < 0 := by omega
  have q2 : ¬ b < 0 := by omega
  have q3 : min r (xs.length : Int) = r := by omega
  have ha : PySem.Builtin.Slice.sliceAdjust (some r) none b xs.length = (r, (xs.length : Int)) := by
    simp only [PySem.Builtin.Slice.sliceAdjust, q1, q2, if_false, q3]
  unfold pickD picks
  simp only [intsL, List.length_map, ha, List.map_map]
  have hs : PySem.Builtin.Slice.slicePlaces r xs.length b = (PySem.Builtin.Range.rangeSize r xs.length b).toNat := rfl
  rw [hs]
  have : ∀ m ∈ List.range (PySem.Builtin.Range.rangeSize r xs.length b).toNat, (xs.map D.int)[(r + (m : Int) * b).toNat]? = some (D.int (xs.getD (r + m * b).toNat 0)) := fun m hm => by
    have h1 := size_lt hr.1 hb (List.mem_range.mp hm)
    have h0 : 0 ≤ (m : Int) * b := Int.mul_nonneg (by omega) (by omega)
    have h2 : (r + (m : Int) * b).toNat < xs.length := by omega
    simp [List.getElem?_eq_getElem h2, List.getD_eq_getElem?_getD]
  generalize List.range (PySem.Builtin.Range.rangeSize r xs.length b).toNat = l at this
  induction l with
  | nil => rfl
  | cons m l ih =>
    simp only [List.filterMap_cons, this m (by simp), List.map_cons]
    rw [ih fun m hm => this m (by simp [hm])]
    rfl
theorem small_up {a b c : Int} (ha : 0 ≤ a) (ha' : a < 1000) (hb : 0 ≤ b) (hb' : b < 1000) (hc : 0 < c) (hc' : c < 1000) : PySem.Builtin.Range.small a b c = true ∧ 0 ≤ PySem.Builtin.Range.rangeSize a b c ∧ PySem.Builtin.Range.rangeSize a b c ≤ 2000 := by
  have h2 : c > 0 := hc
  have e : 0 ≤ PySem.Builtin.Range.rangeSize a b c ∧ PySem.Builtin.Range.rangeSize a b c ≤ 2000 := by
    unfold PySem.Builtin.Range.rangeSize
    rw [if_pos h2]
    split
    · have h0 : 0 ≤ (b - a - 1) / c := Int.ediv_nonneg (by omega) (by omega)
      have h1 : (b - a - 1) / c ≤ b - a - 1 := Int.ediv_le_self _ (by omega)
      omega
    · omega
  refine ⟨?_, e⟩
  unfold PySem.Builtin.Range.small
  simp only [PySem.Builtin.Range.rangeFitsLong, Bool.and_eq_true, Bool.or_eq_true, decide_eq_true_eq, beq_iff_eq, if_pos h2]
  omega
theorem rngOf_up {a b c : Int} (ha : 0 ≤ a) (ha' : a < 1000) (hb : 0 ≤ b) (hb' : b < 1000) (hc : 0 < c) (hc' : c < 1000) : rngOf [.int a, .int b, .int c] = some ⟨rngD a c (PySem.Builtin.Range.rangeSize a b c).toNat, []⟩ := by
  obtain ⟨h1, h2, h3⟩ := small_up ha ha' hb hb' hc hc'
  have q1 : ¬ c = 0 := by omega
  have q2 : c.natAbs < 1073741824 := by omega
  have q3 : (PySem.Builtin.Range.rangeSize a b c).toNat ≤ line := by simp only [line]; omega
  simp [rngOf, h1, h2, q1, q2, q3]
theorem rngOf_nat (n : Nat) (h : n ≤ 1000) : rngOf [.int (n : Int)] = some ⟨rngD 0 1 n, []⟩ := by
  have g : near (n : Int) = true := by simp only [near, Bool.and_eq_true, decide_eq_true_eq]; omega
  have g2 : n ≤ line := by simp only [line]; omega
  simp [rngOf, g, g2]
theorem stepE {c : Cfg} {s : IS} {r : List IS} {env env' : Env} {st st' : Store} {Q : Env → Store → Prop} (h : evS c s env st = .next env' st') (k : ∃ e x, evSs c r env' st' = .next e x ∧ Q e x) : ∃ e x, evSs c (s :: r) env st = .next e x ∧ Q e x := by
  obtain ⟨e, x, h2, q⟩ := k
  exact ⟨e, x, step h h2, q⟩
/-- an item of a row, by a place that is in it -/
theorem atI_row {xs : List Int} {i : Int} (h0 : 0 ≤ i) (h1 : i < xs.length) : L2.atI (intsL xs) i = some (.int (xs.getD i.toNat 0)) := by
  have h2 : i.toNat < xs.length := by omega
  simp [L2.atI, L2.ixN, h0, h1, List.getElem?_eq_getElem h2, List.getD_eq_getElem?_getD]
/-- a comprehension over a range, with a test; the store stays -/
theorem lc_if {c : Cfg} {elt it tst : IE} {i : Nat} {env : Env} {st : Store} {src : Src} (f : D → Option D) (hi : evI c it env st = .ok src st) (hg : src.gs = [])
    (hb : ∀ d ∈ src.ds, ((evT c tst ((env.set i none).set i (some d)) st).bind fun k st => if k = true then (evE c elt ((env.set i none).set i (some d)) st).bind fun x st => .ok (some x) st else .ok none st) = .ok (f d) st) :
    evE c (.lc elt [i] (.v i) it [tst]) env st = .ok (.lst (src.ds.filterMap f)) st := by
  have := compL_pure (gs := src.gs) (body := fun d st => (evG c (.v i) d (wipeE env [i]) st).bind fun env st => (evTs c [tst] env st).bind fun q st => if q = true then (evE c elt env st).bind fun x st => .ok (some x) st else .ok none st) (st := st) f (ds := src.ds) (by rw [hg]; simp) (fun d hd => by
    have := hb d hd
    simpa only [wipeE, evG_1, bind_ok, evTs_2] using this)
  simp only [evE, hi, bind_ok, this]
/-- the places at which two rows are not the same -/
def difL : Nat → List Int → List Int → List Int
  | k, x :: xs, y :: ys => if y = x then difL (k + 1) xs ys else (k : Int) :: difL (k + 1) xs ys
  | _, _, _ => []
def headD : List Int → D
  | [] => .non
  | a :: _ => .int a
def difF (X Y : List Int) : D → Option D
  | .int i => if Y.getD i.toNat 0 = X.getD i.toNat 0 then none else some (.int i)
  | d => some d
theorem dif_eq (X Y : List Int) : ∀ (ys xs : List Int) (k : Nat), X.drop k = xs → Y.drop k = ys → ys.length ≤ xs.length → (rngD k 1 ys.length).filterMap (difF X Y) = intsL (difL k xs ys)
  | [], xs, k, _, _, _ => by cases xs <;> simp [rngD, difL]
  | y :: ys, [], k, _, _, h => by simp at h
  | y :: ys, x :: xs, k, hX, hY, h => by
    simp only [List.length_cons] at h
    have gX : X.getD k 0 = x := by
      have := congrArg (fun l => l[0]?) hX
      simp at this
      simp [List.getD_eq_getElem?_getD, this]
    have gY : Y.getD k 0 = y := by
      have := congrArg (fun l => l[0]?) hY
      simp at this
      simp [List.getD_eq_getElem?_getD, this]
    have ih := dif_eq X Y ys xs (k + 1) (by rw [← List.drop_drop, hX]; rfl) (by rw [← List.drop_drop, hY]; rfl) (by omega)
    simp only [List.length_cons, rngD, List.filterMap_cons, difF, Int.toNat_natCast, gX, gY, difL]
    have e : (k : Int) + 1 = ((k + 1 : Nat) : Int) := by simp
    rw [e, ih]
    by_cases q : y = x
    · simp [q]
    · simp [q]
theorem head_ev {c : Cfg} {i : Nat} {env : Env} {st : Store} {l : List Int} (h : env[i]? = some (some (.lst (intsL l)))) : evE c (.ife (.cmp .ne (.v i) (.lst [])) (.ix (.v i) (.int 0)) .non) env st = .ok (headD l) st := by
  simp only [evE_17, evT_4, evE_5, h, evE_8, evAs_1, bind_ok, Option.join_some, ofO_some, cmpD, deq_emptyL, Option.map_some]
  cases l with
  | nil => simp [headD]
  | cons a r => simp [h, ixD, items, L2.atI, L2.ixN, headD]
end Ev

set_option Elab.async false
set_option linter.all false
set_option maxRecDepth 100000
set_option autoImplicit false
/-! Ev, part Zd: loops as plain functions. -/
namespace Ev
open PySem.Spec
/-- a while loop's plain twin: as many turns as fuel goes -/
def loopW {S : Type} (cond : S → Option Bool) (turn : S → Option S) : Nat → S → Option S
  | 0, _ => none
  | n + 1, s => match cond s with
    | some true => match turn s with
      | some t => loopW cond turn n t
      | none => none
    | some false => some s
    | none => none
theorem whileL_sim {S : Type} {P : S → Env → Store → Prop} {c : Env → Store → R Bool} {body : Env → Store → RSt} (cond : S → Option Bool) (turn : S → Option S)
    (hc : ∀ s env st b, P s env st → cond s = some b → c env st = .ok b st)
    (hb : ∀ s t env st, P s env st → cond s = some true → turn s = some t → ∃ env' st', (body env st = .next env' st' ∨ body env st = .cont env' st') ∧ P t env' st') :
    ∀ (n : Nat) (s s' : S) (env : Env) (st : Store), P s env st → loopW cond turn n s = some s' → ∃ env' st', whileL c body n env st = .next env' st' ∧ P s' env' st'
  | 0, s, s', env, st, p, h => by simp [loopW] at h
  | n + 1, s, s', env, st, p, h => by
    simp only [loopW] at h
    split at h
    · rename_i q
      split at h
      · rename_i t ht
        obtain ⟨env1, st1, e, p1⟩ := hb s t env st p q ht
        obtain ⟨env2, st2, e2, p2⟩ := whileL_sim cond turn hc hb n t s' env1 st1 p1 h
        refine ⟨env2, st2, ?_, p2⟩
        simp only [whileL, hc s env st true p q]
        rcases e with e | e <;> simp only [e, e2]
      · cases h
    · rename_i q
      cases h
      exact ⟨env, st, by simp only [whileL, hc s env st false p q], p⟩
    · cases h
theorem whileS {c : Cfg} {t : IE} {b : List IS} {env env' : Env} {st st' : Store} (h : whileL (evT c t) (evSs c b) c.fuel env st = .next env' st') : evS c (.while t b) env st = .next env' st' := by
  simp only [evS, h]
/-- a for loop's plain twin: a fold -/
theorem forL_sim {S α : Type} {P : S → Env → Store → Prop} {gs : List (Nat × List D)} {body : D → Env → Store → RSt} (f : α → D) (turn : S → α → S) (hg : ∀ s env st, P s env st → guards gs st = true)
    (hb : ∀ s a env st, P s env st → ∃ env' st', (body (f a) env st = .next env' st' ∨ body (f a) env st = .cont env' st') ∧ P (turn s a) env' st') :
    ∀ (l : List α) (s : S) (env : Env) (st : Store), P s env st → ∃ env' st', forL gs body (l.map f) env st = .next env' st' ∧ P (l.foldl turn s) env' st'
  | [], s, env, st, p => ⟨env, st, by simp [forL, hg s env st p], p⟩
  | a :: l, s, env, st, p => by
    obtain ⟨env1, st1, e, p1⟩ := hb s a env st p
    obtain ⟨env2, st2, e2, p2⟩ := forL_sim f turn hg hb l (turn s a) env1 st1 p1
    refine ⟨env2, st2, ?_, p2⟩
    simp only [List.map_cons, forL, hg s env st p, if_true]
    rcases e with e | e <;> simp only [e, e2]
/-- more fuel does no harm -/
theorem loopW_mono {S : Type} {cond : S → Option Bool} {turn : S → Option S} : ∀ {n m : Nat} {s s' : S}, loopW cond turn n s = some s' → n ≤ m → loopW cond turn m s = some s'
  | 0, _, _, _, h, _ => by simp [loopW] at h
  | n + 1, 0, _, _, _, l => absurd l (by omega)
  | n + 1, m + 1, s, s', h, l => by
    simp only [loopW] at h ⊢
    split
    · rename_i q
      simp only [q] at h
      split
      · rename_i t ht
        simp only [ht] at h
        exact loopW_mono h (by omega)
      · rename_i ht
        simp only [ht] at h
        cases h
    · rename_i q
      simp only [q] at h
      exact h
    · rename_i q
      simp only [q] at h
      cases h
/-- a for loop's plain twin that may stick -/
def foldO {S α : Type} (turn : S → α → Option S) : S → List α → Option S
  | s, [] => some s
  | s, a :: r => match turn s a with
    | some t => foldO turn t r
    | none => none
theorem forL_simO {S α : Type} {P : S → Env → Store → Prop} {body : D → Env → Store → RSt} (f : α → D) (turn : S → α → Option S)
    (hb : ∀ s a t env st, P s env st → turn s a = some t → ∃ env' st', (body (f a) env st = .next env' st' ∨ body (f a) env st = .cont env' st') ∧ P t env' st') :
    ∀ (l : List α) (s s' : S) (env : Env) (st : Store), P s env st → foldO turn s l = some s' → ∃ env' st', forL [] body (l.map f) env st = .next env' st' ∧ P s' env' st'
  | [], s, s', env, st, p, h => by
    cases h
    exact ⟨env, st, by simp [forL], p⟩
  | a :: l, s, s', env, st, p, h => by
    simp only [foldO] at h
    split at h
    · rename_i t ht
      obtain ⟨env1, st1, e, p1⟩ := hb s a t env st p ht
      obtain ⟨env2, st2, e2, p2⟩ := forL_simO f turn hb l t s' env1 st1 p1 h
      refine ⟨env2, st2, ?_, p2⟩
      simp only [List.map_cons, forL, guards_nil, if_true]
      rcases e with e | e <;> simp only [e, e2]
    · cases h
/-- a comprehension's plain twin -/
def mapO {α β : Type} (f : α → Option β) : List α → Option (List β)
  | [] => some []
  | a :: r => match f a, mapO f r with
    | some b, some l => some (b :: l)
    | _, _ => none
theorem lc_mapO {c : Cfg} {elt it : IE} {i : Nat} {env : Env} {st : Store} {xs ys : List Int} (g : Int → Option Int) (hi : evI c it env st = .ok ⟨intsL xs, []⟩ st) (h : mapO g xs = some ys)
    (hb : ∀ x y : Int, g x = some y → evE c elt ((env.set i none).set i (some (.int x))) st = .ok (.int y) st) :
    evE c (.lc elt [i] (.v i) it []) env st = .ok (.lst (intsL ys)) st := by
  have main : ∀ (xs ys : List Int), mapO g xs = some ys → compL [] (fun d st => (evG c (.v i) d (wipeE env [i]) st).bind fun env st => (evTs c [] env st).bind fun q st => if q = true then (evE c elt env st).bind fun x st => .ok (some x) st else .ok none st) (intsL xs) st = .ok (intsL ys) st := by
    intro xs
    induction xs with
    | nil =>
      intro ys h
      cases h
      simp [compL]
    | cons x r ih =>
      intro ys h
      simp only [mapO] at h
      split at h
      · rename_i b l hb' hl
        cases h
        have := ih l hl
        simp only [intsL] at this
        simp only [intsL, List.map_cons, compL, guards_nil, if_true, wipeE, evG_1, bind_ok, evTs_1, hb x b hb', this]
        simp only [wipeE, evG_1, bind_ok, evTs_1, if_true] at this
        simp only [this]
      · cases h
  have := main xs ys h
  simp only [evE, hi, bind_ok, this]
theorem comp_mapO {gs : List (Nat × List D)} {body : D → Store → R (Option D)} {st : Store} (g : Int → Option Int) (hg : guards gs st = true) (hb : ∀ x y : Int, g x = some y → body (.int x) st = .ok (some (.int y)) st) :
    ∀ (xs ys : List Int), mapO g xs = some ys → compL gs body (intsL xs) st = .ok (intsL ys) st
  | [], ys, h => by
    cases h
    simp [compL, hg]
  | x :: r, ys, h => by
    simp only [mapO] at h
    split at h
    · rename_i b l h1 h2
      cases h
      have := comp_mapO g hg hb r l h2
      simp only [intsL] at this
      simp only [intsL, List.map_cons, compL, hg, if_true, hb x b h1, this]
    · cases h
/-- all products, row by row -/
def prods (f : Int → Int → Option Int) : List Int → List Int → Option (List Int)
  | [], _ => some []
  | x :: r, ys => match mapO (f x) ys, prods f r ys with
    | some a, some b => some (a ++ b)
    | _, _ => none
theorem comp2_prods {gs : List (Nat × List D)} {body : D → Store → R (List D)} {st : Store} (f : Int → Int → Option Int) (ys : List Int) (hg : guards gs st = true) (hb : ∀ (x : Int) (a : List Int), mapO (f x) ys = some a → body (.int x) st = .ok (intsL a) st) :
    ∀ (xs zs : List Int), prods f xs ys = some zs → compL2 gs body (intsL xs) st = .ok (intsL zs) st
  | [], zs, h => by
    cases h
    simp [compL2, hg]
  | x :: r, zs, h => by
    simp only [prods] at h
    split at h
    · rename_i a b h1 h2
      cases h
      have := comp2_prods f ys hg hb r b h2
      simp only [intsL] at this
      simp only [intsL, List.map_cons, compL2, hg, if_true, hb x a h1, this, List.map_append]
    · cases h
theorem lc2_run {c : Cfg} {elt tg it tg1 it1 : IE} {own own1 : List Nat} {env : Env} {st st1 st2 : Store} {src : Src} {l : List D} (hi : evI c it env st = .ok src st1)
    (h : compL2 src.gs (fun d st => (evG c tg d (wipeE env own) st).bind fun env st => (evTs c [] env st).bind fun k st =>
      if k = true then (evI c it1 env st).bind fun src st => compL src.gs (fun d st => (evG c tg1 d (wipeE env own1) st).bind fun env st => (evTs c [] env st).bind fun k st =>
        if k = true then (evE c elt env st).bind fun x st => .ok (some x) st else .ok none st) src.ds st else .ok [] st) src.ds st1 = .ok l st2) (hl : l.length ≤ line) :
    evE c (.lc2 elt own own1 tg it [] tg1 it1 []) env st = .ok (.lst l) st2 := by
  simp only [evE, hi, bind_ok, h, if_pos hl]
@[simp] theorem intsD_ints : ∀ xs : List Int, intsD (intsL xs) = some xs
  | [] => rfl
  | x :: r => by
    have := intsD_ints r
    simp only [intsL] at this
    simp [intsD, this]
end Ev

set_option Elab.async false
set_option linter.all false
set_option maxRecDepth 100000
set_option autoImplicit false
/-! Ev, part Fr: what is computed over the empty store is computed over any store. -/
namespace Ev
open PySem PySem.Spec PyProof.Rows L2
/-! ### places moved up by N -/
mutual
def sh (N : Nat) : D → D
  | .non => .non
  | .bl b => .bl b
  | .int i => .int i
  | .str s => .str s
  | .tup l => .tup (shs N l)
  | .lst l => .lst (shs N l)
  | .fl l => .fl (shs N l)
  | .ref i => .ref (N + i)
def shs (N : Nat) : List D → List D
  | [] => []
  | d :: r => sh N d :: shs N r
end
theorem shs_map (N : Nat) : ∀ l : List D, shs N l = l.map (sh N)
  | [] => by simp only [shs, List.map_nil]
  | d :: r => by simp only [shs, List.map_cons, shs_map N r]
section
variable {N : Nat}
@[simp] theorem sh_non : sh N .non = .non := by simp only [sh]
@[simp] theorem sh_bl {b} : sh N (.bl b) = .bl b := by simp only [sh]
@[simp] theorem sh_int {b} : sh N (.int b) = .int b := by simp only [sh]
@[simp] theorem sh_str {b} : sh N (.str b) = .str b := by simp only [sh]
@[simp] theorem sh_tup {l} : sh N (.tup l) = .tup (l.map (sh N)) := by simp only [sh, shs_map]
@[simp] theorem sh_lst {l} : sh N (.lst l) = .lst (l.map (sh N)) := by simp only [sh, shs_map]
@[simp] theorem sh_fl {l} : sh N (.fl l) = .fl (l.map (sh N)) := by simp only [sh, shs_map]
@[simp] theorem sh_ref {i} : sh N (.ref i) = .ref (N + i) := by simp only [sh]
@[simp] theorem sh_ints (l : List Int) : (l.map D.int).map (sh N) = l.map D.int := by
  rw [List.map_map]
  exact List.map_congr_left fun a _ => by simp
end
mutual
theorem sh_pure (N : Nat) : ∀ (k : Nat) (d : D), pureB k d = true → sh N d = d
  | _, .non, _ => by simp
  | _, .bl _, _ => by simp
  | _, .int _, _ => by simp
  | _, .str _, _ => by simp
  | 0, .tup _, h | 0, .lst _, h | 0, .fl _, h | 0, .ref _, h => by simp [pureB] at h
  | k + 1, .tup l, h => by simp only [pureB] at h; simp only [sh, shs_pure N k l h]
  | k + 1, .lst l, h => by simp only [pureB] at h; simp only [sh, shs_pure N k l h]
  | k + 1, .fl l, h => by simp only [pureB] at h; simp only [sh, shs_pure N k l h]
  | _ + 1, .ref _, h => by simp [pureB] at h
theorem shs_pure (N : Nat) : ∀ (k : Nat) (l : List D), pureBs k l = true → shs N l = l
  | _, [], _ => by simp only [shs]
  | k, d :: r, h => by
    simp only [pureBs, Bool.and_eq_true] at h
    simp only [shs, sh_pure N k d h.1, shs_pure N k r h.2]
end
def shO (N : Nat) : O → O
  | .lst l => .lst (l.map (sh N))
  | .dk l => .dk (l.map fun p => (p.1, sh N p.2))
  | .dt l => .dt (l.map fun p => (p.1, sh N p.2))
/-- the store behind st0 -/
def bg (st0 st : Store) : Store := st0 ++ st.map (shO st0.length)
section
variable {st0 st : Store}
theorem bg_get (i : Nat) : (bg st0 st)[st0.length + i]? = st[i]?.map (shO st0.length) := by
  unfold bg
  rw [List.getElem?_append_right (by omega)]
  simp
theorem bg_set (i : Nat) (o : O) : (bg st0 st).set (st0.length + i) (shO st0.length o) = bg st0 (st.set i o) := by
  unfold bg
  rw [List.set_append_right _ _ (by omega)]
  simp [List.map_set]
theorem bg_setL (i : Nat) (l : List D) : (bg st0 st).set (st0.length + i) (.lst (l.map (sh st0.length))) = bg st0 (st.set i (.lst l)) := bg_set i (.lst l)
theorem bg_push (l : List D) : bg st0 st ++ [.lst (l.map (sh st0.length))] = bg st0 (st ++ [.lst l]) := by
  unfold bg
  simp [shO]
theorem bg_len : (bg st0 st).length = st0.length + st.length := by simp [bg]
theorem bg_nil : bg st0 [] = st0 := by simp [bg]
theorem items_sh (d : D) : items (bg st0 st) (sh st0.length d) = (items st d).map (List.map (sh st0.length)) := by
  cases d with
  | ref i =>
    simp only [sh_ref, items, bg_get]
    cases st[i]? with
    | none => rfl
    | some o => cases o <;> rfl
  | _ => simp [items]
theorem flat1_sh (d : D) : flat1 (bg st0 st) (sh st0.length d) = sh st0.length (flat1 st d) := by
  cases d with
  | ref i =>
    simp only [sh_ref, flat1, bg_get]
    cases st[i]? with
    | none => simp
    | some o => cases o <;> simp [shO]
  | _ => simp [flat1]
mutual
theorem pd_sh (N : Nat) : ∀ (n : Nat) (d : D), pd n (sh N d) = pd n d
  | _, .non => by simp
  | _, .bl _ => by simp
  | _, .int _ => by simp
  | _, .str _ => by simp
  | 0, .tup _ => by simp [pd]
  | 0, .lst _ => by simp [pd]
  | 0, .fl _ => by simp [pd]
  | 0, .ref _ => by simp [pd]
  | k + 1, .tup l => by simp only [sh, pd, pds_sh N k l]
  | k + 1, .lst l => by simp only [sh, pd, pds_sh N k l]
  | k + 1, .fl l => by simp only [sh, pd, pds_sh N k l]
  | _ + 1, .ref _ => by simp [pd]
theorem pds_sh (N : Nat) : ∀ (n : Nat) (l : List D), pds n (shs N l) = pds n l
  | _, [] => by simp only [shs]
  | k, d :: r => by simp only [shs, pds, pd_sh N k d, pds_sh N k r]
end
theorem deq_sh (a b : D) : deq (bg st0 st) (sh st0.length a) (sh st0.length b) = deq st a b := by
  simp only [deq, flat1_sh, pd_sh]
theorem made_sh (d : D) : madeItems (bg st0 st) (sh st0.length d) = (madeItems st d).map (List.map (sh st0.length)) := by
  cases d with
  | ref i =>
    simp only [sh_ref, madeItems, bg_get]
    cases st[i]? with
    | none => rfl
    | some o => cases o <;> rfl
  | _ => simp [madeItems]
theorem listItems_sh (d : D) : listItems (bg st0 st) (sh st0.length d) = (listItems st d).map (List.map (sh st0.length)) := by
  cases d with
  | tup l => simp [listItems]
  | _ => 
    rw [show ∀ d', listItems st d' = listItems st d' from fun _ => rfl]
    first
      | (simp only [listItems]; exact items_sh _)
      | (simp only [sh_ref, listItems]; rw [← sh_ref]; exact items_sh _)
      | simp [listItems, items]
/-! ### results -/
def LeX {α β : Type} (st0 : Store) (rel : α → β → Prop) (r : R α) (r' : R β) : Prop := match r with
  | .ok a st => ∃ b, r' = .ok b (bg st0 st) ∧ rel a b
  | .exc c st => r' = .exc c (bg st0 st)
  | .stuck => True
abbrev LeD (st0 : Store) : R D → R D → Prop := LeX st0 fun d d' => d' = sh st0.length d
abbrev LeDs (st0 : Store) : R (List D) → R (List D) → Prop := LeX st0 fun d d' => d' = d.map (sh st0.length)
abbrev LeB (st0 : Store) : R Bool → R Bool → Prop := LeX st0 fun d d' => d = d'
theorem LeX.bind {α β α' β' : Type} {rel : α → β → Prop} {rel' : α' → β' → Prop} {r : R α} {r' : R β} {k : α → Store → R α'} {k' : β → Store → R β'} (h : LeX st0 rel r r') (hk : ∀ a b st, rel a b → LeX st0 rel' (k a st) (k' b (bg st0 st))) : LeX st0 rel' (r.bind k) (r'.bind k') := by
  cases r with
  | ok a st =>
    obtain ⟨b, rfl, q⟩ := h
    exact hk a b st q
  | exc c st =>
    have h : r' = .exc c (bg st0 st) := h
    rw [h]
    exact rfl
  | stuck => trivial
theorem LeX.ofO {α β α' : Type} {rel' : α' → β → Prop} {o : Option α} {k : α → R α'} {r' : R β} (hk : ∀ a, o = some a → LeX st0 rel' (k a) r') : LeX st0 rel' (R.ofO o k) r' := by
  cases o with
  | none => trivial
  | some a => exact hk a rfl
theorem LeX.ofM {α β α' β' : Type} {rel' : α' → β' → Prop} {f : α → β} {o : Option α} {o' : Option β} {k : α → R α'} {k' : β → R β'} (e : o' = o.map f) (hk : ∀ a, LeX st0 rel' (k a) (k' (f a))) : LeX st0 rel' (R.ofO o k) (R.ofO o' k') := by
  subst e
  cases o with
  | none => trivial
  | some a => exact hk a
theorem LeX.ofI {α α' β' : Type} {rel' : α' → β' → Prop} {o o' : Option α} {k : α → R α'} {k' : α → R β'} (e : o' = o) (hk : ∀ a, LeX st0 rel' (k a) (k' a)) : LeX st0 rel' (R.ofO o k) (R.ofO o' k') := by
  subst e
  cases o' with
  | none => trivial
  | some a => exact hk a
theorem LeX.okD {d d' : D} (e : d' = sh st0.length d) : LeD st0 (.ok d st) (.ok d' (bg st0 st)) := ⟨_, rfl, e⟩
theorem LeX.ok {α β : Type} {rel : α → β → Prop} {a : α} {b : β} (e : rel a b) : LeX st0 rel (.ok a st) (.ok b (bg st0 st)) := ⟨_, rfl, e⟩
/-! ### operators -/
theorem cat_sh (f : D → D) (o : BO) (l r : List D) : cat o (l.map f) (r.map f) = (cat o l r).map (List.map f) := by
  cases o <;> simp only [cat, List.length_map, Option.map_none]
  split <;> simp
theorem rep_sh (f : D → D) (l : List D) (k : Int) : rep (l.map f) k = (rep l k).map f := by
  unfold rep
  rw [List.map_flatten, List.map_replicate]
theorem binT_sh (f : D → D) (o : BO) (l : List D) (k : Int) : binT o (l.map f) k = (binT o l k).map (List.map f) := by
  cases o <;> simp only [binT, List.length_map, Option.map_none]
  split <;> simp [rep_sh]
theorem binL_sh (f : D → D) (o : BO) (l : List D) (k : Int) : binL o (l.map f) k = (binL o l k).map (List.map f) := by
  cases o <;> simp only [binL, List.length_map, Option.map_none]
  split <;> simp [rep_sh]
theorem binInt_sh (o : BO) (i : Int) (b : D) : LeD st0 (binInt o i b st) (binInt o i (sh st0.length b) (bg st0 st)) := by
  cases b with
  | int j =>
    rw [sh_int]
    exact LeX.ofI rfl fun a => .okD (by simp)
  | _ => trivial
theorem binTup_sh (o : BO) (l : List D) (b : D) : LeD st0 (binTup o l b st) (binTup o (l.map (sh st0.length)) (sh st0.length b) (bg st0 st)) := by
  cases b with
  | int j =>
    rw [sh_int]
    exact LeX.ofM (binT_sh _ o l j) fun a => .okD (by simp)
  | tup r =>
    rw [sh_tup]
    exact LeX.ofM (cat_sh _ o l r) fun a => .okD (by simp)
  | _ => trivial
theorem binLst_sh (o : BO) (l : List D) (b : D) : LeD st0 (binLst o l b st) (binLst o (l.map (sh st0.length)) (sh st0.length b) (bg st0 st)) := by
  have main : LeD st0 (R.ofO (madeItems st b) fun r => .ofO (cat o l r) fun z => .ok (.lst z) st) (R.ofO (madeItems (bg st0 st) (sh st0.length b)) fun r => .ofO (cat o (l.map (sh st0.length)) r) fun z => .ok (.lst z) (bg st0 st)) :=
    LeX.ofM (made_sh b) fun a => LeX.ofM (cat_sh _ o l a) fun z => .okD (by simp)
  cases b with
  | int j =>
    rw [sh_int]
    exact LeX.ofM (binL_sh _ o l j) fun a => .okD (by simp)
  | _ => simpa only [binLst, sh_ref, sh_tup, sh_lst, sh_fl, sh_str, sh_bl, sh_non] using main
theorem binD_sh (o : BO) (a b : D) : LeD st0 (binD o a b st) (binD o (sh st0.length a) (sh st0.length b) (bg st0 st)) := by
  cases a with
  | int i => rw [sh_int]; exact binInt_sh o i b
  | tup l => rw [sh_tup]; exact binTup_sh o l b
  | str x =>
    rw [sh_str]
    show LeD st0 (binStr o x b st) (binStr o x (sh st0.length b) (bg st0 st))
    cases b with
    | str y => rw [sh_str]; exact LeX.ofI rfl fun a => .okD (by simp)
    | _ => trivial
  | lst l => rw [sh_lst]; exact binLst_sh o l b
  | ref i =>
    have := made_sh (st0 := st0) (st := st) (.ref i)
    rw [sh_ref] at this ⊢
    exact LeX.ofM this fun a => binLst_sh o a b
  | _ => trivial
theorem augD_sh (o : BO) (a b : D) : LeD st0 (augD o a b st) (augD o (sh st0.length a) (sh st0.length b) (bg st0 st)) := by
  cases a <;> try trivial
  cases b <;> try trivial
  simp only [sh_int, augD]
  cases o <;> first | trivial | exact .okD (by simp)
theorem flatB_sh (N : Nat) (d : D) : flatB (sh N d) = flatB d := by cases d <;> simp [flatB]
theorem vD_sh (N : Nat) (d : D) : vD (sh N d) = vD d := by cases d <;> simp [vD]
theorem inD_sh (a b : D) : inD (bg st0 st) (sh st0.length a) (sh st0.length b) = inD st a b := by
  unfold inD
  rw [items_sh]
  cases items st b with
  | none => rfl
  | some l =>
    have e1 : (l.map (sh st0.length)).all flatB = l.all flatB := by rw [List.all_map]; exact congrArg l.all (funext fun d => flatB_sh _ d)
    have e2 : (l.map (sh st0.length)).map vD = l.map vD := by rw [List.map_map]; exact List.map_congr_left fun d _ => vD_sh _ d
    have e3 : inDat (bg st0 st) (sh st0.length a) (sh st0.length b) = inDat st a b := by simp only [inDat, flat1_sh, pd_sh]
    simp only [Option.map_some, flatB_sh, vD_sh, e1, e2, e3]
theorem isNon_sh (N : Nat) (d : D) : isNon (sh N d) = isNon d := by cases d <;> simp [isNon]
theorem cmpD_sh (o : CO) (a b : D) : cmpD o (sh st0.length a) (sh st0.length b) (bg st0 st) = cmpD o a b st := by
  cases o
  case eq => exact deq_sh a b
  case ne => simp only [cmpD, deq_sh]
  case is => cases b <;> simp [cmpD, isNon_sh]
  case isnot => cases b <;> simp [cmpD, isNon_sh]
  case in_ => exact inD_sh a b
  case notin => simp only [cmpD, inD_sh]
  all_goals (cases a <;> cases b <;> simp [cmpD])
theorem truD_sh (d : D) : truD (bg st0 st) (sh st0.length d) = truD st d := by
  cases d with
  | ref i =>
    simp only [sh_ref, truD, bg_get]
    cases st[i]? with
    | none => rfl
    | some o => cases o <;> simp [shO]
  | _ => simp [truD]
theorem intsD_sh (N : Nat) : ∀ l : List D, intsD (l.map (sh N)) = intsD l
  | [] => rfl
  | d :: r => by
    have ih := intsD_sh N r
    cases d <;> simp [intsD, ih]
theorem boolsD_sh (N : Nat) : ∀ l : List D, boolsD (l.map (sh N)) = boolsD l
  | [] => rfl
  | d :: r => by
    have ih := boolsD_sh N r
    cases d <;> simp [boolsD, ih]
theorem intsOf_sh (d : D) : intsOf (bg st0 st) (sh st0.length d) = intsOf st d := by
  unfold intsOf
  rw [listItems_sh]
  cases listItems st d with
  | none => rfl
  | some l => exact intsD_sh _ l
theorem boolsOf_sh (d : D) : boolsOf (bg st0 st) (sh st0.length d) = boolsOf st d := by
  unfold boolsOf
  rw [listItems_sh]
  cases listItems st d with
  | none => rfl
  | some l => exact boolsD_sh _ l
theorem lenD_sh (d : D) : lenD (bg st0 st) (sh st0.length d) = lenD st d := by
  have main : ((items (bg st0 st) (sh st0.length d)).map fun l => (l.length : Int)) = (items st d).map fun l => (l.length : Int) := by
    rw [items_sh, Option.map_map]
    exact congrArg (fun f => Option.map f (items st d)) (funext fun l => by simp)
  cases d <;> first | (rw [sh_str]; rfl) | (simpa only [lenD, sh_ref, sh_tup, sh_lst, sh_fl, sh_bl, sh_non, sh_int] using main)
theorem absD_sh (N : Nat) (d : D) : absD (sh N d) = absD d := by cases d <;> simp [absD]
theorem intD_sh (N : Nat) (d : D) : intD (sh N d) = intD d := by cases d <;> simp [intD]
theorem max2_sh (N : Nat) (a b : D) : max2D (sh N a) (sh N b) = max2D a b := by cases a <;> cases b <;> simp [max2D]
theorem min2_sh (N : Nat) (a b : D) : min2D (sh N a) (sh N b) = min2D a b := by cases a <;> cases b <;> simp [min2D]
theorem gcd_sh (N : Nat) (a b : D) : gcdD (sh N a) (sh N b) = gcdD a b := by cases a <;> cases b <;> simp [gcdD]
theorem rowsD_sh (N : Nat) : ∀ l : List D, rowsD (l.map (sh N)) = rowsD l
  | [] => rfl
  | d :: r => by
    have ih := rowsD_sh N r
    cases d <;> simp [rowsD, ih, intsD_sh]
theorem sortAny_sh (d : D) : sortAny (bg st0 st) (sh st0.length d) = (sortAny st d).map (List.map (sh st0.length)) := by
  unfold sortAny
  rw [intsOf_sh]
  cases intsOf st d with
  | some l => simp
  | none =>
    simp only [sortO, listItems_sh]
    cases listItems st d with
    | none => rfl
    | some l =>
      simp only [Option.map_some, Option.bind_some, List.length_map, rowsD_sh]
      split
      · rfl
      · cases rowsD l with
        | none => rfl
        | some rs =>
          simp only [Option.map_some, List.map_map]
          refine congrArg some (List.map_congr_left fun r _ => ?_)
          simp
theorem minAny_sh (d : D) : minAny (bg st0 st) (sh st0.length d) = (minAny st d).map (sh st0.length) := by
  unfold minAny
  rw [intsOf_sh]
  cases intsOf st d with
  | some l =>
    show (minL l).map D.int = ((minL l).map D.int).map (sh st0.length)
    cases minL l with
    | none => rfl
    | some i => simp
  | none =>
    simp only [listItems_sh]
    cases listItems st d with
    | none => rfl
    | some l =>
      simp only [Option.map_some, Option.bind_some, rowsD_sh]
      cases rowsD l with
      | none => rfl
      | some rs =>
        cases rs with
        | nil => rfl
        | cons x r => simp
theorem biD1_sh (b : BI) (d : D) : LeD st0 (biD1 b d st) (biD1 b (sh st0.length d) (bg st0 st)) := by
  cases b <;> first | trivial | skip
  · exact LeX.ofI (lenD_sh d) fun a => .okD (by simp)
  · exact LeX.ofI (absD_sh _ d) fun a => .okD (by simp)
  · exact LeX.ofI (intD_sh _ d) fun a => .okD (by simp)
  · exact LeX.ofI (by rw [intsOf_sh]) fun a => .okD (by simp)
  · exact LeX.ofM (minAny_sh d) fun a => .okD rfl
  · exact LeX.ofI (intsOf_sh d) fun a => .okD (by simp)
  · exact LeX.ofI (boolsOf_sh d) fun a => .okD (by simp)
  · exact LeX.ofI (boolsOf_sh d) fun a => .okD (by simp)
  · exact LeX.ofM (sortAny_sh d) fun a => .okD (by simp)
  · exact LeX.ofM (items_sh d) fun a => .okD (by simp)
  · exact LeX.ofM (items_sh d) fun a => .okD (by simp)
theorem biD_sh (b : BI) (ds : List D) : LeD st0 (biD b ds st) (biD b (ds.map (sh st0.length)) (bg st0 st)) := by
  match ds with
  | [] => trivial
  | [d] => exact biD1_sh b d
  | [x, y] =>
    cases b <;> first | trivial | skip
    · exact LeX.ofI (max2_sh _ x y) fun a => .okD (by simp)
    · exact LeX.ofI (min2_sh _ x y) fun a => .okD (by simp)
    · exact LeX.ofI (gcd_sh _ x y) fun a => .okD (by simp)
  | _ :: _ :: _ :: _ => trivial
theorem atI_sh (f : D → D) (l : List D) (k : Int) : L2.atI (l.map f) k = (L2.atI l k).map f := by
  unfold L2.atI
  rw [List.length_map]
  cases L2.ixN l.length k with
  | none => rfl
  | some j => simp
theorem strAt_sh (N : Nat) (s : Str) (k : Int) : strAt s k = (strAt s k).map (sh N) := by
  unfold strAt
  split
  · rw [Option.map_map]
    exact congrArg (fun f => Option.map f (L2.atI s.cps.toList k)) (funext fun c => by simp)
  · rfl
theorem ixD_sh (a i : D) : LeD st0 (ixD a i st) (ixD (sh st0.length a) (sh st0.length i) (bg st0 st)) := by
  cases i with
  | int k =>
    rw [sh_int]
    have main : LeD st0 (R.ofO (items st a) fun l => .ofO (L2.atI l k) fun d => .ok d st) (R.ofO (items (bg st0 st) (sh st0.length a)) fun l => .ofO (L2.atI l k) fun d => .ok d (bg st0 st)) :=
      LeX.ofM (items_sh a) fun l => LeX.ofM (atI_sh _ l k) fun d => .okD rfl
    cases a with
    | str s => rw [sh_str]; exact LeX.ofM (strAt_sh st0.length s k) fun d => .okD rfl
    | _ => simpa only [ixD, sh_ref, sh_tup, sh_lst, sh_fl, sh_bl, sh_non, sh_int] using main
  | _ => trivial
theorem cutD_sh (f : D → D) (l : List D) (lo hi : Option Int) : cutD (l.map f) lo hi = (cutD l lo hi).map f := by
  unfold cutD
  rw [List.length_map, List.map_take, List.map_drop]
theorem pickD_sh (f : D → D) (l : List D) (lo hi : Option Int) (k : Int) : pickD (l.map f) lo hi k = (pickD l lo hi k).map f := by
  unfold pickD
  rw [List.length_map, List.map_filterMap]
  exact congrArg (fun g => List.filterMap g _) (funext fun m => by simp)
theorem oI_sh (N : Nat) (l : List D) : oI (l.map (sh N)) = oI l := by
  match l with
  | [] => rfl
  | [d] => cases d <;> simp [oI]
  | _ :: _ :: _ => simp [oI]
theorem cut1_sh (a : D) (l h : Option Int) : LeD st0 (cut1 a l h st) (cut1 (sh st0.length a) l h (bg st0 st)) := by
  have main : LeD st0 (R.ofO (listItems st a) fun xs => .ok (.lst (cutD xs l h)) st) (R.ofO (listItems (bg st0 st) (sh st0.length a)) fun xs => .ok (.lst (cutD xs l h)) (bg st0 st)) :=
    LeX.ofM (listItems_sh a) fun xs => .okD (by rw [sh_lst, cutD_sh])
  cases a with
  | tup xs => rw [sh_tup]; exact .okD (by rw [sh_tup, cutD_sh])
  | _ => simpa only [cut1, sh_ref, sh_str, sh_lst, sh_fl, sh_bl, sh_non, sh_int] using main
theorem cut3_sh (a : D) (l h : Option Int) (k : D) : LeD st0 (cut3 a l h k st) (cut3 (sh st0.length a) l h (sh st0.length k) (bg st0 st)) := by
  cases a <;> try trivial
  cases k <;> try trivial
  rename_i xs k
  simp only [sh_tup, sh_int, cut3, pickD_sh, List.length_map]
  split
  · exact .okD (by simp)
  · trivial
theorem tyN_sh (d : D) : tyN (bg st0 st) (sh st0.length d) = tyN st d := by
  cases d with
  | ref i =>
    simp only [sh_ref, tyN, bg_get]
    cases st[i]? with
    | none => rfl
    | some o => cases o <;> simp [shO]
  | _ => simp [tyN]
theorem isiD_sh (ts : List Ty) (d : D) : isiD ts (sh st0.length d) (bg st0 st) = isiD ts d st := by
  unfold isiD
  rw [tyN_sh]
theorem ownL_sh (d : D) : ownL (bg st0 st) (sh st0.length d) = (ownL st d).map fun p => (st0.length + p.1, p.2.map (sh st0.length)) := by
  cases d with
  | ref i =>
    simp only [sh_ref, ownL, bg_get]
    cases st[i]? with
    | none => rfl
    | some o => cases o <;> simp [shO]
  | _ => simp [ownL]
theorem erase_map (f : D → D) : ∀ (l : List D) (j : Nat), (l.map f).eraseIdx j = (l.eraseIdx j).map f
  | [], _ => rfl
  | d :: r, 0 => rfl
  | d :: r, j + 1 => by simp [erase_map f r j]
theorem popAt_sh (f : D → D) (l : List D) (k : Int) : popAt (l.map f) k = (popAt l k).map fun q => (f q.1, q.2.map f) := by
  unfold popAt
  rw [List.length_map]
  split
  · cases L2.ixN l.length k with
    | none => rfl
    | some j =>
      simp only [Option.bind_some, List.getElem?_map, Option.map_map]
      refine congrArg (fun g => Option.map g l[j]?) (funext fun d => ?_)
      simp [erase_map]
  · rfl
theorem mePop_sh (i : Nat) (l ds : List D) : LeD st0 (mePop i l ds st) (mePop (st0.length + i) (l.map (sh st0.length)) (ds.map (sh st0.length)) (bg st0 st)) := by
  match ds with
  | [] =>
    refine LeX.ofM (f := sh st0.length) (by simp) fun d => ?_
    rw [← List.map_dropLast, bg_setL]
    exact .okD rfl
  | [d] =>
    show LeD st0 (mePopAt i l d st) (mePopAt _ _ (sh st0.length d) _)
    cases d <;> try trivial
    rw [sh_int]
    refine LeX.ofM (popAt_sh _ l _) fun q => ?_
    rw [bg_setL]
    exact .okD rfl
  | _ :: _ :: _ => trivial
theorem meD_sh (m : MT) (r : D) (ds : List D) : LeD st0 (meD m r ds st) (meD m (sh st0.length r) (ds.map (sh st0.length)) (bg st0 st)) := by
  unfold meD
  refine LeX.ofM (ownL_sh r) fun p => ?_
  cases m <;> first | trivial | skip
  · match ds with
    | [] => trivial
    | [d] =>
      simp only [List.map_cons, List.map_nil, List.length_map]
      split
      · rw [show p.2.map (sh st0.length) ++ [sh st0.length d] = (p.2 ++ [d]).map (sh st0.length) by simp, bg_setL]
        exact .okD (by simp)
      · trivial
    | _ :: _ :: _ => trivial
  · match ds with
    | [] => trivial
    | [d] =>
      refine LeX.ofM (made_sh d) fun r => ?_
      simp only [List.length_map]
      split
      · rw [← List.map_append, bg_setL]
        exact .okD (by simp)
      · trivial
    | _ :: _ :: _ => trivial
  · exact mePop_sh p.1 p.2 ds
/-! ### what is walked -/
def shG (N : Nat) (g : Nat × List D) : Nat × List D := (N + g.1, g.2.map (sh N))
def shSrc (N : Nat) (s : Src) : Src := ⟨s.ds.map (sh N), s.gs.map (shG N)⟩
mutual
theorem beq_sh (N : Nat) : ∀ a b : D, D.beq (sh N a) (sh N b) = D.beq a b
  | .non, b => by cases b <;> simp [D.beq]
  | .bl _, b => by cases b <;> simp [D.beq]
  | .int _, b => by cases b <;> simp [D.beq]
  | .str _, b => by cases b <;> simp [D.beq]
  | .ref i, b => by
    cases b <;> simp [D.beq]
    rename_i j
    rw [Bool.eq_iff_iff]
    simp
  | .tup as, b => by cases b <;> simp only [sh, D.beq]; exact beqs_sh N as _
  | .lst as, b => by cases b <;> simp only [sh, D.beq]; exact beqs_sh N as _
  | .fl as, b => by cases b <;> simp only [sh, D.beq]; exact beqs_sh N as _
theorem beqs_sh (N : Nat) : ∀ a b : List D, D.beqs (shs N a) (shs N b) = D.beqs a b
  | [], b => by cases b <;> simp only [shs, D.beqs]
  | a :: as, [] => by simp only [shs, D.beqs]
  | a :: as, b :: bs => by simp only [shs, D.beqs, beq_sh N a b, beqs_sh N as bs]
end
theorem beqs_shm (N : Nat) (a b : List D) : D.beqs (a.map (sh N)) (b.map (sh N)) = D.beqs a b := by
  rw [← shs_map, ← shs_map, beqs_sh]
theorem guards_sh (gs : List (Nat × List D)) : guards (gs.map (shG st0.length)) (bg st0 st) = guards gs st := by
  unfold guards
  rw [List.all_map]
  refine congrArg gs.all (funext fun g => ?_)
  simp only [Function.comp, guard1, shG, bg_get]
  cases st[g.1]? with
  | none => rfl
  | some o => cases o <;> simp [shO, beqs_shm]
theorem srcOf_sh (d : D) : srcOf (bg st0 st) (sh st0.length d) = (srcOf st d).map (shSrc st0.length) := by
  have main : ((items (bg st0 st) (sh st0.length d)).map fun l => (⟨l, []⟩ : Src)) = ((items st d).map fun l => (⟨l, []⟩ : Src)).map (shSrc st0.length) := by
    rw [items_sh, Option.map_map, Option.map_map]
    exact congrArg (fun f => Option.map f (items st d)) (funext fun l => by simp [shSrc])
  cases d with
  | ref i =>
    simp only [sh_ref, srcOf, bg_get]
    cases st[i]? with
    | none => rfl
    | some o => cases o <;> simp [shO, shSrc, shG]
  | _ => simpa only [srcOf, sh_str, sh_tup, sh_lst, sh_fl, sh_bl, sh_non, sh_int] using main
theorem enumD_sh (N : Nat) : ∀ (l : List D) (n : Nat), enumD n (l.map (sh N)) = (enumD n l).map (sh N)
  | [], _ => rfl
  | d :: r, n => by simp [enumD, enumD_sh N r]
theorem zipD_sh (N : Nat) : ∀ (l r : List D), zipD (l.map (sh N)) (r.map (sh N)) = (zipD l r).map (sh N)
  | [], r => by cases r <;> rfl
  | d :: l, [] => rfl
  | d :: l, e :: r => by simp [zipD, zipD_sh N l r]
theorem rngD_sh (N : Nat) (c : Int) : ∀ (n : Nat) (lo : Int), (rngD lo c n).map (sh N) = rngD lo c n
  | 0, _ => rfl
  | n + 1, lo => by simp [rngD, rngD_sh N c n]
theorem rngOf_sh (N : Nat) (ds : List D) : rngOf (ds.map (sh N)) = (rngOf ds).map (shSrc N) := by
  match ds with
  | [] => rfl
  | [a] =>
    cases a <;> simp only [List.map_cons, List.map_nil, sh_non, sh_bl, sh_int, sh_str, sh_tup, sh_lst, sh_fl, sh_ref, rngOf, Option.map_none]
    split <;> simp [shSrc, rngD_sh]
  | [a, b] =>
    cases a <;> cases b <;> simp only [List.map_cons, List.map_nil, sh_non, sh_bl, sh_int, sh_str, sh_tup, sh_lst, sh_fl, sh_ref, rngOf, Option.map_none]
    split <;> simp [shSrc, rngD_sh]
  | [a, b, c] =>
    cases a <;> try simp [rngOf]
    cases b <;> try simp [rngOf]
    cases c <;> try simp [rngOf]
    split <;> simp [shSrc, rngD_sh]
  | _ :: _ :: _ :: _ :: _ => simp [rngOf]
theorem lrg_sh (N : Nat) (a b : D) : lrg (sh N a) (sh N b) = (lrg a b).map (List.map (sh N)) := by
  cases a <;> cases b <;> simp only [sh_non, sh_bl, sh_int, sh_str, sh_tup, sh_lst, sh_fl, sh_ref, lrg, Option.map_none]
  split <;> simp [rngD_sh]
theorem setD_sh (a i d : D) : setD (sh st0.length a) (sh st0.length i) (sh st0.length d) (bg st0 st) = (setD a i d st).map (bg st0) := by
  unfold setD
  rw [ownL_sh]
  cases ownL st a with
  | none => rfl
  | some p =>
    cases i <;> try simp
    rename_i k
    cases L2.ixN p.2.length k with
    | none => rfl
    | some j =>
      simp only [Option.map_some, Function.comp]
      rw [← bg_setL, List.map_set]
theorem getL_sh (a i : D) : LeD st0 (getL a i st) (getL (sh st0.length a) (sh st0.length i) (bg st0 st)) := by
  unfold getL
  refine LeX.ofM (ownL_sh a) fun p => ?_
  cases i <;> try trivial
  rw [sh_int]
  exact LeX.ofM (atI_sh _ p.2 _) fun d => .okD rfl
theorem ownD_sh (d : D) : LeD st0 (ownD d st) (ownD (sh st0.length d) (bg st0 st)) := by
  cases d <;> try trivial
  rename_i l
  rw [sh_lst]
  show LeD st0 (.ok (.ref st.length) (st ++ [.lst l])) (.ok (.ref (bg st0 st).length) (bg st0 st ++ [.lst (l.map (sh st0.length))]))
  rw [bg_push, bg_len]
  exact .okD (by simp)
theorem negD_sh (N : Nat) (d : D) : negD (sh N d) = negD d := by cases d <;> simp [negD]
theorem seqOf_sh (d : D) : seqOf (bg st0 st) (sh st0.length d) = (seqOf st d).map (List.map (sh st0.length)) := by
  cases d with
  | ref i =>
    simp only [sh_ref, seqOf, bg_get]
    cases st[i]? with
    | none => rfl
    | some o => cases o <;> simp [shO]
  | _ => simp [seqOf]
theorem tupOf_sh (N : Nat) (d : D) : tupOf (sh N d) = (tupOf d).map (List.map (sh N)) := by cases d <;> simp [tupOf]
theorem pairsD_sh (N : Nat) : ∀ l : List D, pairsD (l.map (sh N)) = (pairsD l).map (List.map fun p : Int × D => (p.1, sh N p.2))
  | [] => rfl
  | d :: r => by
    have ih := pairsD_sh N r
    rw [List.map_cons]
    cases d with
    | tup l =>
      rw [sh_tup]
      match l with
      | [] => simp [pairsD]
      | [x] => simp [pairsD]
      | [x, y] =>
        cases x <;> simp [pairsD, ih]
        cases pairsD r <;> simp
      | _ :: _ :: _ :: _ => simp [pairsD]
    | _ => simp [pairsD]
theorem lastV_sh (N : Nat) (k : Int) : ∀ ps : List (Int × D), lastV k (ps.map fun p : Int × D => (p.1, sh N p.2)) = (lastV k ps).map (sh N)
  | [] => rfl
  | (j, v) :: r => by
    simp only [List.map_cons, lastV, lastV_sh N k r]
    cases lastV k r with
    | some w => rfl
    | none =>
      simp only [Option.map_none]
      split <;> rfl
theorem dkOf_sh (d : D) : dkOf (bg st0 st) (sh st0.length d) = (dkOf st d).map (List.map fun p : Key × D => (p.1, sh st0.length p.2)) := by
  cases d with
  | ref i =>
    simp only [sh_ref, dkOf, bg_get]
    cases st[i]? with
    | none => rfl
    | some o => cases o <;> rfl
  | _ => simp [dkOf]
theorem keyD_sh (N : Nat) (d : D) : keyD (sh N d) = keyD d := by cases d <;> simp [keyD]
theorem lookD_sh (N : Nat) (k : Key) : ∀ l : List (Key × D), lookD (l.map fun p : Key × D => (p.1, sh N p.2)) k = (lookD l k).map (sh N)
  | [] => rfl
  | p :: r => by
    have ih := lookD_sh N k r
    unfold lookD at ih ⊢
    rw [List.map_cons, List.find?_cons, List.find?_cons]
    by_cases e : p.1 = k
    · simp [e]
    · simp only [e, decide_false]
      exact ih
theorem putD_sh (N : Nat) (k : Key) (d : D) (l : List (Key × D)) : putD (l.map fun p : Key × D => (p.1, sh N p.2)) k (sh N d) = (putD l k d).map fun p : Key × D => (p.1, sh N p.2) := by
  unfold putD
  rw [List.any_map]
  have e : (l.any ((fun p : Key × D => decide (p.1 = k)) ∘ fun p : Key × D => (p.1, sh N p.2))) = l.any fun p => decide (p.1 = k) := rfl
  rw [e]
  split
  · rw [List.map_map, List.map_map]
    refine List.map_congr_left fun p _ => ?_
    simp only [Function.comp]
    split <;> rfl
  · rw [List.map_append]
    rfl
theorem datD_sh (x y : D) : datD (sh st0.length x) (sh st0.length y) (bg st0 st) = (datD x y st).map (sh st0.length) := by
  unfold datD
  rw [dkOf_sh, keyD_sh]
  cases dkOf st x with
  | none => rfl
  | some l =>
    cases keyD y with
    | none => rfl
    | some k => exact lookD_sh _ k l
theorem dinD_sh (x y : D) : dinD (sh st0.length x) (sh st0.length y) (bg st0 st) = dinD x y st := by
  unfold dinD
  rw [dkOf_sh, keyD_sh]
  cases dkOf st x with
  | none => rfl
  | some l =>
    cases keyD y with
    | none => rfl
    | some k =>
      simp only [Option.map_some, Option.bind_some, lookD_sh]
      cases lookD l k <;> rfl
theorem dg2D_sh (x y z : D) : dg2D (sh st0.length x) (sh st0.length y) (sh st0.length z) (bg st0 st) = (dg2D x y z st).map (sh st0.length) := by
  unfold dg2D
  rw [dkOf_sh, keyD_sh]
  cases dkOf st x with
  | none => rfl
  | some l =>
    cases keyD y with
    | none => rfl
    | some k =>
      simp only [Option.map_some, Option.bind_some, lookD_sh]
      cases lookD l k <;> rfl
theorem dsetD_sh (x y d : D) : dsetD (sh st0.length x) (sh st0.length y) (sh st0.length d) (bg st0 st) = (dsetD x y d st).map (bg st0) := by
  cases x with
  | ref i =>
    simp only [sh_ref, dsetD, bg_get]
    cases st[i]? with
    | none => rfl
    | some o =>
      cases o with
      | dk l =>
        simp only [Option.map_some, shO, keyD_sh, List.length_map]
        cases keyD y with
        | none => rfl
        | some k =>
          simp only [Option.bind_some, putD_sh]
          split
          · have := bg_set (st0 := st0) (st := st) i (.dk (putD l k d))
            simp only [shO] at this
            simp only [Option.map_some, this]
          · rfl
      | _ => rfl
  | _ => simp [dsetD]
theorem dgetD_sh (ps : List (Int × D)) (y z : D) : LeD st0 (dgetD ps y z st) (dgetD (ps.map fun p : Int × D => (p.1, sh st0.length p.2)) (sh st0.length y) (sh st0.length z) (bg st0 st)) := by
  cases y <;> try trivial
  rw [sh_int]
  unfold dgetD
  refine .okD ?_
  rw [lastV_sh]
  cases lastV _ ps <;> rfl
theorem setLen_sh (d : D) : setLen (bg st0 st) (sh st0.length d) = setLen st d := by
  unfold setLen
  rw [intsOf_sh]
  cases intsOf st d with
  | some l => rfl
  | none => cases d <;> simp [intsD_sh]
theorem permL_sh (f : D → D) (p : List Nat) (ds : List D) : permL p (ds.map f) = (permL p ds).map f := by
  unfold permL
  rw [List.map_filterMap]
  exact congrArg (fun g => List.filterMap g p) (funext fun m => by simp)
end
end Ev

set_option Elab.async false
set_option linter.all false
set_option maxRecDepth 100000
set_option autoImplicit false
/-! Ev, part Fs: what is computed over the empty store is computed over any store: the evaluator. -/
namespace Ev
open PySem PySem.Spec PyProof.Rows L2
/-- the greater run's environment: where the small one has nothing, P tells -/
structure RelE (N : Nat) (P : Nat → Option D → Prop) (env env' : Env) : Prop where
  len : env'.length = env.length
  at_ : ∀ i x, env[i]? = some x → ∃ y, env'[i]? = some y ∧ match x with
    | some d => y = some (sh N d)
    | none => P i y
theorem RelE.get {N : Nat} {P : Nat → Option D → Prop} {env env' : Env} (r : RelE N P env env') {i : Nat} {d : D} (h : env[i]?.join = some d) : env'[i]?.join = some (sh N d) := by
  cases e : env[i]? with
  | none => rw [e] at h; cases h
  | some x =>
    rw [e] at h
    have h : x = some d := h
    subst h
    obtain ⟨y, e2, q⟩ := r.at_ i _ e
    rw [e2, q]
    rfl
theorem RelE.set {N : Nat} {P : Nat → Option D → Prop} {env env' : Env} (r : RelE N P env env') (i : Nat) (d : D) : RelE N P (env.set i (some d)) (env'.set i (some (sh N d))) := by
  refine ⟨by simp [r.len], fun j x e => ?_⟩
  by_cases q : i = j
  · subst q
    have hi : i < env.length := by
      have := (List.getElem?_eq_some_iff.mp e).1
      simpa using this
    rw [List.getElem?_set_self hi] at e
    cases e
    exact ⟨_, List.getElem?_set_self (by rw [r.len]; exact hi), rfl⟩
  · rw [List.getElem?_set_ne q] at e ⊢
    exact r.at_ j x e
theorem RelE.weak {N : Nat} {P P' : Nat → Option D → Prop} {env env' : Env} (r : RelE N P env env') (h : ∀ i y, P i y → P' i y) : RelE N P' env env' :=
  ⟨r.len, fun i x e => by
    obtain ⟨y, e2, q⟩ := r.at_ i x e
    refine ⟨y, e2, ?_⟩
    cases x with
    | none => exact h i y q
    | some d => exact q⟩
abbrev Top : Nat → Option D → Prop := fun _ _ => True
theorem RelE.wipe {N : Nat} {env env' : Env} (r : RelE N Top env env') : ∀ own : List Nat, RelE N Top (wipeE env own) (wipeE env' own)
  | [] => r
  | v :: vs => by
    have ih := RelE.wipe r vs
    simp only [wipeE]
    refine ⟨by simp [ih.len], fun j x e => ?_⟩
    by_cases q : v = j
    · subst q
      have hi : v < (wipeE env vs).length := by
        have := (List.getElem?_eq_some_iff.mp e).1
        simpa using this
      rw [List.getElem?_set_self hi] at e
      cases e
      exact ⟨_, List.getElem?_set_self (by rw [ih.len]; exact hi), trivial⟩
    · rw [List.getElem?_set_ne q] at e ⊢
      exact ih.at_ j x e
structure LeC (st0 : Store) (c c' : Cfg) : Prop where
  call : ∀ f ds st, LeD st0 (c.call f ds st) (c'.call f (ds.map (sh st0.length)) (bg st0 st))
  glob : ∀ (i : Nat) (d : D), c.glob[i]? = some d → c'.glob[i]? = some (sh st0.length d)
  fuel : c.fuel ≤ c'.fuel
  nx : c'.nx = c.nx
section
variable {st0 : Store} {c c' : Cfg}
theorem compL_le {gs : List (Nat × List D)} {body body' : D → Store → R (Option D)} (hb : ∀ d st, LeX st0 (fun o o' => o' = o.map (sh st0.length)) (body d st) (body' (sh st0.length d) (bg st0 st))) :
    ∀ (ds : List D) (st : Store), LeDs st0 (compL gs body ds st) (compL (gs.map (shG st0.length)) body' (ds.map (sh st0.length)) (bg st0 st))
  | [], st => by
    simp only [compL, List.map_nil, guards_sh]
    split
    · exact .ok (by simp)
    · trivial
  | d :: r, st => by
    have h1 := hb d st
    simp only [compL, List.map_cons, guards_sh]
    split
    · cases e : body d st with
      | ok o st1 =>
        rw [e] at h1
        obtain ⟨o', e', rfl⟩ := h1
        rw [e']
        have ih := compL_le (gs := gs) hb r st1
        simp only
        cases e2 : compL gs body r st1 with
        | ok l st2 =>
          rw [e2] at ih
          obtain ⟨l', e3, rfl⟩ := ih
          rw [e3]
          refine .ok ?_
          cases o <;> simp
        | exc x s => trivial
        | stuck => trivial
      | exc x s => trivial
      | stuck => trivial
    · trivial
theorem compL2_le {gs : List (Nat × List D)} {body body' : D → Store → R (List D)} (hb : ∀ d st, LeDs st0 (body d st) (body' (sh st0.length d) (bg st0 st))) :
    ∀ (ds : List D) (st : Store), LeDs st0 (compL2 gs body ds st) (compL2 (gs.map (shG st0.length)) body' (ds.map (sh st0.length)) (bg st0 st))
  | [], st => by
    simp only [compL2, List.map_nil, guards_sh]
    split
    · exact .ok (by simp)
    · trivial
  | d :: r, st => by
    have h1 := hb d st
    simp only [compL2, List.map_cons, guards_sh]
    split
    · cases e : body d st with
      | ok o st1 =>
        rw [e] at h1
        obtain ⟨o', e', rfl⟩ := h1
        rw [e']
        have ih := compL2_le (gs := gs) hb r st1
        simp only
        cases e2 : compL2 gs body r st1 with
        | ok l st2 =>
          rw [e2] at ih
          obtain ⟨l', e3, rfl⟩ := ih
          rw [e3]
          exact .ok (by simp)
        | exc x s => trivial
        | stuck => trivial
      | exc x s => trivial
      | stuck => trivial
    · trivial
theorem lcb_le {r : R Bool} {r' : R Bool} {k : Store → R D} {k' : Store → R D} (h : LeB st0 r r') (hk : ∀ st, LeD st0 (k st) (k' (bg st0 st))) :
    LeX st0 (fun (o : Option D) (o' : Option D) => o' = o.map (sh st0.length)) (r.bind fun q st => if q = true then (k st).bind fun x st => .ok (some x) st else .ok none st) (r'.bind fun q st => if q = true then (k' st).bind fun x st => .ok (some x) st else .ok none st) := by
  refine h.bind fun q q' st e => ?_
  subst e
  cases q with
  | true =>
    simp only [if_true]
    refine (hk st).bind fun x x' st e => ?_
    subst e
    exact .ok rfl
  | false => exact .ok rfl
set_option maxHeartbeats 1000000 in
mutual
theorem leE (C : LeC st0 c c') : ∀ (e : IE) {P : Nat → Option D → Prop} {env env' : Env} {st : Store}, RelE st0.length P env env' → LeD st0 (evE c e env st) (evE c' e env' (bg st0 st))
  | .non, P, env, env', st, r => by simp only [evE]; exact .okD (by simp)
  | .bl _, P, env, env', st, r => by simp only [evE]; exact .okD (by simp)
  | .int _, P, env, env', st, r => by simp only [evE]; exact .okD (by simp)
  | .str _, P, env, env', st, r => by simp only [evE]; exact .okD (by simp)
  | .v i, P, env, env', st, r => by
    simp only [evE]
    refine LeX.ofO fun d h => ?_
    rw [r.get h]
    exact .okD rfl
  | .gl i, P, env, env', st, r => by
    simp only [evE]
    refine LeX.ofO fun d h => ?_
    rw [C.glob i d h]
    exact .okD rfl
  | .tup es, P, env, env', st, r => by
    simp only [evE]
    refine (leAs C es r).bind fun a b st e => ?_
    subst e
    exact .okD (by simp)
  | .lst es, P, env, env', st, r => by
    simp only [evE]
    refine (leAs C es r).bind fun a b st e => ?_
    subst e
    exact .okD (by simp)
  | .own e, P, env, env', st, r => by
    simp only [evE]
    refine (leE C e r).bind fun a b st e => ?_
    subst e
    exact ownD_sh a
  | .bin o a b, P, env, env', st, r => by
    simp only [evE]
    refine (leE C a r).bind fun x x' st e => ?_
    subst e
    refine (leE C b r).bind fun y y' st e => ?_
    subst e
    exact binD_sh o x y
  | .neg a, P, env, env', st, r => by
    simp only [evE]
    refine (leE C a r).bind fun x x' st e => ?_
    subst e
    exact LeX.ofI (negD_sh _ x) fun i => .okD (by simp)
  | .nt a, P, env, env', st, r => by
    simp only [evE]
    refine (leE C a r).bind fun x x' st e => ?_
    subst e
    exact LeX.ofI (truD_sh x) fun i => .okD (by simp)
  | .and es, P, env, env', st, r => by simp only [evE]; exact leAnd C es r
  | .or es, P, env, env', st, r => by simp only [evE]; exact leOr C es r
  | .cmp o a b, P, env, env', st, r => by
    simp only [evE]
    refine (leE C a r).bind fun x x' st e => ?_
    subst e
    refine (leE C b r).bind fun y y' st e => ?_
    subst e
    exact LeX.ofI (cmpD_sh o x y) fun i => .okD (by simp)
  | .chain o p a b d, P, env, env', st, r => by
    simp only [evE]
    refine (leE C a r).bind fun x x' st e => ?_
    subst e
    refine (leE C b r).bind fun y y' st e => ?_
    subst e
    refine LeX.ofI (cmpD_sh o x y) fun i => ?_
    cases i with
    | false => exact .okD (by simp)
    | true =>
      simp only [if_true]
      refine (leE C d r).bind fun z z' st e => ?_
      subst e
      exact LeX.ofI (cmpD_sh p y z) fun i => .okD (by simp)
  | .ife t a b, P, env, env', st, r => by
    simp only [evE]
    refine (leT C t r).bind fun k k' st e => ?_
    subst e
    cases k with
    | true => simp only [if_true]; exact leE C a r
    | false => simp only [Bool.false_eq_true, if_false]; exact leE C b r
  | .ix a i, P, env, env', st, r => by
    simp only [evE]
    refine (leE C a r).bind fun x x' st e => ?_
    subst e
    refine (leE C i r).bind fun y y' st e => ?_
    subst e
    exact ixD_sh x y
  | .sl a lo hi, P, env, env', st, r => by
    simp only [evE]
    refine (leE C a r).bind fun x x' st e => ?_
    subst e
    refine LeX.bind (rel := fun l l' => l = l') ((leAs C lo r).bind fun l l' st e => ?_) fun l l' st e => ?_
    · subst e
      exact LeX.ofI (oI_sh _ l) fun i => .ok rfl
    subst e
    refine LeX.bind (rel := fun l l' => l = l') ((leAs C hi r).bind fun l l' st e => ?_) fun h h' st e => ?_
    · subst e
      exact LeX.ofI (oI_sh _ l) fun i => .ok rfl
    subst e
    exact cut1_sh x l h
  | .slS a lo hi k, P, env, env', st, r => by
    simp only [evE]
    refine (leE C a r).bind fun x x' st e => ?_
    subst e
    refine LeX.bind (rel := fun l l' => l = l') ((leAs C lo r).bind fun l l' st e => ?_) fun l l' st e => ?_
    · subst e
      exact LeX.ofI (oI_sh _ l) fun i => .ok rfl
    subst e
    refine LeX.bind (rel := fun l l' => l = l') ((leAs C hi r).bind fun l l' st e => ?_) fun h h' st e => ?_
    · subst e
      exact LeX.ofI (oI_sh _ l) fun i => .ok rfl
    subst e
    refine LeX.bind (rel := fun d d' => d' = sh st0.length d) ((leE C k r).bind fun d d' st e => ?_) fun d d' st e => ?_
    · subst e
      exact LeX.ofI (oI_sh _ [d]) fun i => .ok rfl
    subst e
    exact cut3_sh x l h d
  | .call f es, P, env, env', st, r => by
    simp only [evE]
    refine (leAs C es r).bind fun a b st e => ?_
    subst e
    exact C.call f a st
  | .kcall f p es, P, env, env', st, r => by
    simp only [evE]
    refine (leAs C es r).bind fun a b st e => ?_
    subst e
    rw [permL_sh]
    exact C.call f _ st
  | .dnew, P, env, env', st, r => by
    simp only [evE]
    refine ⟨.ref (st0.length + st.length), ?_, by simp⟩
    rw [bg_len, show bg st0 st ++ [O.dk []] = bg st0 (st ++ [.dk []]) by simp [bg, shO]]
  | .dat a i, P, env, env', st, r => by
    simp only [evE]
    refine (leE C a r).bind fun x x' st q => ?_
    subst q
    refine (leE C i r).bind fun y y' st q => ?_
    subst q
    exact LeX.ofM (datD_sh x y) fun d => .okD rfl
  | .din n i a, P, env, env', st, r => by
    simp only [evE]
    refine (leE C i r).bind fun y y' st q => ?_
    subst q
    refine (leE C a r).bind fun x x' st q => ?_
    subst q
    exact LeX.ofI (dinD_sh x y) fun d => .okD (by simp)
  | .dg2 a i z, P, env, env', st, r => by
    simp only [evE]
    refine (leE C a r).bind fun x x' st q => ?_
    subst q
    refine LeX.ofM (dkOf_sh x) fun _ => ?_
    refine (leE C i r).bind fun y y' st q => ?_
    subst q
    refine (leE C z r).bind fun w w' st q => ?_
    subst q
    exact LeX.ofM (dg2D_sh x y w) fun d => .okD rfl
  | .dget e a b, P, env, env', st, r => by
    simp only [evE]
    refine (leE C e r).bind fun x x' st q => ?_
    subst q
    refine LeX.ofM (f := List.map fun p : Int × D => (p.1, sh st0.length p.2)) ?_ fun ps => ?_
    · rw [listItems_sh]
      cases listItems st x with
      | none => rfl
      | some l => exact pairsD_sh _ l
    refine (leE C a r).bind fun y y' st q => ?_
    subst q
    refine (leE C b r).bind fun z z' st q => ?_
    subst q
    exact dgetD_sh ps y z
  | .bi b es, P, env, env', st, r => by
    simp only [evE]
    refine (leAs C es r).bind fun a b st e => ?_
    subst e
    exact biD_sh _ a
  | .me m o es, P, env, env', st, r => by
    simp only [evE]
    refine LeX.bind (rel := fun d d' => d' = sh st0.length d) ((leE C o r).bind fun x x' st e => ?_) fun x x' st e => ?_
    · subst e
      exact LeX.ofM (ownL_sh x) fun _ => .okD rfl
    subst e
    refine (leAs C es r).bind fun a b st e => ?_
    subst e
    exact meD_sh m x a
  | .isi e ts, P, env, env', st, r => by
    simp only [evE]
    refine (leE C e r).bind fun x x' st e => ?_
    subst e
    exact LeX.ofI (isiD_sh ts x) fun i => .okD (by simp)
  | .lc elt own tg it ifs, P, env, env', st, r => by
    simp only [evE]
    have r := r.weak (P' := Top) fun _ _ _ => trivial
    refine LeX.bind (rel := fun d d' => d' = d.map (sh st0.length)) ((leI C it r).bind fun s s' st e => ?_) fun l l' st e => ?_
    · subst e
      refine compL_le (fun d st => ?_) s.ds st
      refine (leG C tg d (r.wipe own)).bind fun env1 env1' st r1 => ?_
      exact lcb_le (leTs C ifs r1) fun st => leE C elt r1
    · subst e
      exact .okD (by simp)
  | .lc2 elt own own1 tg it ifs tg1 it1 ifs1, P, env, env', st, r => by
    simp only [evE]
    have r := r.weak (P' := Top) fun _ _ _ => trivial
    refine LeX.bind (rel := fun d d' => d' = d.map (sh st0.length)) (LeX.bind (rel := fun d d' => d' = d.map (sh st0.length)) ((leI C it r).bind fun s s' st e => ?_) fun l l' st e => ?_) fun l l' st e => ?_
    · subst e
      refine compL2_le (fun d st => ?_) s.ds st
      refine (leG C tg d (r.wipe own)).bind fun env1 env1' st r1 => ?_
      refine (leTs C ifs r1).bind fun q q' st e => ?_
      subst e
      cases q with
      | false => exact .ok (by simp)
      | true =>
        simp only [if_true]
        refine (leI C it1 r1).bind fun s s' st e => ?_
        subst e
        refine compL_le (fun d st => ?_) s.ds st
        refine (leG C tg1 d (r1.wipe own1)).bind fun env2 env2' st r2 => ?_
        exact lcb_le (leTs C ifs1 r2) fun st => leE C elt r2
    · subst e
      simp only [List.length_map]
      split
      · exact .ok rfl
      · trivial
    · subst e
      exact .okD (by simp)
  | .lrng1 a, P, env, env', st, r => by
    simp only [evE]
    refine (leE C a r).bind fun x x' st e => ?_
    subst e
    have q := lrg_sh st0.length (.int 0) x
    rw [sh_int] at q
    exact LeX.ofM q fun l => .okD (by simp)
  | .lrng2 a b, P, env, env', st, r => by
    simp only [evE]
    refine (leE C a r).bind fun x x' st e => ?_
    subst e
    refine (leE C b r).bind fun y y' st e => ?_
    subst e
    exact LeX.ofM (lrg_sh _ x y) fun l => .okD (by simp)
  | .lset e, P, env, env', st, r => by
    simp only [evE]
    refine (leE C e r).bind fun x x' st e => ?_
    subst e
    exact LeX.ofI (setLen_sh x) fun l => .okD (by simp)
  | .rng _, P, env, env', st, r | .enum _, P, env, env', st, r | .zip _ _, P, env, env', st, r | .ezip _ _, P, env, env', st, r | .walk _, P, env, env', st, r => by simp only [evE]; trivial
theorem leT (C : LeC st0 c c') : ∀ (e : IE) {P : Nat → Option D → Prop} {env env' : Env} {st : Store}, RelE st0.length P env env' → LeB st0 (evT c e env st) (evT c' e env' (bg st0 st))
  | .nt a, P, env, env', st, r => by
    simp only [evT]
    refine (leT C a r).bind fun x x' st e => ?_
    subst e
    exact .ok rfl
  | .and es, P, env, env', st, r => by simp only [evT]; exact leTAnd C es r
  | .or es, P, env, env', st, r => by simp only [evT]; exact leTOr C es r
  | .cmp o a b, P, env, env', st, r => by
    simp only [evT]
    refine (leE C a r).bind fun x x' st e => ?_
    subst e
    refine (leE C b r).bind fun y y' st e => ?_
    subst e
    exact LeX.ofI (cmpD_sh o x y) fun i => .ok rfl
  | .chain o p a b d, P, env, env', st, r => by
    simp only [evT]
    refine (leE C a r).bind fun x x' st e => ?_
    subst e
    refine (leE C b r).bind fun y y' st e => ?_
    subst e
    refine LeX.ofI (cmpD_sh o x y) fun i => ?_
    cases i with
    | false => exact .ok rfl
    | true =>
      simp only [if_true]
      refine (leE C d r).bind fun z z' st e => ?_
      subst e
      exact LeX.ofI (cmpD_sh p y z) fun i => .ok rfl
  | .bl b, P, env, env', st, r => by simp only [evT]; exact .ok rfl
  | .v i, P, env, env', st, r => by
    simp only [evT]
    refine LeX.ofO fun d h => ?_
    rw [r.get h]
    exact LeX.ofI (truD_sh d) fun i => .ok rfl
  | .call f es, P, env, env', st, r => by
    simp only [evT]
    refine LeX.bind (rel := fun d d' => d' = sh st0.length d) ((leAs C es r).bind fun a b st e => ?_) fun d d' st e => ?_
    · subst e
      exact C.call f a st
    subst e
    exact LeX.ofI (truD_sh d) fun i => .ok rfl
  | .bi b es, P, env, env', st, r => by
    simp only [evT]
    refine LeX.bind (rel := fun d d' => d' = sh st0.length d) ((leAs C es r).bind fun a b st e => ?_) fun d d' st e => ?_
    · subst e
      exact biD_sh _ a
    subst e
    exact LeX.ofI (truD_sh d) fun i => .ok rfl
  | .isi e ts, P, env, env', st, r => by
    simp only [evT]
    refine (leE C e r).bind fun x x' st e => ?_
    subst e
    exact LeX.ofI (isiD_sh ts x) fun i => .ok rfl
  | .ix a i, P, env, env', st, r => by
    simp only [evT]
    refine LeX.bind (rel := fun d d' => d' = sh st0.length d) ((leE C a r).bind fun x x' st e => ?_) fun d d' st e => ?_
    · subst e
      refine (leE C i r).bind fun y y' st e => ?_
      subst e
      exact ixD_sh x y
    subst e
    exact LeX.ofI (truD_sh d) fun i => .ok rfl
  | .non, P, env, env', st, r | .int _, P, env, env', st, r | .str _, P, env, env', st, r | .gl _, P, env, env', st, r | .lst _, P, env, env', st, r | .tup _, P, env, env', st, r | .own _, P, env, env', st, r | .bin _ _ _, P, env, env', st, r
  | .neg _, P, env, env', st, r | .ife _ _ _, P, env, env', st, r | .sl _ _ _, P, env, env', st, r | .slS _ _ _ _, P, env, env', st, r | .me _ _ _, P, env, env', st, r | .lc _ _ _ _ _, P, env, env', st, r | .lc2 _ _ _ _ _ _ _ _ _, P, env, env', st, r
  | .rng _, P, env, env', st, r | .enum _, P, env, env', st, r | .zip _ _, P, env, env', st, r | .walk _, P, env, env', st, r | .ezip _ _, P, env, env', st, r | .lset _, P, env, env', st, r | .lrng1 _, P, env, env', st, r | .lrng2 _ _, P, env, env', st, r | .kcall _ _ _, P, env, env', st, r | .dget _ _ _, P, env, env', st, r | .dnew, P, env, env', st, r | .dat _ _, P, env, env', st, r | .dg2 _ _ _, P, env, env', st, r => by simp only [evT]; trivial
  | .din n i a, P, env, env', st, r => by
    simp only [evT]
    refine (leE C i r).bind fun y y' st q => ?_
    subst q
    refine (leE C a r).bind fun x x' st q => ?_
    subst q
    exact LeX.ofI (dinD_sh x y) fun d => .ok rfl
theorem leTAnd (C : LeC st0 c c') : ∀ (es : List IE) {P : Nat → Option D → Prop} {env env' : Env} {st : Store}, RelE st0.length P env env' → LeB st0 (evTAnd c es env st) (evTAnd c' es env' (bg st0 st))
  | [], P, env, env', st, r => by simp only [evTAnd]; trivial
  | [e], P, env, env', st, r => by simp only [evTAnd]; exact leT C e r
  | e :: e' :: l, P, env, env', st, r => by
    simp only [evTAnd]
    refine (leT C e r).bind fun k k' st q => ?_
    subst q
    cases k with
    | true => simp only [if_true]; exact leTAnd C (e' :: l) r
    | false => exact .ok rfl
theorem leTOr (C : LeC st0 c c') : ∀ (es : List IE) {P : Nat → Option D → Prop} {env env' : Env} {st : Store}, RelE st0.length P env env' → LeB st0 (evTOr c es env st) (evTOr c' es env' (bg st0 st))
  | [], P, env, env', st, r => by simp only [evTOr]; trivial
  | [e], P, env, env', st, r => by simp only [evTOr]; exact leT C e r
  | e :: e' :: l, P, env, env', st, r => by
    simp only [evTOr]
    refine (leT C e r).bind fun k k' st q => ?_
    subst q
    cases k with
    | false => simp only [Bool.false_eq_true, if_false]; exact leTOr C (e' :: l) r
    | true => exact .ok rfl
theorem leTs (C : LeC st0 c c') : ∀ (es : List IE) {P : Nat → Option D → Prop} {env env' : Env} {st : Store}, RelE st0.length P env env' → LeB st0 (evTs c es env st) (evTs c' es env' (bg st0 st))
  | [], P, env, env', st, r => by simp only [evTs]; exact .ok rfl
  | [e], P, env, env', st, r => by simp only [evTs]; exact leT C e r
  | _ :: _ :: _, P, env, env', st, r => by simp only [evTs]; trivial
theorem leAnd (C : LeC st0 c c') : ∀ (es : List IE) {P : Nat → Option D → Prop} {env env' : Env} {st : Store}, RelE st0.length P env env' → LeD st0 (evAnd c es env st) (evAnd c' es env' (bg st0 st))
  | [], P, env, env', st, r => by simp only [evAnd]; trivial
  | [e], P, env, env', st, r => by simp only [evAnd]; exact leE C e r
  | e :: e' :: l, P, env, env', st, r => by
    simp only [evAnd]
    refine (leE C e r).bind fun d d' st q => ?_
    subst q
    refine LeX.ofI (truD_sh d) fun k => ?_
    cases k with
    | true => simp only [if_true]; exact leAnd C (e' :: l) r
    | false => exact .okD rfl
theorem leOr (C : LeC st0 c c') : ∀ (es : List IE) {P : Nat → Option D → Prop} {env env' : Env} {st : Store}, RelE st0.length P env env' → LeD st0 (evOr c es env st) (evOr c' es env' (bg st0 st))
  | [], P, env, env', st, r => by simp only [evOr]; trivial
  | [e], P, env, env', st, r => by simp only [evOr]; exact leE C e r
  | e :: e' :: l, P, env, env', st, r => by
    simp only [evOr]
    refine (leE C e r).bind fun d d' st q => ?_
    subst q
    refine LeX.ofI (truD_sh d) fun k => ?_
    cases k with
    | false => simp only [Bool.false_eq_true, if_false]; exact leOr C (e' :: l) r
    | true => exact .okD rfl
theorem leAs (C : LeC st0 c c') : ∀ (es : List IE) {P : Nat → Option D → Prop} {env env' : Env} {st : Store}, RelE st0.length P env env' → LeDs st0 (evAs c es env st) (evAs c' es env' (bg st0 st))
  | [], P, env, env', st, r => by simp only [evAs]; exact .ok (by simp)
  | e :: l, P, env, env', st, r => by
    simp only [evAs]
    refine (leE C e r).bind fun d d' st q => ?_
    subst q
    refine (leAs C l r).bind fun ds ds' st q => ?_
    subst q
    exact .ok (by simp)
theorem leI (C : LeC st0 c c') : ∀ (e : IE) {P : Nat → Option D → Prop} {env env' : Env} {st : Store}, RelE st0.length P env env' → LeX st0 (fun s s' => s' = shSrc st0.length s) (evI c e env st) (evI c' e env' (bg st0 st))
  | .rng es, P, env, env', st, r => by
    simp only [evI]
    refine (leAs C es r).bind fun ds ds' st q => ?_
    subst q
    exact LeX.ofM (rngOf_sh _ ds) fun s => .ok rfl
  | .enum e, P, env, env', st, r => by
    simp only [evI]
    refine (leE C e r).bind fun d d' st q => ?_
    subst q
    exact LeX.ofM (srcOf_sh d) fun s => .ok (by simp [shSrc, enumD_sh])
  | .zip a b, P, env, env', st, r => by
    simp only [evI]
    refine (leE C a r).bind fun d d' st q => ?_
    subst q
    refine (leE C b r).bind fun d2 d2' st q => ?_
    subst q
    exact LeX.ofM (srcOf_sh d) fun s => LeX.ofM (srcOf_sh d2) fun t => .ok (by simp [shSrc, zipD_sh])
  | .walk e, P, env, env', st, r => by
    simp only [evI]
    refine (leE C e r).bind fun d d' st q => ?_
    subst q
    exact LeX.ofM (srcOf_sh d) fun s => .ok rfl
  | .ezip a b, P, env, env', st, r => by
    simp only [evI]
    refine (leE C a r).bind fun d d' st q => ?_
    subst q
    refine (leE C b r).bind fun d2 d2' st q => ?_
    subst q
    exact LeX.ofM (srcOf_sh d) fun s => LeX.ofM (srcOf_sh d2) fun t => .ok (by simp [shSrc, zipD_sh, enumD_sh])
  | .non, P, env, env', st, r | .bl _, P, env, env', st, r | .int _, P, env, env', st, r | .str _, P, env, env', st, r | .gl _, P, env, env', st, r | .lst _, P, env, env', st, r | .tup _, P, env, env', st, r | .own _, P, env, env', st, r | .bin _ _ _, P, env, env', st, r
  | .neg _, P, env, env', st, r | .nt _, P, env, env', st, r | .and _, P, env, env', st, r | .or _, P, env, env', st, r | .cmp _ _ _, P, env, env', st, r | .chain _ _ _ _ _, P, env, env', st, r | .v _, P, env, env', st, r | .ix _ _, P, env, env', st, r | .call _ _, P, env, env', st, r | .bi _ _, P, env, env', st, r | .isi _ _, P, env, env', st, r
  | .ife _ _ _, P, env, env', st, r | .sl _ _ _, P, env, env', st, r | .slS _ _ _ _, P, env, env', st, r | .me _ _ _, P, env, env', st, r | .lc _ _ _ _ _, P, env, env', st, r | .lc2 _ _ _ _ _ _ _ _ _, P, env, env', st, r | .lset _, P, env, env', st, r | .lrng1 _, P, env, env', st, r | .lrng2 _ _, P, env, env', st, r | .kcall _ _ _, P, env, env', st, r | .dget _ _ _, P, env, env', st, r | .dnew, P, env, env', st, r | .dat _ _, P, env, env', st, r | .din _ _ _, P, env, env', st, r | .dg2 _ _ _, P, env, env', st, r => by simp only [evI]; trivial
theorem leG (C : LeC st0 c c') : ∀ (e : IE) (d : D) {P : Nat → Option D → Prop} {env env' : Env} {st : Store}, RelE st0.length P env env' → LeX st0 (RelE st0.length P) (evG c e d env st) (evG c' e (sh st0.length d) env' (bg st0 st))
  | .v i, d, P, env, env', st, r => by simp only [evG]; exact .ok (r.set i d)
  | .tup es, d, P, env, env', st, r => by
    simp only [evG]
    refine LeX.ofM (seqOf_sh d) fun ds => ?_
    rw [List.length_map]
    split
    · exact leGs C es ds r
    · trivial
  | .dat a i, d, P, env, env', st, r => by
    simp only [evG]
    refine (leE C a r).bind fun x x' st q => ?_
    subst q
    refine (leE C i r).bind fun y y' st q => ?_
    subst q
    exact LeX.ofM (dsetD_sh x y d) fun st => .ok r
  | .ix a i, d, P, env, env', st, r => by
    simp only [evG]
    refine (leE C a r).bind fun x x' st q => ?_
    subst q
    refine (leE C i r).bind fun y y' st q => ?_
    subst q
    exact LeX.ofM (setD_sh x y d) fun st => .ok r
  | .non, d, P, env, env', st, r | .bl _, d, P, env, env', st, r | .int _, d, P, env, env', st, r | .str _, d, P, env, env', st, r | .gl _, d, P, env, env', st, r | .lst _, d, P, env, env', st, r | .own _, d, P, env, env', st, r | .bin _ _ _, d, P, env, env', st, r
  | .neg _, d, P, env, env', st, r | .nt _, d, P, env, env', st, r | .and _, d, P, env, env', st, r | .or _, d, P, env, env', st, r | .cmp _ _ _, d, P, env, env', st, r | .chain _ _ _ _ _, d, P, env, env', st, r | .call _ _, d, P, env, env', st, r | .bi _ _, d, P, env, env', st, r | .isi _ _, d, P, env, env', st, r
  | .ife _ _ _, d, P, env, env', st, r | .sl _ _ _, d, P, env, env', st, r | .slS _ _ _ _, d, P, env, env', st, r | .me _ _ _, d, P, env, env', st, r | .lc _ _ _ _ _, d, P, env, env', st, r | .lc2 _ _ _ _ _ _ _ _ _, d, P, env, env', st, r | .lset _, d, P, env, env', st, r | .lrng1 _, d, P, env, env', st, r | .lrng2 _ _, d, P, env, env', st, r | .kcall _ _ _, d, P, env, env', st, r | .dget _ _ _, d, P, env, env', st, r | .dnew, d, P, env, env', st, r | .din _ _ _, d, P, env, env', st, r | .dg2 _ _ _, d, P, env, env', st, r
  | .rng _, d, P, env, env', st, r | .enum _, d, P, env, env', st, r | .zip _ _, d, P, env, env', st, r | .walk _, d, P, env, env', st, r | .ezip _ _, d, P, env, env', st, r => by simp only [evG]; trivial
theorem leGs (C : LeC st0 c c') : ∀ (es : List IE) (ds : List D) {P : Nat → Option D → Prop} {env env' : Env} {st : Store}, RelE st0.length P env env' → LeX st0 (RelE st0.length P) (evGs c es ds env st) (evGs c' es (ds.map (sh st0.length)) env' (bg st0 st))
  | [], [], P, env, env', st, r => by simp only [evGs, List.map_nil]; exact .ok r
  | [], _ :: _, P, env, env', st, r => by simp only [evGs]; trivial
  | _ :: _, [], P, env, env', st, r => by simp only [evGs]; trivial
  | e :: es, d :: ds, P, env, env', st, r => by
    simp only [evGs, List.map_cons]
    exact (leG C e d r).bind fun env1 env1' st r1 => leGs C es ds r1
end
end
end Ev

set_option Elab.async false
set_option linter.all false
set_option maxRecDepth 100000
set_option autoImplicit false
/-! Ev, part Ft: what is computed over the empty store is computed over any store: statements, defs; answers told beforehand. -/
namespace Ev
open PySem PySem.Spec PyProof.Rows L2
def LeS (st0 : Store) (P : Nat → Option D → Prop) (r r' : RSt) : Prop := match r with
  | .next env st => ∃ env', r' = .next env' (bg st0 st) ∧ RelE st0.length P env env'
  | .ret d st => r' = .ret (sh st0.length d) (bg st0 st)
  | .brk env st => ∃ env', r' = .brk env' (bg st0 st) ∧ RelE st0.length P env env'
  | .cont env st => ∃ env', r' = .cont env' (bg st0 st) ∧ RelE st0.length P env env'
  | .exc n env st => ∃ env', r' = .exc n env' (bg st0 st) ∧ RelE st0.length P env env'
  | .stuck => True
section
variable {st0 : Store} {c c' : Cfg} {P : Nat → Option D → Prop}
theorem LeX.st {α β : Type} {rel : α → β → Prop} {r : R α} {r' : R β} {env env' : Env} {k : α → Store → RSt} {k' : β → Store → RSt} (h : LeX st0 rel r r') (re : RelE st0.length P env env') (hk : ∀ a b st, rel a b → LeS st0 P (k a st) (k' b (bg st0 st))) : LeS st0 P (r.st env k) (r'.st env' k') := by
  cases r with
  | ok a st =>
    obtain ⟨b, rfl, q⟩ := h
    exact hk a b st q
  | exc n st =>
    have h : r' = .exc n (bg st0 st) := h
    rw [h]
    exact ⟨env', rfl, re⟩
  | stuck => trivial
theorem LeS.seq {r r' : RSt} {k k' : Env → Store → RSt} (h : LeS st0 P r r') (hk : ∀ env env' st, RelE st0.length P env env' → LeS st0 P (k env st) (k' env' (bg st0 st))) : LeS st0 P (r.seq k) (r'.seq k') := by
  cases r with
  | next env st =>
    obtain ⟨env', rfl, re⟩ := h
    exact hk env env' st re
  | ret d st =>
    have h : r' = .ret (sh st0.length d) (bg st0 st) := h
    rw [h]
    exact rfl
  | brk env st =>
    obtain ⟨env', rfl, re⟩ := h
    exact ⟨env', rfl, re⟩
  | cont env st =>
    obtain ⟨env', rfl, re⟩ := h
    exact ⟨env', rfl, re⟩
  | exc n env st =>
    obtain ⟨env', rfl, re⟩ := h
    exact ⟨env', rfl, re⟩
  | stuck => trivial
theorem forL_le {gs : List (Nat × List D)} {body body' : D → Env → Store → RSt} (hb : ∀ d env env' st, RelE st0.length P env env' → LeS st0 P (body d env st) (body' (sh st0.length d) env' (bg st0 st))) :
    ∀ (ds : List D) (env env' : Env) (st : Store), RelE st0.length P env env' → LeS st0 P (forL gs body ds env st) (forL (gs.map (shG st0.length)) body' (ds.map (sh st0.length)) env' (bg st0 st))
  | [], env, env', st, re => by
    simp only [forL, List.map_nil, guards_sh]
    split
    · exact ⟨env', rfl, re⟩
    · trivial
  | d :: r, env, env', st, re => by
    have h1 := hb d env env' st re
    simp only [forL, List.map_cons, guards_sh]
    split
    · cases e : body d env st with
      | next env1 st1 =>
        rw [e] at h1
        obtain ⟨env1', e', re1⟩ := h1
        rw [e']
        exact forL_le hb r env1 env1' st1 re1
      | cont env1 st1 =>
        rw [e] at h1
        obtain ⟨env1', e', re1⟩ := h1
        rw [e']
        exact forL_le hb r env1 env1' st1 re1
      | brk env1 st1 =>
        rw [e] at h1
        obtain ⟨env1', e', re1⟩ := h1
        rw [e']
        exact ⟨env1', rfl, re1⟩
      | ret d1 st1 =>
        rw [e] at h1
        have h1 : body' (sh st0.length d) env' (bg st0 st) = .ret (sh st0.length d1) (bg st0 st1) := h1
        rw [h1]
        exact rfl
      | exc n env1 st1 =>
        rw [e] at h1
        obtain ⟨env1', e', re1⟩ := h1
        rw [e']
        exact ⟨env1', rfl, re1⟩
      | stuck => trivial
    · trivial
theorem whileL_le {t t' : Env → Store → R Bool} {body body' : Env → Store → RSt} (ht : ∀ env env' st, RelE st0.length P env env' → LeB st0 (t env st) (t' env' (bg st0 st))) (hb : ∀ env env' st, RelE st0.length P env env' → LeS st0 P (body env st) (body' env' (bg st0 st))) :
    ∀ (n m : Nat) (env env' : Env) (st : Store), n ≤ m → RelE st0.length P env env' → LeS st0 P (whileL t body n env st) (whileL t' body' m env' (bg st0 st))
  | 0, m, env, env', st, hm, re => by simp only [whileL]; trivial
  | n + 1, 0, env, env', st, hm, re => absurd hm (by omega)
  | n + 1, m + 1, env, env', st, hm, re => by
    have h0 := ht env env' st re
    simp only [whileL]
    cases e0 : t env st with
    | ok b st1 =>
      rw [e0] at h0
      obtain ⟨b', e0', rfl⟩ := h0
      rw [e0']
      cases b with
      | true =>
        have h1 := hb env env' st1 re
        simp only
        cases e : body env st1 with
        | next env1 st2 =>
          rw [e] at h1
          obtain ⟨env1', e', re1⟩ := h1
          rw [e']
          exact whileL_le ht hb n m env1 env1' st2 (by omega) re1
        | cont env1 st2 =>
          rw [e] at h1
          obtain ⟨env1', e', re1⟩ := h1
          rw [e']
          exact whileL_le ht hb n m env1 env1' st2 (by omega) re1
        | brk env1 st2 =>
          rw [e] at h1
          obtain ⟨env1', e', re1⟩ := h1
          rw [e']
          exact ⟨env1', rfl, re1⟩
        | ret d1 st2 =>
          rw [e] at h1
          have h1 : body' env' (bg st0 st1) = .ret (sh st0.length d1) (bg st0 st2) := h1
          rw [h1]
          exact rfl
        | exc x env1 st2 =>
          rw [e] at h1
          obtain ⟨env1', e', re1⟩ := h1
          rw [e']
          exact ⟨env1', rfl, re1⟩
        | stuck => trivial
      | false => exact ⟨env', rfl, re⟩
    | exc x st1 =>
      rw [e0] at h0
      have h0 : t' env' (bg st0 st) = .exc x (bg st0 st1) := h0
      rw [h0]
      exact ⟨env', rfl, re⟩
    | stuck => trivial
theorem handle_le {val val' : IE → Store → R D} (hv : ∀ e st, LeD st0 (val e st) (val' e (bg st0 st))) (cn : Nat) {env env' : Env} (re : RelE st0.length P env env') (st : Store) :
    ∀ hs : List (Nat × Nat × IE), LeS st0 P (handle hs cn env st val) (handle hs cn env' (bg st0 st) val')
  | [] => ⟨env', rfl, re⟩
  | (x, i, e) :: r => by
    simp only [handle]
    split
    · refine (hv e st).st re fun d d' st q => ?_
      subst q
      exact ⟨_, rfl, re.set i d⟩
    · exact handle_le hv cn re st r
theorem fold_le : ∀ (is : List Nat) (ds : List D) (env env' : Env), RelE st0.length P env env' → RelE st0.length P ((is.zip ds).foldl (fun env p => env.set p.1 (some p.2)) env) ((is.zip (ds.map (sh st0.length))).foldl (fun env p => env.set p.1 (some p.2)) env')
  | [], ds, env, env', re => re
  | i :: is, [], env, env', re => re
  | i :: is, d :: ds, env, env', re => fold_le is ds _ _ (re.set i d)
mutual
theorem leS (C : LeC st0 c c') : ∀ (s : IS) {env env' : Env} {st : Store}, RelE st0.length P env env' → LeS st0 P (evS c s env st) (evS c' s env' (bg st0 st))
  | .asg t e, env, env', st, re => by
    simp only [evS]
    refine (leE C e re).st re fun d d' st q => ?_
    subst q
    refine (leG C t d re).st re fun env1 env1' st re1 => ?_
    exact ⟨_, rfl, re1⟩
  | .setLc i e, env, env', st, re => by
    simp only [evS]
    refine (leE C e re).st re fun d d' st q => ?_
    subst q
    exact ⟨_, rfl, re.set i d⟩
  | .par is es, env, env', st, re => by
    simp only [evS]
    refine (leAs C es re).st re fun ds ds' st q => ?_
    subst q
    rw [List.length_map]
    split
    · exact ⟨_, rfl, fold_le is ds _ _ re⟩
    · trivial
  | .aug i o e, env, env', st, re => by
    simp only [evS]
    refine LeX.st (rel := fun d d' => d' = sh st0.length d) (LeX.ofO fun d h => ?_) re fun x x' st q => ?_
    · rw [re.get h]
      exact .okD rfl
    subst q
    refine (leE C e re).st re fun y y' st q => ?_
    subst q
    refine (augD_sh o x y).st re fun d d' st q => ?_
    subst q
    exact ⟨_, rfl, re.set i d⟩
  | .augS a i o e, env, env', st, re => by
    simp only [evS]
    refine (leE C a re).st re fun x x' st q => ?_
    subst q
    refine (leE C i re).st re fun y y' st q => ?_
    subst q
    refine (getL_sh x y).st re fun z z' st q => ?_
    subst q
    refine (leE C e re).st re fun w w' st q => ?_
    subst q
    refine (augD_sh o z w).st re fun n n' st q => ?_
    subst q
    refine LeX.st (rel := fun _ _ => True) (LeX.ofM (setD_sh x y n) fun st => .ok trivial) re fun _ _ st _ => ?_
    exact ⟨_, rfl, re⟩
  | .ex e, env, env', st, re => by
    simp only [evS]
    refine (leE C e re).st re fun d d' st q => ?_
    exact ⟨_, rfl, re⟩
  | .ret e, env, env', st, re => by
    simp only [evS]
    refine (leE C e re).st re fun d d' st q => ?_
    subst q
    exact rfl
  | .retN, env, env', st, re => by
    simp only [evS]
    show _ = _
    simp
  | .ife t a b, env, env', st, re => by
    simp only [evS]
    refine (leT C t re).st re fun k k' st q => ?_
    subst q
    cases k with
    | true => simp only [if_true]; exact leSs C a re
    | false => simp only [Bool.false_eq_true, if_false]; exact leSs C b re
  | .while t b, env, env', st, re => by
    simp only [evS]
    exact whileL_le (fun env env' st re => leT C t re) (fun env env' st re => leSs C b re) _ _ env env' st C.fuel re
  | .for t it b, env, env', st, re => by
    simp only [evS]
    refine (leI C it re).st re fun s s' st q => ?_
    subst q
    refine forL_le (fun d env env' st re => ?_) s.ds env env' st re
    refine (leG C t d re).st re fun env1 env1' st re1 => ?_
    exact leSs C b re1
  | .raise x, env, env', st, re => by
    simp only [evS]
    exact ⟨_, rfl, re⟩
  | .tr b hs, env, env', st, re => by
    have h := leSs C b re (st := st)
    simp only [evS]
    cases e : evSs c b env st with
    | exc x env1 st1 =>
      rw [e] at h
      obtain ⟨env1', e', re1⟩ := h
      rw [e', C.nx]
      simp only
      split
      · exact handle_le (fun e st => leE C e re1) x re1 st1 hs
      · trivial
    | next env1 st1 =>
      rw [e] at h
      obtain ⟨env1', e', re1⟩ := h
      rw [e']
      exact ⟨_, rfl, re1⟩
    | brk env1 st1 =>
      rw [e] at h
      obtain ⟨env1', e', re1⟩ := h
      rw [e']
      exact ⟨_, rfl, re1⟩
    | cont env1 st1 =>
      rw [e] at h
      obtain ⟨env1', e', re1⟩ := h
      rw [e']
      exact ⟨_, rfl, re1⟩
    | ret d st1 =>
      rw [e] at h
      have h : evSs c' b env' (bg st0 st) = .ret (sh st0.length d) (bg st0 st1) := h
      rw [h]
      exact rfl
    | stuck => trivial
  | .brk, env, env', st, re => by simp only [evS]; exact ⟨_, rfl, re⟩
  | .cont, env, env', st, re => by simp only [evS]; exact ⟨_, rfl, re⟩
  | .pass, env, env', st, re => by simp only [evS]; exact ⟨_, rfl, re⟩
theorem leSs (C : LeC st0 c c') : ∀ (ss : List IS) {env env' : Env} {st : Store}, RelE st0.length P env env' → LeS st0 P (evSs c ss env st) (evSs c' ss env' (bg st0 st))
  | [], env, env', st, re => by simp only [evSs]; exact ⟨_, rfl, re⟩
  | s :: r, env, env', st, re => by
    simp only [evSs]
    exact (leS C s re).seq fun env1 env1' st re1 => leSs C r re1
end
/-! ### defs -/
theorem kvB_shm {κ : Type} [DecidableEq κ] (N : Nat) : ∀ a b : List (κ × D), kvB (a.map fun p => (p.1, sh N p.2)) (b.map fun p => (p.1, sh N p.2)) = kvB a b
  | [], [] => rfl
  | [], _ :: _ => rfl
  | _ :: _, [] => rfl
  | a :: as, b :: bs => by
    have ih := kvB_shm N as bs
    simp only [List.map_cons, kvB, beq_sh, ih]
theorem beqO_sh (N : Nat) (a b : O) : O.beq (shO N a) (shO N b) = O.beq a b := by
  cases a <;> cases b <;> simp [shO, O.beq, beqs_shm, kvB_shm]
theorem stSame_sh (h : LstS st0) : ∀ (a b : Store), stSame (bg st0 a) (bg st0 b) = stSame a b := by
  intro a b
  unfold bg
  generalize st0.length = N
  have tail : ∀ (a b : Store), stSame (a.map (shO N)) (b.map (shO N)) = stSame a b := by
    intro a
    induction a with
    | nil => intro b; cases b <;> rfl
    | cons x r ih =>
      intro b
      cases b with
      | nil => rfl
      | cons y s => simp only [List.map_cons, stSame, beqO_sh, ih]
  induction st0 with
  | nil => exact tail a b
  | cons o r ih =>
    simp only [List.cons_append, stSame, O.beq_refl, Bool.true_and]
    exact ih (.any _)
theorem frzL_sh (f f' : D → Option D) (N : Nat) (hf : ∀ d, f' (sh N d) = (f d).map (sh N)) : ∀ l : List D, frzL f' (l.map (sh N)) = (frzL f l).map (List.map (sh N))
  | [] => rfl
  | d :: r => by
    have ih := frzL_sh f f' N hf r
    simp only [List.map_cons, frzL, hf, ih]
    cases f d with
    | none => rfl
    | some x => cases frzL f r <;> rfl
theorem frz_sh (n : Nat) (st : Store) : ∀ (k : Nat) (d : D), frz (st0.length + n) (bg st0 st) k (sh st0.length d) = (frz n st k d).map (sh st0.length) := by
  intro k
  induction k with
  | zero => intro d; cases d <;> simp [frz]
  | succ k ih =>
    intro d
    cases d with
    | non => simp [frz]
    | bl _ => simp [frz]
    | int _ => simp [frz]
    | str _ => simp [frz]
    | tup l =>
      simp only [sh_tup, frz, frzL_sh _ _ _ ih]
      cases frzL (frz n st k) l <;> simp
    | lst l =>
      simp only [sh_lst, frz, frzL_sh _ _ _ ih]
      cases frzL (frz n st k) l <;> simp
    | fl l =>
      simp only [sh_fl, frz, frzL_sh _ _ _ ih]
      cases frzL (frz n st k) l <;> simp
    | ref i =>
      simp only [sh_ref, frz, bg_get]
      by_cases q : i < n
      · rw [if_pos q, if_pos (by omega)]
        simp
      · rw [if_neg q, if_neg (by omega)]
        cases st[i]? with
        | none => rfl
        | some o =>
          cases o with
          | lst l =>
            simp only [Option.map_some, shO, frzL_sh _ _ _ ih]
            cases frzL (frz n st k) l <;> simp
          | dk l => rfl
          | dt l => rfl
theorem finD_sh (h : LstS st0) (keep : Bool) (s : Store) (d : D) (st : Store) : LeD st0 (finD keep s d st) (finD keep (bg st0 s) (sh st0.length d) (bg st0 st)) := by
  unfold finD
  rw [stSame_sh h, bg_len, frz_sh]
  split
  · exact .okD rfl
  · split
    · cases frz s.length st 9 d with
      | none => exact .okD rfl
      | some d' => exact .okD rfl
    · exact .okD rfl
theorem finX_sh (h : LstS st0) (s : Store) (n : Nat) (st : Store) : LeD st0 (finX s n st) (finX (bg st0 s) n (bg st0 st)) := by
  unfold finX
  rw [stSame_sh h]
  split <;> exact rfl
theorem start_le (N : List Str) (ds : List D) : RelE st0.length (fun _ y => y = none) (startE N ds) (startE N (ds.map (sh st0.length))) := by
  refine ⟨by simp [startE], fun i x e => ?_⟩
  unfold startE at e ⊢
  by_cases q : i < ds.length
  · rw [List.getElem?_append_left (by simpa using q)] at e ⊢
    simp only [List.getElem?_map] at e ⊢
    cases e1 : ds[i]? with
    | none => rw [e1] at e; cases e
    | some d =>
      rw [e1] at e
      cases e
      exact ⟨_, rfl, rfl⟩
  · rw [List.getElem?_append_right (by simpa using Nat.le_of_not_lt q)] at e ⊢
    simp only [List.length_map] at e ⊢
    have := (List.getElem?_eq_some_iff.mp e).1
    simp only [List.length_replicate] at this
    rw [List.getElem?_replicate, if_pos this] at e ⊢
    cases e
    exact ⟨_, rfl, rfl⟩
theorem runF_le (h : LstS st0) (C : LeC st0 c c') (f : FI) (ds : List D) (st : Store) : LeD st0 (runF c f ds st) (runF c' f (ds.map (sh st0.length)) (bg st0 st)) := by
  have r := leSs C f.ir (start_le (st0 := st0) f.N ds) (st := st)
  unfold runF
  cases e : evSs c f.ir (startE f.N ds) st with
  | next env1 st1 =>
    rw [e] at r
    obtain ⟨env1', e', re1⟩ := r
    rw [e']
    have := finD_sh h f.keep st .non st1
    rw [sh_non] at this
    exact this
  | ret d st1 =>
    rw [e] at r
    have r : evSs c' f.ir (startE f.N (ds.map (sh st0.length))) (bg st0 st) = .ret (sh st0.length d) (bg st0 st1) := r
    rw [r]
    exact finD_sh h f.keep st d st1
  | exc n env1 st1 =>
    rw [e] at r
    obtain ⟨env1', e', re1⟩ := r
    rw [e']
    exact finX_sh h st n st1
  | brk env1 st1 => trivial
  | cont env1 st1 => trivial
  | stuck => trivial
/-- any store -/
def lstB : Store → Bool := fun _ => true
theorem lstB_ok {st : Store} (_ : lstB st = true) : LstS st := .any _
/-- as callL, but some answers are told -/
def callO (F : List FI) (glob : List D) (fuel nx : Nat) (or : Nat → List D → Option D) : Nat → Nat → List D → Store → R D
  | 0, _, _, _ => .stuck
  | j + 1, f, ds, st => match or f ds with
    | some d => if lstB st = true then .ok d st else .stuck
    | none => match F[f]? with
      | some d => runF ⟨callO F glob fuel nx or j, glob, fuel, nx⟩ d ds st
      | none => .stuck
/-- what is told is so, from level J on -/
def OrOk (F : List FI) (glob : List D) (fuel nx : Nat) (or : Nat → List D → Option D) (J : Nat) : Prop :=
  ∀ f ds d, or f ds = some d → pureB 60 d = true ∧ pureBs 60 ds = true ∧ ∀ (j : Nat) (st : Store), LstS st → callL F glob fuel nx (j + J) f ds st = .ok d st
def noO : Nat → List D → Option D := fun _ _ => none
theorem bg_lst (h : LstS st0) {st : Store} (hs : LstS st) : LstS (bg st0 st) := by
  exact .any _
end
section
variable {F : List FI} {glob : List D} {fuel nx J : Nat} {or : Nat → List D → Option D} {st0 : Store}
theorem OrOk.none : OrOk F glob fuel nx noO J := fun _ _ _ h => by cases h
theorem OrOk.up (h : OrOk F glob fuel nx or J) (k : Nat) : OrOk F glob fuel nx or (J + k) := fun f ds d e => by
  obtain ⟨a, b, q⟩ := h f ds d e
  refine ⟨a, b, fun j st hs => ?_⟩
  rw [show j + (J + k) = (j + k) + J by omega]
  exact q _ st hs
theorem callO_le (h : LstS st0) (ho : OrOk F glob fuel nx or J) (hg : pureBs 60 glob = true) : ∀ (j f : Nat) (ds : List D) (st : Store), LeD st0 (callO F glob fuel nx or j f ds st) (callL F glob fuel nx (j + J) f (ds.map (sh st0.length)) (bg st0 st))
  | 0, f, ds, st => trivial
  | j + 1, f, ds, st => by
    unfold callO
    cases e : or f ds with
    | some d =>
      obtain ⟨a, b, q⟩ := ho f ds d e
      simp only
      split
      · rename_i hl
        rw [← shs_map, shs_pure _ 60 ds b, q (j + 1) _ (bg_lst h (lstB_ok hl))]
        exact .okD (sh_pure _ 60 d a).symm
      · trivial
    | none =>
      simp only
      rw [show j + 1 + J = (j + J) + 1 by omega]
      unfold callL
      cases F[f]? with
      | none => trivial
      | some d =>
        refine runF_le (c := ⟨callO F glob fuel nx or j, glob, fuel, nx⟩) (c' := ⟨callL F glob fuel nx (j + J), glob, fuel, nx⟩) h ⟨fun f ds st => callO_le h ho hg j f ds st, fun i x hx => ?_, Nat.le_refl _, rfl⟩ d ds st
        have hx : glob[i]? = some x := hx
        have hp : ∀ (l : List D) (i : Nat) (x : D), pureBs 60 l = true → l[i]? = some x → pureB 60 x = true := by
          intro l
          induction l with
          | nil => intro i x _ e; simp at e
          | cons y r ih =>
            intro i x hp e
            simp only [pureBs, Bool.and_eq_true] at hp
            cases i with
            | zero => simp at e; subst e; exact hp.1
            | succ i => exact ih i x hp.2 (by simpa using e)
        show glob[i]? = some (sh st0.length x)
        rw [sh_pure _ 60 x (hp glob i x hg hx)]
        exact hx
theorem lec (h : LstS st0) (ho : OrOk F glob fuel nx or J) (hg : pureBs 60 glob = true) (j : Nat) : LeC st0 ⟨callO F glob fuel nx or j, glob, fuel, nx⟩ ⟨callL F glob fuel nx (j + J), glob, fuel, nx⟩ := by
  refine ⟨fun f ds st => callO_le h ho hg j f ds st, fun i x hx => ?_, Nat.le_refl _, rfl⟩
  have hx : glob[i]? = some x := hx
  have hp : ∀ (l : List D) (i : Nat) (x : D), pureBs 60 l = true → l[i]? = some x → pureB 60 x = true := by
    intro l
    induction l with
    | nil => intro i x _ e; simp at e
    | cons y r ih =>
      intro i x hp e
      simp only [pureBs, Bool.and_eq_true] at hp
      cases i with
      | zero => simp at e; subst e; exact hp.1
      | succ i => exact ih i x hp.2 (by simpa using e)
  show glob[i]? = some (sh st0.length x)
  rw [sh_pure _ 60 x (hp glob i x hg hx)]
  exact hx
/-- f(ds) is d, over the empty store -/
def okO (F : List FI) (glob : List D) (fuel nx : Nat) (or : Nat → List D → Option D) (j f : Nat) (ds : List D) (d : D) : Bool := match callO F glob fuel nx or j f ds [] with
  | .ok d' [] => D.beq d' d && (pureB 60 d && pureBs 60 ds)
  | _ => false
def exO (F : List FI) (glob : List D) (fuel nx : Nat) (or : Nat → List D → Option D) (j f : Nat) (ds : List D) (n : Nat) : Bool := match callO F glob fuel nx or j f ds [] with
  | .exc n' [] => n' == n && pureBs 60 ds
  | _ => false
theorem okO_pure {j f : Nat} {ds : List D} {d : D} (e : okO F glob fuel nx or j f ds d = true) : pureB 60 d = true ∧ pureBs 60 ds = true := by
  unfold okO at e
  split at e
  · simp only [Bool.and_eq_true] at e
    exact e.2
  · cases e
theorem call_fr (h : LstS st0) (ho : OrOk F glob fuel nx or J) (hg : pureBs 60 glob = true) {j f : Nat} {ds : List D} {d : D} (e : okO F glob fuel nx or j f ds d = true) (k : Nat) : callL F glob fuel nx (k + (j + J)) f ds st0 = .ok d st0 := by
  obtain ⟨hd, hds⟩ := okO_pure e
  unfold okO at e
  split at e
  · rename_i d' e'
    simp only [Bool.and_eq_true] at e
    obtain rfl := D.beq_eq _ _ e.1
    have q := callO_le h (ho.up k) hg j f ds []
    rw [e', ← shs_map, shs_pure _ 60 ds hds, bg_nil, show j + (J + k) = k + (j + J) by omega] at q
    obtain ⟨b, q, rfl⟩ := q
    rw [q, sh_pure _ 60 _ hd, bg_nil]
  · cases e
theorem callx_fr (h : LstS st0) (ho : OrOk F glob fuel nx or J) (hg : pureBs 60 glob = true) {j f : Nat} {ds : List D} {n : Nat} (e : exO F glob fuel nx or j f ds n = true) (k : Nat) : callL F glob fuel nx (k + (j + J)) f ds st0 = .exc n st0 := by
  unfold exO at e
  split at e
  · rename_i n' e'
    simp only [Bool.and_eq_true, beq_iff_eq] at e
    obtain ⟨rfl, hds⟩ := e
    have q := callO_le h (ho.up k) hg j f ds []
    rw [e', ← shs_map, shs_pure _ 60 ds hds, bg_nil, show j + (J + k) = k + (j + J) by omega] at q
    have q : callL F glob fuel nx (k + (j + J)) f ds st0 = .exc n' (bg st0 []) := q
    rwa [bg_nil] at q
  · cases e
/-- more is told: p first -/
def orAdd (p or : Nat → List D → Option D) : Nat → List D → Option D := fun f ds => match p f ds with
  | some d => some d
  | none => or f ds
theorem OrOk.add {p : Nat → List D → Option D} {j : Nat} (ho : OrOk F glob fuel nx or J) (hg : pureBs 60 glob = true) (hp : ∀ f ds d, p f ds = some d → okO F glob fuel nx or j f ds d = true) : OrOk F glob fuel nx (orAdd p or) (j + J) := fun f ds d e => by
  unfold orAdd at e
  split at e
  · rename_i d' e'
    cases e
    have q := hp f ds d e'
    exact ⟨(okO_pure q).1, (okO_pure q).2, fun k st hs => call_fr hs ho hg q k⟩
  · have := ho.up j f ds d e
    rw [Nat.add_comm J j] at this
    exact this
theorem OrOk.both {p : Nat → List D → Option D} (hp : OrOk F glob fuel nx p J) (ho : OrOk F glob fuel nx or J) : OrOk F glob fuel nx (orAdd p or) J := fun f ds d e => by
  unfold orAdd at e
  split at e
  · rename_i d' e'
    cases e
    exact hp f ds _ e'
  · exact ho f ds d e
/-- one def of one, two whole numbers, told between bounds -/
def or1 (f0 n : Nat) (g : Nat → D) : Nat → List D → Option D := fun f ds => if f = f0 then (match ds with
  | [.int i] => if 0 ≤ i ∧ i.toNat < n then some (g i.toNat) else none
  | _ => none) else none
theorem or1_ok {f0 n j : Nat} {g : Nat → D} (h : (List.range n).all (fun i => okO F glob fuel nx or j f0 [.int (i : Int)] (g i)) = true) : ∀ f ds d, or1 f0 n g f ds = some d → okO F glob fuel nx or j f ds d = true := fun f ds d e => by
  unfold or1 at e
  split at e
  · rename_i hf
    subst hf
    split at e
    · split at e
      · rename_i i hi
        cases e
        have := List.all_eq_true.mp h i.toNat (List.mem_range.mpr hi.2)
        rwa [Int.toNat_of_nonneg hi.1] at this
      · cases e
    · cases e
  · cases e
def or2 (f0 n m : Nat) (g : Nat → Nat → D) : Nat → List D → Option D := fun f ds => if f = f0 then (match ds with
  | [.int i, .int k] => if 0 ≤ i ∧ i.toNat < n ∧ 0 ≤ k ∧ k.toNat < m then some (g i.toNat k.toNat) else none
  | _ => none) else none
theorem or2_ok {f0 n m j : Nat} {g : Nat → Nat → D} (h : (List.range n).all (fun i => (List.range m).all fun k => okO F glob fuel nx or j f0 [.int (i : Int), .int (k : Int)] (g i k)) = true) : ∀ f ds d, or2 f0 n m g f ds = some d → okO F glob fuel nx or j f ds d = true := fun f ds d e => by
  unfold or2 at e
  split at e
  · rename_i hf
    subst hf
    split at e
    · split at e
      · rename_i i k hi
        cases e
        have := List.all_eq_true.mp (List.all_eq_true.mp h i.toNat (List.mem_range.mpr hi.2.1)) k.toNat (List.mem_range.mpr hi.2.2.2)
        rwa [Int.toNat_of_nonneg hi.1, Int.toNat_of_nonneg hi.2.2.1] at this
      · cases e
    · cases e
  · cases e
/-! ### statements -/
/-- what the small run leaves open the base tells -/
def mgE : Env → Env → Env
  | [], _ => []
  | some d :: r, b => some d :: mgE r b.tail
  | none :: r, b => (match b with
    | y :: _ => y
    | [] => none) :: mgE r b.tail
def pureE : Env → Bool
  | [] => true
  | some d :: r => pureB 60 d && pureE r
  | none :: r => pureE r
abbrev isB (base : Env) : Nat → Option D → Prop := fun i y => y = (base[i]?).join
theorem mgE_rel (N : Nat) : ∀ (env base : Env), pureE env = true → RelE N (isB base) env (mgE env base)
  | [], base, _ => ⟨rfl, fun i x e => by simp at e⟩
  | x :: r, base, h => by
    have hr : pureE r = true := by
      cases x with
      | none => exact h
      | some d => simp only [pureE, Bool.and_eq_true] at h; exact h.2
    have ih := mgE_rel N r base.tail hr
    have l : (mgE (x :: r) base).length = (x :: r).length := by
      cases x <;> simp [mgE, ih.len]
    refine ⟨l, fun i y e => ?_⟩
    cases i with
    | zero =>
      simp only [List.getElem?_cons_zero, Option.some.injEq] at e
      subst e
      cases x with
      | none =>
        refine ⟨_, rfl, ?_⟩
        cases base <;> rfl
      | some d =>
        simp only [pureE, Bool.and_eq_true] at h
        refine ⟨_, rfl, ?_⟩
        show some d = some (sh N d)
        rw [sh_pure _ 60 d h.1]
    | succ i =>
      obtain ⟨z, e2, q⟩ := ih.at_ i y (by simpa using e)
      refine ⟨z, by cases x <;> simpa [mgE] using e2, ?_⟩
      cases y with
      | some d => exact q
      | none =>
        have q : z = ((base.tail)[i]?).join := q
        show z = (base[i + 1]?).join
        rw [q]
        cases base <;> rfl
theorem mgE_len : ∀ (env base : Env), (mgE env base).length = env.length
  | [], _ => rfl
  | some d :: r, b => by simp [mgE, mgE_len r]
  | none :: r, b => by simp [mgE, mgE_len r]
theorem rel_mgE {N : Nat} {env env' base : Env} (h : RelE N (isB base) env env') (hp : pureE env = true) : env' = mgE env base := by
  have q := mgE_rel N env base hp
  refine List.ext_getElem? fun i => ?_
  by_cases hi : i < env.length
  · obtain ⟨y, e, w⟩ := h.at_ i _ (List.getElem?_eq_getElem hi)
    obtain ⟨z, e2, w2⟩ := q.at_ i _ (List.getElem?_eq_getElem hi)
    rw [e, e2]
    generalize env[i] = x at w w2
    cases x with
    | none =>
      have w : y = (base[i]?).join := w
      have w2 : z = (base[i]?).join := w2
      rw [w, w2]
    | some d =>
      have w : y = some (sh N d) := w
      have w2 : z = some (sh N d) := w2
      rw [w, w2]
  · rw [List.getElem?_eq_none (by rw [h.len]; omega), List.getElem?_eq_none (by rw [q.len]; omega)]
def envB : Env → Env → Bool
  | [], [] => true
  | none :: r, none :: s => envB r s
  | some a :: r, some b :: s => D.beq a b && envB r s
  | _, _ => false
theorem envB_eq : ∀ {a b : Env}, envB a b = true → a = b
  | [], [], _ => rfl
  | none :: r, none :: s, h => by rw [envB_eq (a := r) (b := s) h]
  | some a :: r, some b :: s, h => by
    simp only [envB, Bool.and_eq_true] at h
    rw [D.beq_eq a b h.1, envB_eq h.2]
  | [], _ :: _, h => by simp [envB] at h
  | none :: _, [], h => by simp [envB] at h
  | some _ :: _, [], h => by simp [envB] at h
  | none :: _, some _ :: _, h => by simp [envB] at h
  | some _ :: _, none :: _, h => by simp [envB] at h
def nextO (F : List FI) (glob : List D) (fuel nx : Nat) (or : Nat → List D → Option D) (j : Nat) (ss : List IS) (env env1 : Env) : Bool := match evSs ⟨callO F glob fuel nx or j, glob, fuel, nx⟩ ss env [] with
  | .next e [] => envB e env1 && (pureE env && pureE env1)
  | _ => false
def retO (F : List FI) (glob : List D) (fuel nx : Nat) (or : Nat → List D → Option D) (j : Nat) (ss : List IS) (env : Env) (d : D) : Bool := match evSs ⟨callO F glob fuel nx or j, glob, fuel, nx⟩ ss env [] with
  | .ret d' [] => D.beq d' d && (pureE env && pureB 60 d)
  | _ => false
theorem next_fr (h : LstS st0) (ho : OrOk F glob fuel nx or J) (hg : pureBs 60 glob = true) {j : Nat} {ss : List IS} {env env1 : Env} (e : nextO F glob fuel nx or j ss env env1 = true) (k : Nat) (base : Env) :
    evSs ⟨callL F glob fuel nx (k + (j + J)), glob, fuel, nx⟩ ss (mgE env base) st0 = .next (mgE env1 base) st0 := by
  unfold nextO at e
  split at e
  · rename_i e1 he
    simp only [Bool.and_eq_true] at e
    obtain rfl := envB_eq e.1
    have q := leSs (lec h (ho.up k) hg j) ss (mgE_rel st0.length env base e.2.1) (st := [])
    rw [he, bg_nil, show j + (J + k) = k + (j + J) by omega] at q
    obtain ⟨env', q, re⟩ := q
    rw [q, rel_mgE re e.2.2, bg_nil]
  · cases e
theorem ret_fr (h : LstS st0) (ho : OrOk F glob fuel nx or J) (hg : pureBs 60 glob = true) {j : Nat} {ss : List IS} {env : Env} {d : D} (e : retO F glob fuel nx or j ss env d = true) (k : Nat) (base : Env) :
    evSs ⟨callL F glob fuel nx (k + (j + J)), glob, fuel, nx⟩ ss (mgE env base) st0 = .ret d st0 := by
  unfold retO at e
  split at e
  · rename_i d' he
    simp only [Bool.and_eq_true] at e
    obtain rfl := D.beq_eq _ _ e.1
    have q := leSs (lec h (ho.up k) hg j) ss (mgE_rel st0.length env base e.2.1) (st := [])
    rw [he, bg_nil, show j + (J + k) = k + (j + J) by omega] at q
    have q : evSs ⟨callL F glob fuel nx (k + (j + J)), glob, fuel, nx⟩ ss (mgE env base) st0 = .ret (sh st0.length d') (bg st0 []) := q
    rw [q, sh_pure _ 60 _ e.2.2, bg_nil]
  · cases e
/-- nothing at these places -/
def keepB (ks : List Nat) (e : Env) : Bool := ks.all fun k => match e[k]? with
  | some none => true
  | _ => false
/-- goes on, the places ks untouched -/
def nextE (F : List FI) (glob : List D) (fuel nx : Nat) (or : Nat → List D → Option D) (j : Nat) (ks : List Nat) (ss : List IS) (env : Env) : Bool := match evSs ⟨callO F glob fuel nx or j, glob, fuel, nx⟩ ss env [] with
  | .next e [] => decide (e.length = env.length) && (pureE env && (pureE e && keepB ks e))
  | _ => false
theorem nextE_fr (h : LstS st0) (ho : OrOk F glob fuel nx or J) (hg : pureBs 60 glob = true) {j : Nat} {ks : List Nat} {ss : List IS} {env : Env} (e : nextE F glob fuel nx or j ks ss env = true) (k : Nat) (base : Env) :
    ∃ env', evSs ⟨callL F glob fuel nx (k + (j + J)), glob, fuel, nx⟩ ss (mgE env base) st0 = .next env' st0 ∧ env'.length = env.length ∧ ∀ i ∈ ks, env'[i]? = some (base[i]?).join := by
  unfold nextE at e
  split at e
  · rename_i e1 he
    simp only [Bool.and_eq_true, decide_eq_true_eq] at e
    obtain ⟨h1, h2, h3, h4⟩ := e
    have q := leSs (lec h (ho.up k) hg j) ss (mgE_rel st0.length env base h2) (st := [])
    rw [he, bg_nil, show j + (J + k) = k + (j + J) by omega] at q
    obtain ⟨env', q, re⟩ := q
    rw [bg_nil] at q
    refine ⟨env', q, by rw [re.len, h1], fun i hi => ?_⟩
    have := List.all_eq_true.mp h4 i hi
    split at this
    · rename_i e2
      obtain ⟨y, e3, w⟩ := re.at_ i none e2
      have w : y = (base[i]?).join := w
      rw [e3, w]
    · cases this
  · cases e
end
end Ev

set_option Elab.async false
set_option linter.all false
set_option maxRecDepth 100000
namespace Law
open PySem PySem.Spec PyProof.Rows L2 Ev
abbrev lw : PySem.W.OpenLaw := PySem.Challenge.rw_thetarows_k33_main_edges_of_levels
abbrev Rw : PySem.W.OpenRow := PySem.W.OpenLaw.row lw
def top (i : Nat) : Stmt := Rw.prog.main.body.getD i (.Pass ⟨0, 0, 0, 0⟩)
/-- _law_box -/
def f0 : FI := ⟨["script", "k", "bit_so"], 2, [
    .asg (.v 2) (.ife (.cmp .lt (.v 1) (.bi .len [(.v 0)])) (.ix (.v 0) (.v 1)) (.int 0)),
    .ret (.own (.lst [(.bin .mul (.bi .abs [(.v 2)]) (.bi .int [(.cmp .ge (.bi .abs [(.v 2)]) (.bin .pow (.int 10) (.int 18)))])), (.bin .add (.bin .add (.bin .mod (.bi .int [(.v 2)]) (.int 2305843009213693951)) (.bin .mul (.int 39373) (.v 1))) (.int 22175033)), (.int 0)]))], true⟩
def l0 : LD := ⟨⟨("_law_box", none), "_law_box", "_law_box", defArgs (top 35), defBody (top 35), defScope (top 35), [], []⟩, f0, ["script", "k"], []⟩
theorem b0 : BindOk l0 := fun _ _ _ _ _ _ us hl => match us, hl with | [_, _], _ => rfl
/-- _law_same -/
def f1 : FI := ⟨["got", "due", "mine", "its"], 2, [
    .ife (.isi (.v 1) [.list, .tuple]) [.ife (.or [(.cmp .ne (.isi (.v 0) [.list]) (.isi (.v 1) [.list])), (.cmp .ne (.isi (.v 0) [.tuple]) (.isi (.v 1) [.tuple]))]) [.ret (.bl false)] [], .ret (.and [(.cmp .eq (.bi .len [(.v 0)]) (.bi .len [(.v 1)])), (.bi .all [(.lc (.call 1 [(.v 2), (.v 3)]) [2, 3] (.tup [(.v 2), (.v 3)]) (.zip (.v 0) (.v 1)) [])])])] [],
    .ife (.cmp .is (.v 1) .non) [.ret (.cmp .is (.v 0) .non)] [],
    .ife (.isi (.v 1) [.bool, .str]) [.ret (.and [(.cmp .eq (.isi (.v 0) [.bool]) (.isi (.v 1) [.bool])), (.cmp .eq (.isi (.v 0) [.str]) (.isi (.v 1) [.str])), (.cmp .eq (.v 0) (.v 1))])] [],
    .ret (.and [(.isi (.v 0) [.int]), (.nt (.isi (.v 0) [.bool])), (.cmp .eq (.v 0) (.v 1))])], false⟩
def l1 : LD := ⟨⟨("_law_same", none), "_law_same", "_law_same", defArgs (top 39), defBody (top 39), defScope (top 39), [], []⟩, f1, ["got", "due"], []⟩
theorem b1 : BindOk l1 := fun _ _ _ _ _ _ us hl => match us, hl with | [_, _], _ => rfl
/-- _law_cells -/
def f2 : FI := ⟨["script", "most_so", "cells_so", "k", "bit_so", "at_so"], 2, [
    .asg (.v 2) (.or [(.own (.bi .list [(.sl (.v 0) [] [(.v 1)])])), (.own (.lst [(.int 0)]))]),
    .for (.tup [(.v 3), (.v 4)]) (.enum (.sl (.v 0) [(.v 1)] [(.int 63)])) [.asg (.v 5) (.bin .mod (.bi .int [(.v 3)]) (.v 1)), .asg (.ix (.v 2) (.v 5)) (.bin .add (.ix (.v 2) (.v 5)) (.bin .mul (.v 4) (.bin .add (.v 3) (.int 2))))],
    .ret (.v 2)], true⟩
def l2 : LD := ⟨⟨("_law_cells", none), "_law_cells", "_law_cells", defArgs (top 37), defBody (top 37), defScope (top 37), [], []⟩, f2, ["script", "most_so"], []⟩
theorem b2 : BindOk l2 := fun _ _ _ _ _ _ us hl => match us, hl with | [_, _], _ => rfl
/-- _law_to_end -/
def f3 : FI := ⟨["edge", "sign", "x", "y", "one", "two", "near", "far", "times", "p", "q"], 1, [
    .asg (.tup [(.v 2), (.v 3), (.v 4), (.v 5)]) (.tup [(.ix (.v 0) (.int 0)), (.ix (.v 0) (.int 1)), (.tup [(.int 1), (.int 0)]), (.tup [(.int 0), (.int 1)])]),
    .par [6, 7] [(.v 2), (.v 3)],
    .while (.cmp .ne (.v 7) (.int 0)) [.asg (.v 8) (.bin .fdiv (.v 6) (.v 7)), .asg (.tup [(.v 6), (.v 7), (.v 4), (.v 5)]) (.tup [(.v 7), (.bin .sub (.v 6) (.bin .mul (.v 8) (.v 7))), (.v 5), (.tup [(.bin .sub (.ix (.v 4) (.int 0)) (.bin .mul (.v 8) (.ix (.v 5) (.int 0)))), (.bin .sub (.ix (.v 4) (.int 1)) (.bin .mul (.v 8) (.ix (.v 5) (.int 1))))])])],
    .asg (.v 1) (.ife (.cmp .gt (.v 6) (.int 0)) (.int 1) (.neg (.int 1))),
    .par [9, 10] [(.bin .mul (.v 1) (.ix (.v 4) (.int 0))), (.bin .mul (.v 1) (.ix (.v 4) (.int 1)))],
    .ret (.tup [(.tup [(.v 2), (.neg (.v 10))]), (.tup [(.v 3), (.v 9)])])], false⟩
def l3 : LD := ⟨⟨("_law_to_end", none), "_law_to_end", "_law_to_end", defArgs (top 43), defBody (top 43), defScope (top 43), [], []⟩, f3, ["edge"], []⟩
theorem b3 : BindOk l3 := fun _ _ _ _ _ _ us hl => match us, hl with | [_], _ => rfl
/-- _law_same_edge -/
def f4 : FI := ⟨["level_so", "one", "two", "step", "a", "b", "c", "d", "e", "f", "g", "h"], 3, [
    .asg (.tup [(.tup [(.v 4), (.v 5)]), (.tup [(.v 6), (.v 7)])]) (.call 3 [(.v 1)]),
    .asg (.tup [(.tup [(.v 8), (.v 9)]), (.tup [(.v 10), (.v 11)])]) (.call 3 [(.v 2)]),
    .for (.v 3) (.rng [(.v 0)]) [.ife (.cmp .eq (.bin .mod (.bin .sub (.bin .mul (.v 10) (.v 7)) (.bin .mul (.bin .add (.bin .mul (.v 10) (.v 3)) (.v 11)) (.v 6))) (.v 0)) (.int 0)) [.ret (.bl true)] []],
    .ret (.bl false)], false⟩
def l4 : LD := ⟨⟨("_law_same_edge", none), "_law_same_edge", "_law_same_edge", defArgs (top 44), defBody (top 44), defScope (top 44), [], []⟩, f4, ["level_so", "one", "two"], []⟩
theorem b4 : BindOk l4 := fun _ _ _ _ _ _ us hl => match us, hl with | [_, _, _], _ => rfl
/-- is_number -/
def f5 : FI := ⟨["thing"], 1, [
    .ret (.and [(.isi (.v 0) [.int]), (.nt (.isi (.v 0) [.bool]))])], false⟩
def l5 : LD := ⟨⟨("is_number", none), "is_number", "is_number", defArgs (top 4), defBody (top 4), defScope (top 4), [], []⟩, f5, ["thing"], []⟩
theorem b5 : BindOk l5 := fun _ _ _ _ _ _ us hl => match us, hl with | [_], _ => rfl
/-- is_within -/
def f6 : FI := ⟨["thing", "least", "most"], 3, [
    .ret (.and [(.call 5 [(.v 0)]), (.chain .le .le (.v 1) (.v 0) (.v 2))])], false⟩
def l6 : LD := ⟨⟨("is_within", none), "is_within", "is_within", defArgs (top 5), defBody (top 5), defScope (top 5), [], []⟩, f6, ["thing", "least", "most"], []⟩
theorem b6 : BindOk l6 := fun _ _ _ _ _ _ us hl => match us, hl with | [_, _, _], _ => rfl
/-- sure_within -/
def f7 : FI := ⟨["thing", "least", "most"], 3, [
    .ife (.nt (.call 6 [(.v 0), (.v 1), (.v 2)])) [.raise 0] [],
    .ret (.v 0)], false⟩
def l7 : LD := ⟨⟨("sure_within", none), "sure_within", "sure_within", defArgs (top 13), defBody (top 13), defScope (top 13), [], []⟩, f7, ["thing", "least", "most"], []⟩
theorem b7 : BindOk l7 := fun _ _ _ _ _ _ us hl => match us, hl with | [_, _, _], _ => rfl
/-- sure_level -/
def f8 : FI := ⟨["thing"], 1, [
    .ret (.call 7 [(.v 0), (.int 1), (.gl 0)])], false⟩
def l8 : LD := ⟨⟨("sure_level", none), "sure_level", "sure_level", defArgs (top 16), defBody (top 16), defScope (top 16), [], []⟩, f8, ["thing"], []⟩
theorem b8 : BindOk l8 := fun _ _ _ _ _ _ us hl => match us, hl with | [_], _ => rfl
/-- common -/
def f9 : FI := ⟨["one", "other", "near", "far"], 2, [
    .par [2, 3] [(.bi .abs [(.v 0)]), (.bi .abs [(.v 1)])],
    .while (.cmp .gt (.v 3) (.int 0)) [.par [2, 3] [(.v 3), (.bin .mod (.v 2) (.v 3))]],
    .ret (.v 2)], false⟩
def l9 : LD := ⟨⟨("common", none), "common", "common", defArgs (top 8), defBody (top 8), defScope (top 8), [], []⟩, f9, ["one", "other"], []⟩
theorem b9 : BindOk l9 := fun _ _ _ _ _ _ us hl => match us, hl with | [_, _], _ => rfl
/-- back_by -/
def f10 : FI := ⟨["number", "below", "one", "other", "near", "far", "times"], 2, [
    .asg (.tup [(.v 2), (.v 3), (.v 4), (.v 5)]) (.tup [(.bin .mod (.v 0) (.v 1)), (.v 1), (.int 1), (.int 0)]),
    .while (.cmp .gt (.v 3) (.int 0)) [.asg (.v 6) (.bin .fdiv (.v 2) (.v 3)), .asg (.tup [(.v 2), (.v 3), (.v 4), (.v 5)]) (.tup [(.v 3), (.bin .sub (.v 2) (.bin .mul (.v 6) (.v 3))), (.v 5), (.bin .sub (.v 4) (.bin .mul (.v 6) (.v 5)))])],
    .ret (.bin .mod (.v 4) (.v 1))], false⟩
def l10 : LD := ⟨⟨("back_by", none), "back_by", "back_by", defArgs (top 11), defBody (top 11), defScope (top 11), [], []⟩, f10, ["number", "below"], []⟩
theorem b10 : BindOk l10 := fun _ _ _ _ _ _ us hl => match us, hl with | [_, _], _ => rfl
/-- same_by -/
def f11 : FI := ⟨["level", "one", "other", "near", "far"], 3, [
    .asg (.v 3) (.ife (.cmp .gt (.ix (.v 1) (.int 1)) (.int 0)) (.call 10 [(.ix (.v 1) (.int 0)), (.ix (.v 1) (.int 1))]) (.int 1)),
    .asg (.v 4) (.ife (.cmp .gt (.ix (.v 2) (.int 1)) (.int 0)) (.call 10 [(.ix (.v 2) (.int 0)), (.ix (.v 2) (.int 1))]) (.int 1)),
    .ret (.cmp .eq (.bin .mod (.bin .sub (.bin .mul (.v 3) (.ix (.v 2) (.int 1))) (.bin .mul (.v 4) (.ix (.v 1) (.int 1)))) (.call 9 [(.bin .mul (.ix (.v 1) (.int 1)) (.ix (.v 2) (.int 1))), (.v 0)])) (.int 0))], false⟩
def l11 : LD := ⟨⟨("same_by", none), "same_by", "same_by", defArgs (top 22), defBody (top 22), defScope (top 22), [], []⟩, f11, ["level", "one", "other"], []⟩
theorem b11 : BindOk l11 := fun _ _ _ _ _ _ us hl => match us, hl with | [_, _, _], _ => rfl
/-- edge_by -/
def f12 : FI := ⟨["part", "number", "shared", "above"], 3, [
    .asg (.v 3) (.v 1),
    .while (.cmp .ne (.call 9 [(.v 3), (.v 0)]) (.int 1)) [.aug 3 .add (.v 2)],
    .ret (.tup [(.v 3), (.v 0)])], false⟩
def l12 : LD := ⟨⟨("edge_by", none), "edge_by", "edge_by", defArgs (top 23), defBody (top 23), defScope (top 23), [], []⟩, f12, ["part", "number", "shared"], []⟩
theorem b12 : BindOk l12 := fun _ _ _ _ _ _ us hl => match us, hl with | [_, _, _], _ => rfl
/-- told_by -/
def f13 : FI := ⟨["level", "edge", "part", "shared", "number"], 2, [
    .asg (.v 2) (.call 9 [(.ix (.v 1) (.int 1)), (.v 0)]),
    .asg (.v 3) (.call 9 [(.v 2), (.bin .fdiv (.v 0) (.v 2))]),
    .for (.v 4) (.rng [(.int 1), (.bin .add (.v 3) (.int 1))]) [.ife (.and [(.cmp .eq (.call 9 [(.v 4), (.v 3)]) (.int 1)), (.call 11 [(.v 0), (.v 1), (.call 12 [(.v 2), (.v 4), (.v 3)])])]) [.ret (.tup [(.v 2), (.v 4)])] []],
    .ret .non], false⟩
def l13 : LD := ⟨⟨("told_by", none), "told_by", "told_by", defArgs (top 24), defBody (top 24), defScope (top 24), [], []⟩, f13, ["level", "edge"], []⟩
theorem b13 : BindOk l13 := fun _ _ _ _ _ _ us hl => match us, hl with | [_, _], _ => rfl
/-- tupled -/
def f14 : FI := ⟨["value", "own"], 1, [
    .ret (.ife (.isi (.v 0) [.list, .tuple]) (.bi .tuple [(.lc (.call 14 [(.v 1)]) [1] (.v 1) (.walk (.v 0)) [])]) (.v 0))], false⟩
def l14 : LD := ⟨⟨("tupled", none), "tupled", "tupled", defArgs (top 7), defBody (top 7), defScope (top 7), [], []⟩, f14, ["value"], []⟩
theorem b14 : BindOk l14 := fun _ _ _ _ _ _ us hl => match us, hl with | [_], _ => rfl
/-- is_long -/
def f15 : FI := ⟨["thing", "length"], 2, [
    .ret (.and [(.isi (.v 0) [.tuple]), (.cmp .eq (.bi .len [(.v 0)]) (.v 1))])], false⟩
def l15 : LD := ⟨⟨("is_long", none), "is_long", "is_long", defArgs (top 6), defBody (top 6), defScope (top 6), [], []⟩, f15, ["thing", "length"], []⟩
theorem b15 : BindOk l15 := fun _ _ _ _ _ _ us hl => match us, hl with | [_, _], _ => rfl
/-- is_edge_of -/
def f16 : FI := ⟨["thing", "own"], 1, [
    .ife (.or [(.nt (.call 15 [(.v 0), (.int 2)])), (.nt (.bi .all [(.lc (.call 6 [(.v 1), (.neg (.gl 2)), (.gl 2)]) [1] (.v 1) (.walk (.v 0)) [])]))]) [.ret (.bl false)] [],
    .ret (.or [(.cmp .eq (.v 0) (.gl 1)), (.and [(.cmp .gt (.ix (.v 0) (.int 1)) (.int 0)), (.cmp .eq (.call 9 [(.ix (.v 0) (.int 0)), (.ix (.v 0) (.int 1))]) (.int 1))])])], false⟩
def l16 : LD := ⟨⟨("is_edge_of", none), "is_edge_of", "is_edge_of", defArgs (top 21), defBody (top 21), defScope (top 21), [], []⟩, f16, ["thing"], []⟩
theorem b16 : BindOk l16 := fun _ _ _ _ _ _ us hl => match us, hl with | [_], _ => rfl
/-- sure_edge -/
def f17 : FI := ⟨["thing", "edge"], 1, [
    .asg (.v 1) (.call 14 [(.v 0)]),
    .ife (.nt (.call 16 [(.v 1)])) [.raise 0] [],
    .ret (.v 1)], false⟩
def l17 : LD := ⟨⟨("sure_edge", none), "sure_edge", "sure_edge", defArgs (top 26), defBody (top 26), defScope (top 26), [], []⟩, f17, ["thing"], []⟩
theorem b17 : BindOk l17 := fun _ _ _ _ _ _ us hl => match us, hl with | [_], _ => rfl
/-- edge_told -/
def f18 : FI := ⟨["level", "edge", "own"], 2, [
    .asg (.v 2) (.call 8 [(.v 0)]),
    .ret (.call 13 [(.v 2), (.call 17 [(.v 1)])])], false⟩
def l18 : LD := ⟨⟨("edge_told", none), "edge_told", "edge_told", defArgs (top 29), defBody (top 29), defScope (top 29), [], []⟩, f18, ["level", "edge"], []⟩
theorem b18 : BindOk l18 := fun _ _ _ _ _ _ us hl => match us, hl with | [_, _], _ => rfl
/-- edge_of -/
def f19 : FI := ⟨["level", "part", "number", "own", "shared"], 3, [
    .asg (.v 3) (.call 8 [(.v 0)]),
    .ife (.or [(.nt (.call 6 [(.v 1), (.int 1), (.int 1000)])), (.nt (.call 6 [(.v 2), (.int 1), (.int 1000)]))]) [.raise 0] [],
    .ife (.cmp .ne (.bin .mod (.v 3) (.v 1)) (.int 0)) [.raise 1] [],
    .asg (.v 4) (.call 9 [(.v 1), (.bin .fdiv (.v 3) (.v 1))]),
    .ife (.or [(.cmp .gt (.v 2) (.v 4)), (.cmp .ne (.call 9 [(.v 2), (.v 4)]) (.int 1))]) [.raise 1] [],
    .ret (.call 12 [(.v 1), (.v 2), (.v 4)])], false⟩
def l19 : LD := ⟨⟨("edge_of", none), "edge_of", "edge_of", defArgs (top 30), defBody (top 30), defScope (top 30), [], []⟩, f19, ["level", "part", "number"], []⟩
theorem b19 : BindOk l19 := fun _ _ _ _ _ _ us hl => match us, hl with | [_, _, _], _ => rfl
/-- _law_gcd -/
def f20 : FI := ⟨["one", "two"], 2, [
    .while (.cmp .ne (.v 1) (.int 0)) [.par [0, 1] [(.v 1), (.bin .mod (.v 0) (.v 1))]],
    .ret (.bi .abs [(.v 0)])], false⟩
def l20 : LD := ⟨⟨("_law_gcd", none), "_law_gcd", "_law_gcd", defArgs (top 40), defBody (top 40), defScope (top 40), [], []⟩, f20, ["one", "two"], []⟩
theorem b20 : BindOk l20 := fun _ _ _ _ _ _ us hl => match us, hl with | [_, _], _ => rfl
/-- _law_take -/
def f21 : FI := ⟨["tin", "below_so", "once_so", "wide_so", "twice_so", "drawn_so"], 2, [
    .ife (.cmp .gt (.ix (.v 0) (.int 0)) (.int 0)) [.asg (.v 5) (.bin .mod (.bi .int [(.ix (.v 0) (.int 0))]) (.v 1)), .asg (.ix (.v 0) (.int 0)) (.bin .fdiv (.ix (.v 0) (.int 0)) (.v 1)), .ret (.v 5)] [],
    .asg (.ix (.v 0) (.int 2)) (.bin .add (.ix (.v 0) (.int 2)) (.int 1)),
    .asg (.v 2) (.bin .mod (.bi .int [(.bin .mul (.bin .add (.ix (.v 0) (.int 1)) (.bin .mul (.int 48271) (.ix (.v 0) (.int 2)))) (.bin .add (.int 39373) (.ix (.v 0) (.int 2))))]) (.int 2147483647)),
    .asg (.v 3) (.bin .add (.bin .mod (.bi .int [(.v 2)]) (.int 40009)) (.int 7)),
    .asg (.v 4) (.bin .mod (.bi .int [(.bin .mul (.bin .add (.bin .add (.v 2) (.ix (.v 0) (.int 2))) (.bin .fdiv (.ix (.v 0) (.int 1)) (.int 1000003))) (.v 3))]) (.int 2147483629)),
    .ret (.bin .mod (.bi .int [(.bin .fdiv (.bin .mod (.bi .int [(.bin .add (.bin .mul (.v 4) (.int 48271)) (.v 2))]) (.int 2147483587)) (.int 64))]) (.v 1))], true⟩
def l21 : LD := ⟨⟨("_law_take", none), "_law_take", "_law_take", defArgs (top 36), defBody (top 36), defScope (top 36), [], []⟩, f21, ["tin", "below_so"], []⟩
theorem b21 : BindOk l21 := fun _ _ _ _ _ _ us hl => match us, hl with | [_, _], _ => rfl
/-- _law_of -/
def f22 : FI := ⟨["tin", "goods_so"], 2, [
    .ret (.ix (.v 1) (.call 21 [(.v 0), (.bi .len [(.v 1)])]))], false⟩
def l22 : LD := ⟨⟨("_law_of", none), "_law_of", "_law_of", defArgs (top 38), defBody (top 38), defScope (top 38), [], []⟩, f22, ["tin", "goods_so"], []⟩
theorem b22 : BindOk l22 := fun _ _ _ _ _ _ us hl => match us, hl with | [_, _], _ => rfl
/-- lowest_edge -/
def f23 : FI := ⟨["above", "below", "shared", "one", "other"], 2, [
    .asg (.v 2) (.call 9 [(.v 0), (.v 1)]),
    .par [3, 4] [(.bin .fdiv (.v 0) (.v 2)), (.bin .fdiv (.v 1) (.v 2))],
    .ife (.cmp .eq (.v 4) (.int 0)) [.ret (.gl 1)] [],
    .ret (.ife (.cmp .gt (.v 4) (.int 0)) (.tup [(.v 3), (.v 4)]) (.tup [(.neg (.v 3)), (.neg (.v 4))]))], false⟩
def l23 : LD := ⟨⟨("lowest_edge", none), "lowest_edge", "lowest_edge", defArgs (top 25), defBody (top 25), defScope (top 25), [], []⟩, f23, ["above", "below"], []⟩
theorem b23 : BindOk l23 := fun _ _ _ _ _ _ us hl => match us, hl with | [_, _], _ => rfl
/-- led_edge -/
def f24 : FI := ⟨["table", "edge", "found", "told", "own", "a", "b", "c", "d", "row", "its"], 2, [
    .par [3, 4] [(.call 14 [(.v 0)]), (.call 17 [(.v 1)])],
    .ife (.or [(.nt (.call 15 [(.v 3), (.int 2)])), (.nt (.bi .all [(.lc (.call 15 [(.v 9), (.int 2)]) [9] (.v 9) (.walk (.v 3)) [])]))]) [.raise 0] [],
    .ife (.nt (.bi .all [(.lc2 (.call 6 [(.v 10), (.neg (.gl 2)), (.gl 2)]) [9, 10] [10] (.v 9) (.walk (.v 3)) [] (.v 10) (.walk (.v 9)) [])])) [.raise 0] [],
    .asg (.tup [(.tup [(.v 5), (.v 6)]), (.tup [(.v 7), (.v 8)])]) (.v 3),
    .ife (.cmp .ne (.bin .sub (.bin .mul (.v 5) (.v 8)) (.bin .mul (.v 6) (.v 7))) (.int 1)) [.raise 0] [],
    .asg (.v 2) (.call 23 [(.bin .add (.bin .mul (.v 5) (.ix (.v 4) (.int 0))) (.bin .mul (.v 6) (.ix (.v 4) (.int 1)))), (.bin .add (.bin .mul (.v 7) (.ix (.v 4) (.int 0))) (.bin .mul (.v 8) (.ix (.v 4) (.int 1))))]),
    .ife (.nt (.call 16 [(.v 2)])) [.raise 1] [],
    .ret (.v 2)], false⟩
def l24 : LD := ⟨⟨("led_edge", none), "led_edge", "led_edge", defArgs (top 31), defBody (top 31), defScope (top 31), [], []⟩, f24, ["table", "edge"], []⟩
theorem b24 : BindOk l24 := fun _ _ _ _ _ _ us hl => match us, hl with | [_, _], _ => rfl
/-- _law_edge -/
def f25 : FI := ⟨["above_so", "below_so", "both_so"], 2, [
    .asg (.v 2) (.call 20 [(.v 0), (.v 1)]),
    .par [0, 1] [(.bin .fdiv (.v 0) (.v 2)), (.bin .fdiv (.v 1) (.v 2))],
    .ife (.cmp .eq (.v 1) (.int 0)) [.ret (.tup [(.int 1), (.int 0)])] [],
    .ret (.ife (.cmp .gt (.v 1) (.int 0)) (.tup [(.v 0), (.v 1)]) (.tup [(.neg (.v 0)), (.neg (.v 1))]))], false⟩
def l25 : LD := ⟨⟨("_law_edge", none), "_law_edge", "_law_edge", defArgs (top 42), defBody (top 42), defScope (top 42), [], []⟩, f25, ["above_so", "below_so"], []⟩
theorem b25 : BindOk l25 := fun _ _ _ _ _ _ us hl => match us, hl with | [_, _], _ => rfl
/-- primes_of -/
def f26 : FI := ⟨["number", "found", "left", "own"], 1, [
    .par [1, 2, 3] [(.own (.lst [])), (.v 0), (.int 2)],
    .while (.cmp .le (.bin .mul (.v 3) (.v 3)) (.v 2)) [.ife (.cmp .eq (.bin .mod (.v 2) (.v 3)) (.int 0)) [.ex (.me .append (.v 1) [(.v 3)]), .while (.cmp .eq (.bin .mod (.v 2) (.v 3)) (.int 0)) [.asg (.v 2) (.bin .fdiv (.v 2) (.v 3))]] [], .aug 3 .add (.int 1)],
    .ife (.cmp .gt (.v 2) (.int 1)) [.ex (.me .append (.v 1) [(.v 2)])] [],
    .ret (.v 1)], false⟩
def l26 : LD := ⟨⟨("primes_of", none), "primes_of", "primes_of", defArgs (top 9), defBody (top 9), defScope (top 9), [], []⟩, f26, ["number"], []⟩
theorem b26 : BindOk l26 := fun _ _ _ _ _ _ us hl => match us, hl with | [_], _ => rfl
/-- divisors -/
def f27 : FI := ⟨["number", "found", "own", "worth", "powers", "its", "one"], 1, [
    .asg (.v 1) (.lst [(.int 1)]),
    .for (.v 2) (.walk (.call 26 [(.v 0)])) [.asg (.tup [(.v 3), (.v 4)]) (.tup [(.int 1), (.own (.lst []))]), .while (.cmp .eq (.bin .mod (.v 0) (.v 3)) (.int 0)) [.ex (.me .append (.v 4) [(.v 3)]), .asg (.v 3) (.bin .mul (.v 3) (.v 2))], .setLc 1 (.lc2 (.bin .mul (.v 5) (.v 6)) [5, 6] [6] (.v 5) (.walk (.v 1)) [] (.v 6) (.walk (.v 4)) [])],
    .ret (.bi .sorted [(.v 1)])], false⟩
def l27 : LD := ⟨⟨("divisors", none), "divisors", "divisors", defArgs (top 10), defBody (top 10), defScope (top 10), [], []⟩, f27, ["number"], []⟩
theorem b27 : BindOk l27 := fun _ _ _ _ _ _ us hl => match us, hl with | [_], _ => rfl
/-- edges_of -/
def f28 : FI := ⟨["level", "part", "own", "found", "shared", "its"], 1, [
    .par [2, 3] [(.call 8 [(.v 0)]), (.own (.lst []))],
    .for (.v 1) (.walk (.call 27 [(.v 2)])) [.asg (.v 4) (.call 9 [(.v 1), (.bin .fdiv (.v 2) (.v 1))]), .ex (.me .extend (.v 3) [(.lc (.call 12 [(.v 1), (.v 5), (.v 4)]) [5] (.v 5) (.rng [(.int 1), (.bin .add (.v 4) (.int 1))]) [(.cmp .eq (.call 9 [(.v 5), (.v 4)]) (.int 1))])])],
    .ret (.bi .tuple [(.v 3)])], false⟩
def l28 : LD := ⟨⟨("edges_of", none), "edges_of", "edges_of", defArgs (top 33), defBody (top 33), defScope (top 33), [], []⟩, f28, ["level"], []⟩
theorem b28 : BindOk l28 := fun _ _ _ _ _ _ us hl => match us, hl with | [_], _ => rfl
/-- is_edge -/
def f29 : FI := ⟨["thing"], 1, [
    .ret (.call 16 [(.v 0)])], false⟩
def l29 : LD := ⟨⟨("is_edge", none), "is_edge", "is_edge", defArgs (top 27), defBody (top 27), defScope (top 27), [], []⟩, f29, ["thing"], []⟩
theorem b29 : BindOk l29 := fun _ _ _ _ _ _ us hl => match us, hl with | [_], _ => rfl
/-- same_edge -/
def f30 : FI := ⟨["level", "one", "other", "own", "near", "far"], 3, [
    .asg (.v 3) (.call 8 [(.v 0)]),
    .par [4, 5] [(.call 17 [(.v 1)]), (.call 17 [(.v 2)])],
    .ret (.call 11 [(.v 3), (.v 4), (.v 5)])], false⟩
def l30 : LD := ⟨⟨("same_edge", none), "same_edge", "same_edge", defArgs (top 28), defBody (top 28), defScope (top 28), [], []⟩, f30, ["level", "one", "other"], []⟩
theorem b30 : BindOk l30 := fun _ _ _ _ _ _ us hl => match us, hl with | [_, _, _], _ => rfl
/-- all_cusps -/
def f31 : FI := ⟨["level", "its", "own", "found", "shared", "number"], 1, [
    .par [2, 3] [(.call 8 [(.v 0)]), (.own (.lst []))],
    .for (.v 1) (.walk (.call 27 [(.v 2)])) [.asg (.v 4) (.call 9 [(.v 1), (.bin .fdiv (.v 2) (.v 1))]), .ex (.me .extend (.v 3) [(.lc (.tup [(.v 1), (.v 5)]) [5] (.v 5) (.rng [(.int 1), (.bin .add (.v 4) (.int 1))]) [(.cmp .eq (.call 9 [(.v 5), (.v 4)]) (.int 1))])])],
    .ret (.bi .tuple [(.v 3)])], false⟩
def l31 : LD := ⟨⟨("all_cusps", none), "all_cusps", "all_cusps", defArgs (top 17), defBody (top 17), defScope (top 17), [], []⟩, f31, ["level"], []⟩
theorem b31 : BindOk l31 := fun _ _ _ _ _ _ us hl => match us, hl with | [_], _ => rfl
/-- edge_width -/
def f32 : FI := ⟨["level", "edge", "own", "part"], 2, [
    .asg (.v 2) (.call 8 [(.v 0)]),
    .asg (.v 3) (.call 9 [(.ix (.call 17 [(.v 1)]) (.int 1)), (.v 2)]),
    .ret (.bin .fdiv (.v 2) (.bin .mul (.v 3) (.call 9 [(.v 3), (.bin .fdiv (.v 2) (.v 3))])))], false⟩
def l32 : LD := ⟨⟨("edge_width", none), "edge_width", "edge_width", defArgs (top 32), defBody (top 32), defScope (top 32), [], []⟩, f32, ["level", "edge"], []⟩
theorem b32 : BindOk l32 := fun _ _ _ _ _ _ us hl => match us, hl with | [_, _], _ => rfl
/-- _law_heard -/
def f33 : FI := ⟨["door_so", "one", "two", "three", "caught", "told_so"], 4, [
    .asg (.tup [(.v 4), (.v 5)]) (.tup [.non, .non]),
    .tr [.ife (.cmp .lt (.v 0) (.int 3)) [.asg (.v 5) (.ife (.cmp .eq (.v 0) (.int 0)) (.call 24 [(.v 1), (.v 2)]) (.ife (.cmp .eq (.v 0) (.int 1)) (.call 19 [(.v 1), (.v 2), (.v 3)]) (.call 30 [(.v 1), (.v 2), (.v 3)])))] [.asg (.v 5) (.ife (.cmp .eq (.v 0) (.int 3)) (.call 18 [(.v 1), (.v 2)]) (.ife (.cmp .eq (.v 0) (.int 4)) (.call 32 [(.v 1), (.v 2)]) (.call 28 [(.v 1)])))]] [(1, 4, (.str "none")), (0, 4, (.str "unfit"))],
    .ret (.ife (.cmp .is (.v 4) .non) (.v 5) (.v 4))], false⟩
def l33 : LD := ⟨⟨("_law_heard", none), "_law_heard", "_law_heard", defArgs (top 41), defBody (top 41), defScope (top 41), [], []⟩, f33, ["door_so", "one", "two", "three"], []⟩
theorem b33 : BindOk l33 := fun _ _ _ _ _ _ us hl => match us, hl with | [_, _, _, _], _ => rfl
/-- law -/
def f34 : FI := ⟨["script", "tin", "lap", "things_so", "got", "level_so", "drawn_so", "turn", "same_so", "pair_so", "stands_so", "shared_so", "c", "d", "a", "b", "led_so", "due", "every_so", "below_so", "one", "two", "own", "its"], 1, [
    .asg (.v 1) (.call 0 [(.call 2 [(.v 0), (.int 1)]), (.int 0)]),
    .for (.v 2) (.rng [(.int 5)]) [.asg (.v 5) (.bin .add (.int 1) (.call 21 [(.v 1), (.int 60)])), .asg (.v 6) (.own (.lst [])), .for (.v 7) (.rng [(.int 2)]) [.asg (.v 19) (.call 21 [(.v 1), (.int 41)]), .ex (.me .append (.v 6) [(.call 25 [(.ife (.cmp .gt (.v 19) (.int 0)) (.bin .sub (.call 21 [(.v 1), (.int 81)]) (.int 40)) (.int 1)), (.v 19)])])], .asg (.tup [(.v 20), (.v 21)]) (.v 6), .asg (.v 8) (.call 4 [(.v 5), (.v 20), (.v 21)]), .asg (.v 9) (.call 18 [(.v 5), (.v 20)]), .asg (.v 4) (.lst [(.call 29 [(.v 20)]), (.call 30 [(.v 5), (.v 20), (.v 21)]), (.call 30 [(.v 5), (.v 21), (.v 20)]), (.cmp .in_ (.v 9) (.call 31 [(.v 5)])), (.ix (.v 9) (.int 0)), (.cmp .eq (.call 18 [(.v 5), (.v 21)]) (.v 9))]), .ife (.nt (.call 1 [(.v 4), (.lst [(.bl true), (.v 8), (.v 8), (.bl true), (.call 20 [(.ix (.v 20) (.int 1)), (.v 5)]), (.v 8)])])) [.ret (.bl false)] [], .asg (.v 10) (.call 19 [(.v 5), (.ix (.v 9) (.int 0)), (.ix (.v 9) (.int 1))]), .ife (.or [(.nt (.call 1 [(.lst [(.call 30 [(.v 5), (.v 10), (.v 20)]), (.call 18 [(.v 5), (.v 10)])]), (.lst [(.bl true), (.v 9)])])), (.nt (.call 4 [(.v 5), (.v 10), (.v 20)]))]) [.ret (.bl false)] [], .asg (.v 11) (.call 20 [(.ix (.v 9) (.int 0)), (.bin .fdiv (.v 5) (.ix (.v 9) (.int 0)))]), .ife (.nt (.call 1 [(.call 32 [(.v 5), (.v 20)]), (.bin .fdiv (.v 5) (.bin .mul (.ix (.v 9) (.int 0)) (.v 11)))])) [.ret (.bl false)] [], .asg (.v 12) (.bin .mul (.v 5) (.bin .sub (.call 21 [(.v 1), (.int 5)]) (.int 2))), .asg (.v 13) (.call 22 [(.v 1), (.lc (.v 22) [22] (.v 22) (.rng [(.int 1), (.int 40)]) [(.cmp .eq (.call 20 [(.v 22), (.v 12)]) (.int 1))])]), .asg (.v 14) (.ife (.cmp .ne (.v 12) (.int 0)) (.lc (.v 22) [22] (.v 22) (.rng [(.bin .sub (.neg (.bi .abs [(.v 12)])) (.int 1)), (.bin .add (.bi .abs [(.v 12)]) (.int 2))]) [(.cmp .eq (.bin .mod (.bin .sub (.bin .mul (.v 22) (.v 13)) (.int 1)) (.ife (.cmp .ne (.v 12) (.int 0)) (.bi .abs [(.v 12)]) (.bin .pow (.int 10) (.int 9)))) (.int 0))]) (.lst [(.int 1)])), .asg (.v 13) (.ife (.cmp .ne (.v 12) (.int 0)) (.v 13) (.int 1)), .asg (.v 15) (.ife (.cmp .ne (.v 12) (.int 0)) (.bin .fdiv (.bin .sub (.bin .mul (.ix (.v 14) (.int 0)) (.v 13)) (.int 1)) (.v 12)) (.bin .sub (.call 21 [(.v 1), (.int 9)]) (.int 4))), .asg (.v 16) (.call 24 [(.tup [(.tup [(.ix (.v 14) (.int 0)), (.v 15)]), (.tup [(.v 12), (.v 13)])]), (.v 20)]), .asg (.v 17) (.call 25 [(.bin .add (.bin .mul (.ix (.v 14) (.int 0)) (.ix (.v 20) (.int 0))) (.bin .mul (.v 15) (.ix (.v 20) (.int 1)))), (.bin .add (.bin .mul (.v 12) (.ix (.v 20) (.int 0))) (.bin .mul (.v 13) (.ix (.v 20) (.int 1))))]), .ife (.nt (.call 1 [(.lst [(.v 16), (.call 30 [(.v 5), (.v 20), (.v 16)]), (.call 18 [(.v 5), (.v 16)])]), (.lst [(.v 17), (.bl true), (.v 9)])])) [.ret (.bl false)] [], .asg (.v 18) (.call 28 [(.v 5)]), .ife (.nt (.call 1 [(.lst [(.bi .list [(.v 18)]), (.lc (.call 18 [(.v 5), (.v 22)]) [22] (.v 22) (.walk (.v 18)) [])]), (.lst [(.lc (.call 19 [(.v 5), (.ix (.v 22) (.int 0)), (.ix (.v 22) (.int 1))]) [22] (.v 22) (.walk (.call 31 [(.v 5)])) []), (.bi .list [(.call 31 [(.v 5)])])])])) [.ret (.bl false)] [], .for (.tup [(.v 22), (.v 9)]) (.zip (.v 18) (.call 31 [(.v 5)])) [.asg (.v 11) (.call 20 [(.ix (.v 9) (.int 0)), (.bin .fdiv (.v 5) (.ix (.v 9) (.int 0)))]), .asg (.v 17) (.ix (.lc (.v 23) [23] (.v 23) (.rng [(.ix (.v 9) (.int 1)), (.bin .add (.bin .add (.ix (.v 9) (.int 1)) (.bin .mul (.v 11) (.ix (.v 9) (.int 0)))) (.int 1)), (.v 11)]) [(.cmp .eq (.call 20 [(.v 23), (.ix (.v 9) (.int 0))]) (.int 1))]) (.int 0)), .ife (.cmp .ne (.v 22) (.tup [(.v 17), (.ix (.v 9) (.int 0))])) [.ret (.bl false)] []]],
    .asg (.v 3) (.lst [(.tup [(.int 1), (.int 0)]), (.tup [(.int 0), (.int 1)]), (.tup [(.neg (.int 5)), (.int 3)]), (.tup [(.bin .pow (.int 10) (.int 6)), (.int 1)]), (.tup [(.neg (.int 1)), (.int 0)]), (.tup [(.int 2), (.int 0)]), (.tup [(.int 0), (.int 2)]), (.tup [(.int 2), (.int 4)]), (.tup [(.int 1), (.neg (.int 2))]), (.tup [(.bl true), (.int 1)]), (.lst [(.int 1), (.int 0)]), .non, (.tup [(.bin .add (.bin .pow (.int 10) (.int 6)) (.int 1)), (.int 1)])]),
    .setLc 4 (.lc (.call 29 [(.v 22)]) [22] (.v 22) (.walk (.v 3)) []),
    .asg (.v 4) (.bin .add (.v 4) (.lst [(.call 33 [(.int 0), (.tup [(.tup [(.int 1), (.bin .pow (.int 10) (.int 6))]), (.tup [(.int 0), (.int 1)])]), (.tup [(.int 1), (.int 1)]), .non]), (.call 33 [(.int 0), (.tup [(.tup [(.int 1), (.int 1)]), (.tup [(.int 1), (.int 1)])]), (.tup [(.int 1), (.int 1)]), .non]), (.call 33 [(.int 0), (.tup [(.tup [(.int 0), (.int 1)]), (.tup [(.int 1), (.int 0)])]), (.tup [(.int 1), (.int 1)]), .non]), (.call 33 [(.int 1), (.int 9), (.int 3), (.int 3)])])),
    .asg (.v 4) (.bin .add (.v 4) (.lst [(.call 33 [(.int 1), (.int 9), (.int 2), (.int 1)]), (.call 33 [(.int 1), (.int 9), (.int 0), (.int 1)]), (.call 33 [(.int 1), (.int 9), (.int 3), (.int 1001)]), (.call 33 [(.int 2), (.int 0), (.tup [(.int 1), (.int 0)]), (.tup [(.int 1), (.int 0)])])])),
    .asg (.v 4) (.bin .add (.v 4) (.lst [(.call 33 [(.int 2), (.int 1001), (.tup [(.int 1), (.int 0)]), (.tup [(.int 1), (.int 0)])]), (.call 33 [(.int 3), (.int 5), (.tup [(.int 2), (.int 4)]), .non]), (.call 33 [(.int 4), (.int 5), .non, .non]), (.call 33 [(.int 5), (.int 0), .non, .non])])),
    .ret (.call 1 [(.v 4), (.bin .add (.bin .add (.bin .mul (.lst [(.bl true)]) (.int 4)) (.bin .mul (.lst [(.bl false)]) (.int 9))) (.lst [(.str "none"), (.str "unfit"), (.str "unfit"), (.str "none"), (.str "none"), (.str "unfit"), (.str "unfit"), (.str "unfit"), (.str "unfit"), (.str "unfit"), (.str "unfit"), (.str "unfit")]))])], false⟩
def l34 : LD := ⟨⟨("law", none), "law", "law", defArgs (top 45), defBody (top 45), defScope (top 45), [], []⟩, f34, ["script"], []⟩
theorem b34 : BindOk l34 := fun _ _ _ _ _ _ us hl => match us, hl with | [_], _ => rfl
def ds : List LD := [l0, l1, l2, l3, l4, l5, l6, l7, l8, l9, l10, l11, l12, l13, l14, l15, l16, l17, l18, l19, l20, l21, l22, l23, l24, l25, l26, l27, l28, l29, l30, l31, l32, l33, l34]
def consts : List (Str × CD) := [("MOST", .i 1000), ("END", .t [1, 0]), ("GREATEST", .i 1000000)]
def blt : List Str := []
def exc : List Str := ["Unfit", "CanNot"]
def free : List Str := ["len", "abs", "int", "range", "isinstance", "list", "tuple", "bool", "str", "all", "zip", "enumerate", "sorted"]
def loose0 : List Str := ["CanNot", "Unfit", "is_number", "is_within", "is_long", "tupled", "common", "primes_of", "divisors", "back_by", "sure_within", "MOST", "sure_level", "all_cusps", "GREATEST", "END", "is_edge_of", "same_by", "edge_by", "told_by", "lowest_edge", "sure_edge", "is_edge", "same_edge", "edge_told", "edge_of", "led_edge", "edge_width", "edges_of", "_law_box"]
def loose1 : List Str := ["_law_take", "_law_cells", "_law_of", "_law_same", "_law_gcd", "_law_heard", "_law_edge", "_law_to_end", "_law_same_edge"]
def loose : List Str := loose0 ++ loose1
abbrev fa : List He.Fa := faOf ds consts exc free
abbrev fn : List He.DefD := ds.map (·.dd)



theorem checks : ds.all (chkD (tabOf ds consts exc free blt)) = true := by decide +kernel
theorem binds : AllEv BindOk ds := ⟨b0, b1, b2, b3, b4, b5, b6, b7, b8, b9, b10, b11, b12, b13, b14, b15, b16, b17, b18, b19, b20, b21, b22, b23, b24, b25, b26, b27, b28, b29, b30, b31, b32, b33, b34, trivial⟩
theorem kws : AllEv KwsOk ds := ⟨trivial, trivial, trivial, trivial, trivial, trivial, trivial, trivial, trivial, trivial, trivial, trivial, trivial, trivial, trivial, trivial, trivial, trivial, trivial, trivial, trivial, trivial, trivial, trivial, trivial, trivial, trivial, trivial, trivial, trivial, trivial, trivial, trivial, trivial, trivial, trivial⟩
abbrev hk : PySem.W.Hook := He.hookX 5 fa fn [] [] (exOf consts blt)
def ob (s : PySem.W.SharedT) : He.AlX := He.obsX 5 fa fn [] [] (exOf consts blt) (HandSHeadRun.getT s)
theorem ob_eq (s : PySem.W.SharedT) : ob s = hk.obs s.abs := He.obsX_eq (HandSHeadRun.getT_eq s)
set_option maxHeartbeats 0 in
theorem run (w : World) : HandSHeadRun.RunEq Rw (PySem.W.view Rw.prog [45]) hk ob 4000 loose w := by
  intro os
  kernel_rfl

abbrev FF : List FI := [f0, f1, f2, f3, f4, f5, f6, f7, f8, f9, f10, f11, f12, f13, f14, f15, f16, f17, f18, f19, f20, f21, f22, f23, f24, f25, f26, f27, f28, f29, f30, f31, f32, f33, f34]
abbrev gg : List D := [.int 1000, .tup [.int 1, .int  0], .int 1000000]
end Law

set_option Elab.async false
set_option linter.all false
set_option maxRecDepth 100000
set_option autoImplicit false
namespace Law
open PySem.Spec Ev
def FU : Nat := 2000000
abbrev CL (L : Nat) : Nat → List D → Store → R D := callL FF gg FU 2 L
abbrev C (L : Nat) : Cfg := ⟨CL L, gg, FU, 2⟩
theorem FU_le {n : Nat} (h : n ≤ 2000000) : n ≤ FU := h
@[simp] theorem mod_pos {i j : Int} (h : 0 < j) : binI .mod i j = some (i % j) := by simp [binI, h]
theorem same (L : Nat) : ∀ (k : Nat) (d : D) (st : Store), sameB k d = true → CL (L + k + 1) 1 [d, d] st = .ok (.bl true) st
  | 0, d, st, h => same_flat (C (L + 0)) d st h
  | k + 1, d, st, h => same_step (C (L + (k + 1))) k d st h fun d h => same L k d st h
theorem rng2 (a b : Nat) (ha : a ≤ 1000) (hb : b ≤ 1000) : rngOf [.int (a : Int), .int (b : Int)] = some ⟨intsL ((List.range (b - a)).map fun m : Nat => (a : Int) + m), []⟩ := by
  have g1 : near (a : Int) = true := by simp only [near, Bool.and_eq_true, decide_eq_true_eq]; omega
  have g2 : near (b : Int) = true := by simp only [near, Bool.and_eq_true, decide_eq_true_eq]; omega
  have e : ((b : Int) - (a : Int)).toNat = b - a := by omega
  have g3 : b - a ≤ line := by simp only [line]; omega
  simp only [rngOf, g1, g2, e, g3, Bool.and_true, decide_true, if_true, rngD_eq]
  simp [Function.comp_def]
/-- 0, 1, .. -/
def upTo (n : Nat) : List Int := (List.range n).map fun m : Nat => (m : Int)
/-- 1, 2, .., n -/
def from1 (n : Nat) : List Int := (List.range n).map fun m : Nat => ((1 : Nat) : Int) + m
theorem from1_pos {n : Nat} {o : Int} (h : o ∈ from1 n) : 1 ≤ o ∧ o ≤ n := by
  obtain ⟨m, hm, rfl⟩ := List.mem_map.mp h
  have := List.mem_range.mp hm
  omega
theorem rngF (n : Nat) (h : n + 1 ≤ 1000) : rngOf [.int 1, .int ((n : Int) + 1)] = some ⟨intsL (from1 n), []⟩ := by
  have := rng2 1 (n + 1) (by decide) h
  simpa [from1] using this
def dvL (n : Nat) : List Int := (from1 n).filter fun o => decide ((n : Int) % o = 0)
theorem lc_mp {c : Cfg} {elt it : IE} {i : Nat} {env : Env} {st : Store} {xs : List Int} (g : Int → Int) (hi : evI c it env st = .ok ⟨intsL xs, []⟩ st)
    (hb : ∀ x ∈ xs, evE c elt ((env.set i none).set i (some (.int x))) st = .ok (.int (g x)) st) :
    evE c (.lc elt [i] (.v i) it []) env st = .ok (.lst (intsL (xs.map g))) st := by
  have := lc_map (c := c) (elt := elt) (tg := .v i) (it := it) (own := [i]) (env := env) (st := st) (src := ⟨intsL xs, []⟩) (fun d => match d with | .int x => .int (g x) | d => d) hi rfl (fun d hd => by
    obtain ⟨x, hx, rfl⟩ := List.mem_map.mp hd
    simp only [wipeE, evG_1, bind_ok, hb x hx])
  simpa [Function.comp_def] using this
theorem lc_ft {c : Cfg} {elt it tst : IE} {i : Nat} {env : Env} {st : Store} {xs : List Int} (p : Int → Bool) (g : Int → D) (hi : evI c it env st = .ok ⟨intsL xs, []⟩ st)
    (ht : ∀ x ∈ xs, evT c tst ((env.set i none).set i (some (.int x))) st = .ok (p x) st)
    (hb : ∀ x ∈ xs, p x = true → evE c elt ((env.set i none).set i (some (.int x))) st = .ok (g x) st) :
    evE c (.lc elt [i] (.v i) it [tst]) env st = .ok (.lst ((xs.filter p).map g)) st := by
  have := lc_if (c := c) (elt := elt) (it := it) (tst := tst) (i := i) (env := env) (st := st) (src := ⟨intsL xs, []⟩) (fun d => match d with | .int x => if p x = true then some (g x) else none | d => some d) hi rfl (fun d hd => by
    obtain ⟨x, hx, rfl⟩ := List.mem_map.mp hd
    by_cases q : p x = true
    · simp only [ht x hx, bind_ok, if_pos q, hb x hx q]
    · simp only [ht x hx, bind_ok, if_neg q])
  rw [this]
  congr 2
  clear hi ht hb this
  induction xs with
  | nil => rfl
  | cons x r ih =>
    simp only [intsL] at ih ⊢
    by_cases q : p x = true
    · simp [q, ih]
    · simp [q, ih]
theorem fdivI {k o : Int} (h1 : 1 ≤ o) (h2 : o ≤ 1000) : binI .fdiv k o = some (k / o) := by
  have p : 0 < o := by omega
  have q : o.natAbs.log2 < 9000 := by
    have h1 : o.natAbs < 2 ^ 10 := by omega
    have := (Nat.log2_lt (by omega)).mpr h1
    omega
  simp [binI, p, q]
/-- a for loop that gives back or goes on; the store stays -/
theorem forL_find {α : Type} {P : Env → Prop} {st : Store} {body : D → Env → Store → RSt} (f : α → D) (h : α → Option D) : ∀ (l : List α)
    (hn : ∀ a ∈ l, ∀ env, P env → h a = none → ∃ env', body (f a) env st = .next env' st ∧ P env') (hr : ∀ a ∈ l, ∀ env d, P env → h a = some d → body (f a) env st = .ret d st)
    (env : Env), P env → match l.findSome? h with
      | some d => forL [] body (l.map f) env st = .ret d st
      | none => ∃ env', forL [] body (l.map f) env st = .next env' st ∧ P env'
  | [], hn, hr, env, p => ⟨env, by simp [forL], p⟩
  | a :: l, hn, hr, env, p => by
    cases e : h a with
    | some d =>
      rw [List.findSome?_cons, e]
      show forL [] body ((a :: l).map f) env st = .ret d st
      simp only [List.map_cons, forL, guards_nil, if_true, hr a (by simp) env d p e]
    | none =>
      rw [List.findSome?_cons, e]
      obtain ⟨env1, e1, p1⟩ := hn a (by simp) env p e
      have ih := forL_find f h l (fun a ha => hn a (by simp [ha])) (fun a ha => hr a (by simp [ha])) env1 p1
      show match l.findSome? h with
        | some d => forL [] body ((a :: l).map f) env st = .ret d st
        | none => ∃ env', forL [] body ((a :: l).map f) env st = .next env' st ∧ P env'
      cases e2 : l.findSome? h with
      | some d =>
        rw [e2] at ih
        show forL [] body ((a :: l).map f) env st = .ret d st
        simp only [List.map_cons, forL, guards_nil, if_true, e1]
        exact ih
      | none =>
        rw [e2] at ih
        obtain ⟨env2, e3, p2⟩ := ih
        refine ⟨env2, ?_, p2⟩
        simp only [List.map_cons, forL, guards_nil, if_true, e1]
        exact e3
def natR (a b : Nat) : List Nat := (List.range (b - a)).map fun m => a + m
theorem natR_mem {a b k : Nat} (h : k ∈ natR a b) : a ≤ k ∧ k < b := by
  obtain ⟨m, hm, rfl⟩ := List.mem_map.mp h
  have := List.mem_range.mp hm
  omega
theorem rngN (a b : Nat) (ha : a ≤ 1000) (hb : b ≤ 1000) : rngOf [.int (a : Int), .int (b : Int)] = some ⟨(natR a b).map (fun k : Nat => D.int k), []⟩ := by
  rw [rng2 a b ha hb]
  simp [natR, Function.comp_def]
theorem all_range {n : Nat} {p : Nat → Bool} (h : (List.range n).all p = true) {k : Nat} (hk : k < n) : p k = true := List.all_eq_true.mp h k (List.mem_range.mpr hk)
theorem set_ne {env : Env} {i j : Nat} {d x : Option D} (h : env[i]? = some d) (n : j ≠ i) : (env.set j x)[i]? = some d := by rw [List.getElem?_set_ne n, h]
theorem set_eq {env : Env} {i : Nat} {x : Option D} (h : i < env.length) : (env.set i x)[i]? = some x := by rw [List.getElem?_set_self h]
theorem stepLs {c : Cfg} : ∀ (ss : List IS) {r : List IS} {env env' : Env} {st st' : Store} {x : RSt}, evSs c ss env st = .next env' st' → evSs c r env' st' = x → evSs c (ss ++ r) env st = x
  | [], r, env, env', st, st', x, h, k => by
    simp only [evSs] at h
    cases h
    exact k
  | s :: ss, r, env, env', st, st', x, h, k => by
    simp only [List.cons_append, evSs_cons] at h ⊢
    cases e : evS c s env st with
    | next env1 st1 =>
      rw [e] at h
      simp only [seq_next] at h ⊢
      exact stepLs ss h k
    | _ => rw [e] at h; simp [RSt.seq] at h
theorem forR {c : Cfg} {t it : IE} {b : List IS} {env : Env} {st st' : Store} {src : Src} {d : D} (hi : evI c it env st = .ok src st) (hl : forL src.gs (fun d env st => (evG c t d env st).st env fun env st => evSs c b env st) src.ds env st = .ret d st') :
    evS c (.for t it b) env st = .ret d st' := by
  simp only [evS, hi, st_ok, hl]
/-- an edge's datum -/
abbrev ED (x y : Int) : D := .tup [.int x, .int y]
theorem ED_len (x y : Int) (st : Store) : lenD st (ED x y) = some 2 := rfl
theorem ED_0 (x y : Int) (st : Store) : ixD (ED x y) (.int 0) st = .ok (.int x) st := rfl
theorem ED_1 (x y : Int) (st : Store) : ixD (ED x y) (.int 1) st = .ok (.int y) st := rfl
/-! ### greatest common divisors -/
theorem bezN : ∀ a b : Nat, ∃ u v : Int, u * a + v * b = (Nat.gcd a b : Nat) := fun a b => by
  induction a, b using Nat.gcd.induction with
  | H0 n => exact ⟨0, 1, by simp⟩
  | H1 m n h ih =>
    obtain ⟨u, v, e⟩ := ih
    refine ⟨v - u * ((n / m : Nat) : Int), u, ?_⟩
    rw [Nat.gcd_rec m n, ← e]
    have hd : ((n % m : Nat) : Int) = (n : Int) - m * ((n / m : Nat) : Int) := by
      have := Nat.div_add_mod n m
      have h2 : ((m * (n / m) + n % m : Nat) : Int) = (n : Int) := by rw [this]
      rw [Int.natCast_add, Int.natCast_mul] at h2
      omega
    rw [hd]
    grind
theorem bez (a b : Int) : ∃ u v : Int, u * a + v * b = (Int.gcd a b : Nat) := by
  obtain ⟨u, v, e⟩ := bezN a.natAbs b.natAbs
  have ha : (a.natAbs : Int) = a ∨ (a.natAbs : Int) = -a := by omega
  have hb : (b.natAbs : Int) = b ∨ (b.natAbs : Int) = -b := by omega
  have g : (Int.gcd a b : Nat) = Nat.gcd a.natAbs b.natAbs := rfl
  rw [g, ← e]
  rcases ha with h1 | h1 <;> rcases hb with h2 | h2 <;> rw [h1, h2]
  · exact ⟨u, v, rfl⟩
  · exact ⟨u, -v, by grind⟩
  · exact ⟨-u, v, by grind⟩
  · exact ⟨-u, -v, by grind⟩
def gcT (s : Int × Int) : Option (Int × Int) := (binI .mod s.1 s.2).map fun m => (s.2, m)
theorem fmod_facts {a b : Int} (hb : b ≠ 0) : ∃ m, binI .mod a b = some m ∧ m.natAbs < b.natAbs ∧ Int.gcd b m = Int.gcd a b ∧ (0 ≤ b → 0 ≤ m) := by
  by_cases h : 0 < b
  · refine ⟨a % b, by simp [binI, h], ?_, ?_, fun _ => Int.emod_nonneg _ hb⟩
    · have := Int.emod_nonneg a hb
      have := Int.emod_lt_of_pos a h
      omega
    · rw [Int.emod_def, Int.mul_comm, Int.gcd_sub_mul_right_right, Int.gcd_comm]
  · have h2 : b < 0 := by omega
    refine ⟨a.fmod b, by simp [binI, h, h2], ?_, ?_, fun z => by omega⟩
    · have e : a.fmod b = -((-a) % (-b)) := by
        have := Int.neg_fmod_neg (a := -a) (b := -b)
        rw [Int.neg_neg, Int.neg_neg] at this
        rw [this, Int.fmod_eq_emod_of_nonneg _ (by omega)]
      have h3 := Int.emod_nonneg (-a) (show -b ≠ 0 by omega)
      have h4 := Int.emod_lt_of_pos (-a) (show 0 < -b by omega)
      omega
    · rw [Int.fmod_def, Int.mul_comm, Int.gcd_sub_mul_right_right, Int.gcd_comm]
theorem gc_loop : ∀ (n : Nat) (a b : Int), b.natAbs < n → ∃ x, loopW (fun s : Int × Int => some (decide (s.2 ≠ 0))) gcT n (a, b) = some (x, 0) ∧ x.natAbs = Int.gcd a b ∧ ((0 ≤ a ∧ 0 ≤ b) → 0 ≤ x)
  | 0, a, b, h => by omega
  | n + 1, a, b, h => by
    by_cases q : b = 0
    · subst q
      refine ⟨a, by simp [loopW], by simp [Int.gcd], fun h => h.1⟩
    · obtain ⟨m, e, h1, h2, h3⟩ := fmod_facts (a := a) q
      obtain ⟨x, e2, h4, h5⟩ := gc_loop n b m (by omega)
      refine ⟨x, ?_, by rw [h4, h2], fun h => h5 ⟨h.2, h3 h.2⟩⟩
      simp only [loopW, ne_eq, q, not_false_eq_true, decide_true, gcT, e, Option.map_some]
      exact e2
section
variable (L : Nat) (st : Store)
theorem g20 {a b : Int} (h : b.natAbs < 1000000) : CL (L + 1) 20 [.int a, .int b] st = .ok (.int (Int.gcd a b : Nat)) st := by
  show runF (C L) f20 _ _ = _
  obtain ⟨x, e, hx, _⟩ := gc_loop FU a b (by unfold FU; omega)
  obtain ⟨env', st', e, rfl, rfl⟩ := whileL_sim (c := evT (C L) (.cmp .ne (.v 1) (.int 0))) (body := evSs (C L) [.par [0, 1] [(.v 1), (.bin .mod (.v 0) (.v 1))]])
    (P := fun s env st' => env = [some (.int s.1), some (.int s.2)] ∧ st' = st) (fun s : Int × Int => some (decide (s.2 ≠ 0))) gcT
    (fun s env st' b ⟨e1, e2⟩ hc => by
      cases hc
      subst e1 e2
      simp [cmpD])
    (fun s t env st' ⟨e1, e2⟩ hc ht => by
      subst e1 e2
      unfold gcT at ht
      rw [Option.map_eq_some_iff] at ht
      obtain ⟨m, hm, rfl⟩ := ht
      exact ⟨_, _, .inl (by simp [binD, binInt, hm]), rfl, rfl⟩) FU (a, b) _ [some (.int a), some (.int b)] st ⟨rfl, rfl⟩ e
  have ab : absD (.int x) = some (Int.gcd a b : Nat) := by
    rw [← hx]
    show some (if x < 0 then -x else x) = some (x.natAbs : Int)
    by_cases q : x < 0
    · rw [if_pos q]; congr 1; omega
    · rw [if_neg q]; congr 1; omega
  have r : evSs (C L) f20.ir (startE f20.N [.int a, .int b]) st' = .ret (.int (Int.gcd a b : Nat)) st' :=
    step (whileS e) (stepR (by simp [biD, biD1, ab]))
  rw [runF_ret r]
  exact finD_pure rfl
theorem g9 {a b : Int} (h : b.natAbs < 1900000) : CL (L + 1) 9 [.int a, .int b] st = .ok (.int (Int.gcd a b : Nat)) st := by
  show runF (C L) f9 _ _ = _
  obtain ⟨x, e, hx, hp⟩ := gc_loop FU a.natAbs b.natAbs (by unfold FU; omega)
  have hp := hp ⟨by omega, by omega⟩
  have hg : x = (Int.gcd a b : Nat) := by
    have : Int.gcd (a.natAbs : Int) (b.natAbs : Int) = Int.gcd a b := by simp [Int.gcd]
    omega
  subst hg
  obtain ⟨env', st', e, ⟨rfl, _⟩, rfl⟩ := whileL_sim (c := evT (C L) (.cmp .gt (.v 3) (.int 0))) (body := evSs (C L) [.par [2, 3] [(.v 3), (.bin .mod (.v 2) (.v 3))]])
    (P := fun s env st' => (env = [some (.int a), some (.int b), some (.int s.1), some (.int s.2)] ∧ 0 ≤ s.2) ∧ st' = st) (fun s : Int × Int => some (decide (s.2 ≠ 0))) gcT
    (fun s env st' b ⟨⟨e1, e3⟩, e2⟩ hc => by
      cases hc
      subst e1 e2
      have : decide (0 < s.2) = decide (s.2 ≠ 0) := by
        by_cases q : s.2 = 0
        · simp [q]
        · have : 0 < s.2 := by omega
          simp [q, this]
      simp only [evT_4, evE_5, evE_3, List.getElem?_cons_succ, List.getElem?_cons_zero, Option.join_some, ofO_some, bind_ok, cmpD, cmpI, this])
    (fun s t env st' ⟨⟨e1, e3⟩, e2⟩ hc ht => by
      subst e1 e2
      have q : s.2 ≠ 0 := by simpa using hc
      obtain ⟨m', hm', _, _, h0⟩ := fmod_facts (a := s.1) q
      unfold gcT at ht
      rw [Option.map_eq_some_iff] at ht
      obtain ⟨m, hm, rfl⟩ := ht
      rw [hm'] at hm
      cases hm
      exact ⟨_, _, .inl (by simp [binD, binInt, hm']), ⟨rfl, h0 e3⟩, rfl⟩) FU _ _ [some (.int a), some (.int b), some (.int a.natAbs), some (.int b.natAbs)] st ⟨⟨rfl, by simp⟩, rfl⟩ e
  have ab : absD (.int a) = some (a.natAbs : Int) := by
    simp only [absD, Option.some.injEq]
    split <;> omega
  have bb : absD (.int b) = some (b.natAbs : Int) := by
    simp only [absD, Option.some.injEq]
    split <;> omega
  have r : evSs (C L) f9.ir (startE f9.N [.int a, .int b]) st' = .ret (.int (Int.gcd a b : Nat)) st' :=
    step (env' := [some (.int a), some (.int b), some (.int a.natAbs), some (.int b.natAbs)]) (by
      simp only [startE, evS_3, evAs_1, evAs_2, evE_22, evE_5]
      simp [startE, f9, biD, biD1, ab, bb]) (step (whileS e) (stepR (by simp)))
  rw [runF_ret r]
  exact finD_pure rfl
end
end Law

set_option Elab.async false
set_option linter.all false
set_option maxRecDepth 100000
set_option autoImplicit false
namespace Law
open PySem.Spec Ev
/-- is it an edge? -/
def Vd (x y : Int) : Prop := (y = 0 ∧ x = 1) ∨ (0 < y ∧ Int.gcd x y = 1)
def Bd (a : Int) : Prop := -1000000 ≤ a ∧ a ≤ 1000000
theorem Vd.nn {x y : Int} (h : Vd x y) : 0 ≤ y := by rcases h with ⟨h, _⟩ | ⟨h, _⟩ <;> omega
theorem Vd.g {x y : Int} (h : Vd x y) : Int.gcd x y = 1 := by
  rcases h with ⟨rfl, rfl⟩ | ⟨_, h⟩
  · rfl
  · exact h
section
variable (L : Nat) (st : Store)
theorem s5 (x : Int) : CL (L + 1) 5 [.int x] st = .ok (.bl true) st := by
  show runF (C L) f5 _ _ = _
  simp [runF_eq, f5, startE, isiD, tyN, tyB, Ty.n, truD]
  rw [finD_pure (by rfl)]
theorem s6 (x a b : Int) : CL (L + 2) 6 [.int x, .int a, .int b] st = .ok (.bl (decide (a ≤ x ∧ x ≤ b))) st := by
  show runF (C (L + 1)) f6 _ _ = _
  simp [runF_eq, f6, startE, s5, truD, cmpD, cmpI]
  by_cases h : a ≤ x
  · simp [h]
    rw [finD_pure (by rfl)]
  · simp [h]
    rw [finD_pure (by rfl)]
theorem s7_ok (x a b : Int) (h : a ≤ x ∧ x ≤ b) : CL (L + 3) 7 [.int x, .int a, .int b] st = .ok (.int x) st := by
  show runF (C (L + 2)) f7 _ _ = _
  simp [runF_eq, f7, startE, s6, truD, h]
  rw [finD_pure (by rfl)]
theorem s8 (x : Int) (h : 1 ≤ x ∧ x ≤ 1000) : CL (L + 4) 8 [.int x] st = .ok (.int x) st := by
  show runF (C (L + 3)) f8 _ _ = _
  simp [runF_eq, f8, startE, gg, s7_ok L st x 1 1000 h]
  rw [finD_pure (by rfl)]
theorem tp_int (x : Int) : CL (L + 1) 14 [.int x] st = .ok (.int x) st := by
  show runF (C L) f14 _ _ = _
  simp [runF_eq, f14, startE, isiD, tyN, tyB, Ty.n]
  rw [finD_pure (by rfl)]
theorem tp_ed (x y : Int) : CL (L + 2) 14 [ED x y] st = .ok (ED x y) st := by
  show runF (C (L + 1)) f14 _ _ = _
  have h := lc_map (c := C (L + 1)) (elt := .call 14 [(.v 1)]) (tg := .v 1) (it := .walk (.v 0)) (own := [1]) (env := [some (ED x y), none]) (st := st) (src := ⟨[.int x, .int y], []⟩) id (by simp [srcOf, items]) rfl (fun d hd => by
    rcases List.mem_cons.mp hd with rfl | hd
    · simp [wipeE, tp_int]
    · rcases List.mem_cons.mp hd with rfl | hd
      · simp [wipeE, tp_int]
      · cases hd)
  rw [List.map_id] at h
  simp [runF_eq, f14, startE, isiD, tyN, tyB, Ty.n, biD, biD1, items, h]
  rw [finD_pure (by rfl)]
/-- a table -/
abbrev TD (a b c d : Int) : D := .tup [ED a b, ED c d]
theorem tp_td (a b c d : Int) : CL (L + 3) 14 [TD a b c d] st = .ok (TD a b c d) st := by
  show runF (C (L + 2)) f14 _ _ = _
  have h := lc_map (c := C (L + 2)) (elt := .call 14 [(.v 1)]) (tg := .v 1) (it := .walk (.v 0)) (own := [1]) (env := [some (TD a b c d), none]) (st := st) (src := ⟨[ED a b, ED c d], []⟩) id (by simp [srcOf, items]) rfl (fun e hd => by
    rcases List.mem_cons.mp hd with rfl | hd
    · simp [wipeE, tp_ed]
    · rcases List.mem_cons.mp hd with rfl | hd
      · simp [wipeE, tp_ed]
      · cases hd)
  rw [List.map_id] at h
  simp [runF_eq, f14, startE, isiD, tyN, tyB, Ty.n, biD, biD1, items, h]
  rw [finD_pure (by rfl)]
theorem lg_ed (p q : D) : CL (L + 1) 15 [.tup [p, q], .int 2] st = .ok (.bl true) st := by
  show runF (C L) f15 _ _ = _
  simp [runF_eq, f15, startE, isiD, tyN, tyB, Ty.n, truD, biD, biD1, lenD, items, cmpD]
  rw [finD_pure (by rfl)]
theorem deq_ed (x y a b : Int) : deq st (ED x y) (ED a b) = some (decide (x = a) && decide (y = b)) := by
  simp only [deq, flat1, pd, pds, PySem.PyData.eqv, PySem.PyData.eqvAll, Option.map_some]
  by_cases h1 : x = a <;> by_cases h2 : y = b <;> simp [h1, h2]
theorem s16 {x y : Int} (hv : Vd x y) (hx : Bd x) (hy : Bd y) : CL (L + 3) 16 [ED x y] st = .ok (.bl true) st := by
  show runF (C (L + 2)) f16 _ _ = _
  have h := lc_map (c := C (L + 2)) (elt := .call 6 [(.v 1), (.neg (.gl 2)), (.gl 2)]) (tg := .v 1) (it := .walk (.v 0)) (own := [1]) (env := [some (ED x y), none]) (st := st) (src := ⟨[.int x, .int y], []⟩) (fun _ => .bl true) (by simp [srcOf, items]) rfl (fun d hd => by
    rcases List.mem_cons.mp hd with rfl | hd
    · simp [wipeE, gg, negD, s6]
      exact hx
    · rcases List.mem_cons.mp hd with rfl | hd
      · simp [wipeE, gg, negD, s6]
        exact hy
      · cases hd)
  have g := g9 (L + 1) st (a := x) (b := y) (by unfold Bd at hy; omega)
  have t1 : evS (C (L + 2)) (.ife (.or [(.nt (.call 15 [(.v 0), (.int 2)])), (.nt (.bi .all [(.lc (.call 6 [(.v 1), (.neg (.gl 2)), (.gl 2)]) [1] (.v 1) (.walk (.v 0)) [])]))]) [.ret (.bl false)] []) [some (ED x y), none] st = .next [some (ED x y), none] st := by
    simp [lg_ed, truD, h, biD, biD1, boolsOf, listItems, items, boolsD]
  have t2 : evS (C (L + 2)) (.ret (.or [(.cmp .eq (.v 0) (.gl 1)), (.and [(.cmp .gt (.ix (.v 0) (.int 1)) (.int 0)), (.cmp .eq (.call 9 [(.ix (.v 0) (.int 0)), (.ix (.v 0) (.int 1))]) (.int 1))])])) [some (ED x y), none] st = .ret (.bl true) st := by
    have dq : deq st (ED x y) (.tup [.int 1, .int 0]) = some (decide (x = 1) && decide (y = 0)) := deq_ed st x y 1 0
    rcases hv with ⟨rfl, rfl⟩ | ⟨h0, h1⟩
    · simp [gg, cmpD, dq, truD]
    · have ny : decide (y = 0) = false := decide_eq_false (by omega)
      have py : cmpI .gt y 0 = some true := by simp [cmpI, h0]
      rw [h1] at g
      simp [gg, dq, ny, truD, ED_0, ED_1, cmpD, py, g]
  have r : evSs (C (L + 2)) f16.ir (startE f16.N [ED x y]) st = .ret (.bl true) st := step t1 (stepR t2)
  rw [runF_ret r]
  exact finD_pure rfl
theorem s17 {x y : Int} (hv : Vd x y) (hx : Bd x) (hy : Bd y) : CL (L + 4) 17 [ED x y] st = .ok (ED x y) st := by
  show runF (C (L + 3)) f17 _ _ = _
  simp [runF_eq, f17, startE, tp_ed, s16 L st hv hx hy, truD]
  rw [finD_pure (by rfl)]
theorem s29 {x y : Int} (hv : Vd x y) (hx : Bd x) (hy : Bd y) : CL (L + 4) 29 [ED x y] st = .ok (.bl true) st := by
  show runF (C (L + 3)) f29 _ _ = _
  simp [runF_eq, f29, startE, s16 L st hv hx hy]
  rw [finD_pure (by rfl)]
end
end Law

set_option Elab.async false
set_option linter.all false
set_option maxRecDepth 100000
set_option autoImplicit false
namespace Law
open PySem.Spec Ev
theorem fdivB {k o : Int} (h1 : 1 ≤ o) (h2 : o ≤ 1000000) : binI .fdiv k o = some (k / o) := by
  have p : 0 < o := by omega
  have q : o.natAbs.log2 < 9000 := by
    have h1 : o.natAbs < 2 ^ 20 := by omega
    have := (Nat.log2_lt (by omega)).mpr h1
    omega
  simp [binI, p, q]
theorem mulS {a b : Int} (h : -2000000 ≤ a ∧ a ≤ 2000000) : binI .mul a b = some (a * b) := by
  have : small a = true := by simp only [small, Bool.and_eq_true, decide_eq_true_eq]; omega
  simp only [binI, this, Bool.true_or, if_true]
theorem div_bd {a b : Int} (hb : 1 ≤ b) (h : -1000000 ≤ a ∧ a ≤ 1000000) : -1000000 ≤ a / b ∧ a / b ≤ 1000000 := by
  refine ⟨(Int.le_ediv_iff_mul_le (by omega)).mpr (by omega), ?_⟩
  have : a / b < 1000001 := Int.ediv_lt_of_lt_mul (by omega) (by omega)
  omega
/-! ### back_by -/
def bkT (s : Int × Int × Int × Int) : Option (Int × Int × Int × Int) := match binI .fdiv s.1 s.2.1 with
  | some t => match binI .mul t s.2.1, binI .mul t s.2.2.2 with
    | some m1, some m2 => some (s.2.1, s.1 - m1, s.2.2.2, s.2.2.1 - m2)
    | _, _ => none
  | none => none
abbrev bkC : Int × Int × Int × Int → Option Bool := fun s => some (decide (0 < s.2.1))
theorem bk_loop (x y : Int) : ∀ (n : Nat) (a b c d k1 k2 : Int), 0 ≤ a ∧ a ≤ 1000000 → 0 ≤ b ∧ b ≤ 1000000 → c * x = a + k1 * y → d * x = b + k2 * y → b.natAbs < n →
    ∃ a' c' d' k, loopW bkC bkT n (a, b, c, d) = some (a', 0, c', d') ∧ a' = (Int.gcd a b : Nat) ∧ c' * x = a' + k * y
  | 0, a, b, c, d, k1, k2, _, _, _, _, h => by omega
  | n + 1, a, b, c, d, k1, k2, ha, hb, e1, e2, h => by
    by_cases q : b = 0
    · subst q
      exact ⟨a, c, d, k1, by simp [loopW, bkC], by simp [Int.gcd]; omega, e1⟩
    · have f := fdivB (k := a) (o := b) (by omega) hb.2
      have bd := div_bd (a := a) (b := b) (by omega) ⟨by omega, ha.2⟩
      have m1 := mulS (a := a / b) (b := b) ⟨by omega, by omega⟩
      have m2 := mulS (a := a / b) (b := d) ⟨by omega, by omega⟩
      have r : a - a / b * b = a % b := by rw [Int.emod_def, Int.mul_comm]
      have r0 := Int.emod_nonneg a q
      have r1 := Int.emod_lt_of_pos a (show 0 < b by omega)
      obtain ⟨a', c', d', k, e, g, w⟩ := bk_loop x y n b (a - a / b * b) d (c - a / b * d) k2 (k1 - a / b * k2) hb ⟨by omega, by omega⟩ e2 (by grind) (by omega)
      refine ⟨a', c', d', k, ?_, ?_, w⟩
      · have p : decide (0 < b) = true := decide_eq_true (by omega)
        simp only [loopW, bkC, p, bkT, f, m1, m2]
        exact e
      · rw [g, r, Int.emod_def, Int.mul_comm, Int.gcd_sub_mul_right_right, Int.gcd_comm]
def bkV (x y : Int) : Int := ((loopW bkC bkT FU (x % y, y, 1, 0)).map fun s => s.2.2.1 % y).getD 0
theorem bkV_ok {x y : Int} (hy : 1 ≤ y ∧ y ≤ 1000000) (hg : Int.gcd x y = 1) : ∃ s, loopW bkC bkT FU (x % y, y, 1, 0) = some s ∧ s.2.2.1 % y = bkV x y ∧ (∃ k, bkV x y * x + k * y = 1) ∧ 0 ≤ bkV x y ∧ bkV x y < y := by
  have r0 := Int.emod_nonneg x (show y ≠ 0 by omega)
  have r1 := Int.emod_lt_of_pos x (show 0 < y by omega)
  obtain ⟨a', c', d', k, e, g, w⟩ := bk_loop x y FU (x % y) y 1 0 (x / y) (-1) ⟨r0, by omega⟩ ⟨by omega, hy.2⟩ (by rw [Int.one_mul, Int.mul_comm, Int.emod_add_mul_ediv]) (by omega) (by unfold FU; omega)
  have ga : a' = 1 := by
    rw [g]
    have : Int.gcd (x % y) y = Int.gcd x y := by
      rw [Int.gcd_comm, Int.emod_def, Int.mul_comm, Int.gcd_sub_mul_right_right, Int.gcd_comm]
    rw [this, hg]
    rfl
  have bv : bkV x y = c' % y := by
    unfold bkV
    rw [e]
    rfl
  refine ⟨_, e, bv.symm, ?_, ?_⟩
  · rw [bv, Int.emod_def]
    refine ⟨-k + c' / y * x, ?_⟩
    rw [ga] at w
    grind
  · rw [bv]
    exact ⟨Int.emod_nonneg _ (by omega), Int.emod_lt_of_pos _ (by omega)⟩
section
variable (L : Nat) (st : Store)
theorem s10 {x y : Int} (hy : 1 ≤ y ∧ y ≤ 1000000) (hg : Int.gcd x y = 1) : CL (L + 1) 10 [.int x, .int y] st = .ok (.int (bkV x y)) st := by
  show runF (C L) f10 _ _ = _
  obtain ⟨s, e, hv, _⟩ := bkV_ok hy hg
  obtain ⟨env', st', e, ⟨z, rfl⟩, rfl⟩ := whileL_sim (c := evT (C L) (.cmp .gt (.v 3) (.int 0))) (body := evSs (C L) [.asg (.v 6) (.bin .fdiv (.v 2) (.v 3)), .asg (.tup [(.v 2), (.v 3), (.v 4), (.v 5)]) (.tup [(.v 3), (.bin .sub (.v 2) (.bin .mul (.v 6) (.v 3))), (.v 5), (.bin .sub (.v 4) (.bin .mul (.v 6) (.v 5)))])])
    (P := fun s env st' => (∃ z, env = [some (.int x), some (.int y), some (.int s.1), some (.int s.2.1), some (.int s.2.2.1), some (.int s.2.2.2), z]) ∧ st' = st) bkC bkT
    (fun s env st' b ⟨⟨z, e1⟩, e2⟩ hc => by
      cases hc
      subst e1 e2
      simp [cmpD, cmpI])
    (fun s t env st' ⟨⟨z, e1⟩, e2⟩ hc ht => by
      subst e1 e2
      unfold bkT at ht
      split at ht
      · rename_i t' ht'
        split at ht
        · rename_i m1 m2 h1 h2
          cases ht
          have q1 : ∀ a b : Int, binI .sub a b = some (a - b) := fun _ _ => rfl
          exact ⟨[some (.int x), some (.int y), some (.int s.2.1), some (.int (s.1 - m1)), some (.int s.2.2.2), some (.int (s.2.2.1 - m2)), some (.int t')], st', .inl (by simp [binD, binInt, ht', h1, h2, q1, seqOf]), ⟨_, rfl⟩, rfl⟩
        · cases ht
      · cases ht) FU (x % y, y, 1, 0) s [some (.int x), some (.int y), some (.int (x % y)), some (.int y), some (.int 1), some (.int 0), none] st ⟨⟨_, rfl⟩, rfl⟩ e
  have m0 : binI .mod x y = some (x % y) := mod_pos (by omega)
  have m1 : binI .mod s.2.2.1 y = some (bkV x y) := by rw [mod_pos (by omega), hv]
  have r : evSs (C L) f10.ir (startE f10.N [.int x, .int y]) st' = .ret (.int (bkV x y)) st' :=
    step (by simp [startE, f10, binD, binInt, m0, seqOf]) (step (whileS e) (stepR (by simp [binD, binInt, m1])))
  rw [runF_ret r]
  exact finD_pure rfl
end
/-! ### _law_to_end -/
def teT (s : Int × Int × Int × Int × Int × Int) : Option (Int × Int × Int × Int × Int × Int) := match binI .fdiv s.1 s.2.1 with
  | some t => match binI .mul t s.2.1, binI .mul t s.2.2.2.2.1, binI .mul t s.2.2.2.2.2 with
    | some m, some m0, some m1 => some (s.2.1, s.1 - m, s.2.2.2.2.1, s.2.2.2.2.2, s.2.2.1 - m0, s.2.2.2.1 - m1)
    | _, _, _ => none
  | none => none
abbrev teC : Int × Int × Int × Int × Int × Int → Option Bool := fun s => some (decide (s.2.1 ≠ 0))
theorem te_loop (x y : Int) : ∀ (n : Nat) (a b c d e f : Int), -1000000 ≤ a ∧ a ≤ 1000000 → 0 ≤ b ∧ b ≤ 1000000 → c * x + d * y = a → e * x + f * y = b → b.natAbs < n →
    ∃ a' c' d' e' f', loopW teC teT n (a, b, c, d, e, f) = some (a', 0, c', d', e', f') ∧ a'.natAbs = Int.gcd a b ∧ c' * x + d' * y = a'
  | 0, a, b, c, d, e, f, _, _, _, _, h => by omega
  | n + 1, a, b, c, d, e, f, ha, hb, e1, e2, h => by
    by_cases q : b = 0
    · subst q
      exact ⟨a, c, d, e, f, by simp [loopW, teC], by simp [Int.gcd], e1⟩
    · have fd := fdivB (k := a) (o := b) (by omega) hb.2
      have bd := div_bd (a := a) (b := b) (by omega) ha
      have m := mulS (a := a / b) (b := b) ⟨by omega, by omega⟩
      have m1 := mulS (a := a / b) (b := e) ⟨by omega, by omega⟩
      have m2 := mulS (a := a / b) (b := f) ⟨by omega, by omega⟩
      have r : a - a / b * b = a % b := by rw [Int.emod_def, Int.mul_comm]
      have r0 := Int.emod_nonneg a q
      have r1 := Int.emod_lt_of_pos a (show 0 < b by omega)
      obtain ⟨a', c', d', e', f', h1, h2, h3⟩ := te_loop x y n b (a - a / b * b) e f (c - a / b * e) (d - a / b * f) ⟨by omega, by omega⟩ ⟨by omega, by omega⟩ e2 (by grind) (by omega)
      refine ⟨a', c', d', e', f', ?_, ?_, h3⟩
      · simp only [loopW, teC, ne_eq, q, not_false_eq_true, decide_true, teT, fd, m, m1, m2]
        exact h1
      · rw [h2, r, Int.emod_def, Int.mul_comm, Int.gcd_sub_mul_right_right, Int.gcd_comm]
section
variable (L : Nat) (st : Store)
/-- a table that leads the end to an edge -/
theorem s3 {x y : Int} (hv : Vd x y) (hx : Bd x) (hy : Bd y) : ∃ p q : Int, p * x + q * y = 1 ∧ ∀ (L : Nat) (st : Store), CL (L + 1) 3 [ED x y] st = .ok (TD x (-q) y p) st := by
  have hn := hv.nn
  unfold Bd at hx hy
  obtain ⟨a', c', d', e', f', e0, h2, h3⟩ := te_loop x y FU x y 1 0 0 1 hx ⟨hn, hy.2⟩ (by omega) (by omega) (by unfold FU; omega)
  rw [hv.g] at h2
  obtain ⟨sg, hs⟩ : ∃ sg : Int, sg = if 0 < a' then 1 else -1 := ⟨_, rfl⟩
  have hs2 : sg * a' = 1 := by
    rw [hs]
    split <;> omega
  have sb : -2000000 ≤ sg ∧ sg ≤ 2000000 := by
    rw [hs]
    split <;> decide
  refine ⟨sg * c', sg * d', by grind, fun L st => ?_⟩
  show runF (C L) f3 _ _ = _
  obtain ⟨env', st', e, ⟨z, rfl⟩, rfl⟩ := whileL_sim (c := evT (C L) (.cmp .ne (.v 7) (.int 0))) (body := evSs (C L) [.asg (.v 8) (.bin .fdiv (.v 6) (.v 7)), .asg (.tup [(.v 6), (.v 7), (.v 4), (.v 5)]) (.tup [(.v 7), (.bin .sub (.v 6) (.bin .mul (.v 8) (.v 7))), (.v 5), (.tup [(.bin .sub (.ix (.v 4) (.int 0)) (.bin .mul (.v 8) (.ix (.v 5) (.int 0)))), (.bin .sub (.ix (.v 4) (.int 1)) (.bin .mul (.v 8) (.ix (.v 5) (.int 1))))])])])
    (P := fun s env st' => (∃ z, env = [some (ED x y), none, some (.int x), some (.int y), some (ED s.2.2.1 s.2.2.2.1), some (ED s.2.2.2.2.1 s.2.2.2.2.2), some (.int s.1), some (.int s.2.1), z, none, none]) ∧ st' = st) teC teT
    (fun s env st' b ⟨⟨z, e1⟩, e2⟩ hc => by
      cases hc
      subst e1 e2
      simp [cmpD])
    (fun s t env st' ⟨⟨z, e1⟩, e2⟩ hc ht => by
      subst e1 e2
      unfold teT at ht
      split at ht
      · rename_i t' ht'
        split at ht
        · rename_i m m0 m1 h0 h1 h2
          cases ht
          have q1 : ∀ a b : Int, binI .sub a b = some (a - b) := fun _ _ => rfl
          exact ⟨[some (ED x y), none, some (.int x), some (.int y), some (ED s.2.2.2.2.1 s.2.2.2.2.2), some (ED (s.2.2.1 - m0) (s.2.2.2.1 - m1)), some (.int s.2.1), some (.int (s.1 - m)), some (.int t'), none, none], st', .inl (by simp [binD, binInt, ht', h0, h1, h2, q1, seqOf, ED_0, ED_1]), ⟨_, rfl⟩, rfl⟩
        · cases ht
      · cases ht) FU (x, y, 1, 0, 0, 1) _ [some (ED x y), none, some (.int x), some (.int y), some (ED 1 0), some (ED 0 1), some (.int x), some (.int y), none, none, none] st ⟨⟨_, rfl⟩, rfl⟩ e0
  have m1 := mulS (b := c') sb
  have m2 := mulS (b := d') sb
  have r : evSs (C L) f3.ir (startE f3.N [ED x y]) st' = .ret (TD x (-(sg * d')) y (sg * c')) st' := by
    refine step (st' := st') (env' := [some (ED x y), none, some (.int x), some (.int y), some (ED 1 0), some (ED 0 1), none, none, none, none, none]) (by simp [startE, f3, ED_0, ED_1, seqOf]) ?_
    refine step (st' := st') (env' := [some (ED x y), none, some (.int x), some (.int y), some (ED 1 0), some (ED 0 1), some (.int x), some (.int y), none, none, none]) (by simp) ?_
    refine step (whileS e) ?_
    refine step (st' := st') (env' := [some (ED x y), some (.int sg), some (.int x), some (.int y), some (ED c' d'), some (ED e' f'), some (.int a'), some (.int 0), z, none, none]) ?_ ?_
    · have : cmpD .gt (.int a') (.int 0) st' = some (decide (0 < a')) := rfl
      rw [hs]
      by_cases g : 0 < a'
      · simp [this, g]
      · simp [this, g, negD]
    · refine step (st' := st') (env' := [some (ED x y), some (.int sg), some (.int x), some (.int y), some (ED c' d'), some (ED e' f'), some (.int a'), some (.int 0), z, some (.int (sg * c')), some (.int (sg * d'))]) (by simp [ED_0, ED_1, binD, binInt, m1, m2]) (stepR (by simp [negD]))
  rw [runF_ret r]
  exact finD_pure rfl
end
end Law

set_option Elab.async false
set_option linter.all false
set_option maxRecDepth 100000
set_option autoImplicit false
namespace Law
open PySem.Spec Ev
theorem gpure : pureBs 60 gg = true := rfl
/-- what turns the upper number back -/
def nV (x y : Int) : Int := if 0 < y then bkV x y else 1
def SB (L : Nat) (x1 y1 x2 y2 : Int) : Bool := decide ((nV x1 y1 * y2 - nV x2 y2 * y1) % ((Int.gcd (y1 * y2) L : Nat) : Int) = 0)
theorem nV_ok {x y : Int} (hv : Vd x y) (hy : Bd y) : (∃ k, nV x y * x + k * y = 1) ∧ 0 ≤ nV x y ∧ nV x y ≤ 1000000 := by
  unfold nV
  unfold Bd at hy
  rcases hv with ⟨rfl, rfl⟩ | ⟨h0, h1⟩
  · exact ⟨⟨0, rfl⟩, by decide, by decide⟩
  · rw [if_pos h0]
    obtain ⟨_, _, _, h2, h3, h4⟩ := bkV_ok (x := x) ⟨by omega, hy.2⟩ h1
    exact ⟨h2, h3, by omega⟩
section
variable (L : Nat) (st : Store)
theorem s11 {m : Nat} {x1 y1 x2 y2 : Int} (hm : 1 ≤ m ∧ m ≤ 1000) (v1 : Vd x1 y1) (v2 : Vd x2 y2) (b1 : Bd y1) (b2 : Bd y2) : CL (L + 2) 11 [.int m, ED x1 y1, ED x2 y2] st = .ok (.bl (SB m x1 y1 x2 y2)) st := by
  show runF (C (L + 1)) f11 _ _ = _
  have near : ∀ {x y : Int} (v : Vd x y) (b : Bd y) (i : Nat) (env : Env), env[i]? = some (some (ED x y)) → evE (C (L + 1)) (.ife (.cmp .gt (.ix (.v i) (.int 1)) (.int 0)) (.call 10 [(.ix (.v i) (.int 0)), (.ix (.v i) (.int 1))]) (.int 1)) env st = .ok (.int (nV x y)) st := by
    intro x y v b i env he
    unfold Bd at b
    have c : cmpD .gt (.int y) (.int 0) st = some (decide (0 < y)) := rfl
    rcases v with ⟨rfl, rfl⟩ | ⟨h0, h1⟩
    · simp [he, ED_0, ED_1, c, nV]
    · have s := s10 L st (x := x) (y := y) ⟨by omega, b.2⟩ h1
      simp [he, ED_0, ED_1, c, nV, h0, s]
  obtain ⟨_, n1a, n1b⟩ := nV_ok v1 b1
  obtain ⟨_, n2a, n2b⟩ := nV_ok v2 b2
  have q1 := mulS (a := nV x1 y1) (b := y2) ⟨by omega, by omega⟩
  have q2 := mulS (a := nV x2 y2) (b := y1) ⟨by omega, by omega⟩
  have q3 := mulS (a := y1) (b := y2) ⟨by unfold Bd at b1; omega, by unfold Bd at b1; omega⟩
  have q4 : binI .sub (nV x1 y1 * y2) (nV x2 y2 * y1) = some (nV x1 y1 * y2 - nV x2 y2 * y1) := rfl
  have g := g9 L st (a := y1 * y2) (b := (m : Int)) (by omega)
  have gp : 0 < ((Int.gcd (y1 * y2) m : Nat) : Int) := by
    have := Int.gcd_pos_of_ne_zero_right (y1 * y2) (show (m : Int) ≠ 0 by omega)
    omega
  have q5 : binI .mod (nV x1 y1 * y2 - nV x2 y2 * y1) ((Int.gcd (y1 * y2) m : Nat) : Int) = _ := mod_pos gp
  have r : evSs (C (L + 1)) f11.ir (startE f11.N [.int m, ED x1 y1, ED x2 y2]) st = .ret (.bl (SB m x1 y1 x2 y2)) st := by
    refine step (env' := [some (.int m), some (ED x1 y1), some (ED x2 y2), some (.int (nV x1 y1)), none]) (st' := st) ?_ (step (env' := [some (.int m), some (ED x1 y1), some (ED x2 y2), some (.int (nV x1 y1)), some (.int (nV x2 y2))]) (st' := st) ?_ (stepR ?_))
    · rw [evS_1, near v1 b1 1 _ rfl]
      rfl
    · rw [evS_1, near v2 b2 2 _ rfl]
      rfl
    · simp [ED_0, ED_1, binD, binInt, q1, q2, q3, q4, g, q5, cmpD, SB]
  rw [runF_ret r]
  exact finD_pure rfl
theorem s30 {m : Nat} {x1 y1 x2 y2 : Int} (hm : 1 ≤ m ∧ m ≤ 1000) (v1 : Vd x1 y1) (v2 : Vd x2 y2) (a1 : Bd x1) (b1 : Bd y1) (a2 : Bd x2) (b2 : Bd y2) : CL (L + 5) 30 [.int m, ED x1 y1, ED x2 y2] st = .ok (.bl (SB m x1 y1 x2 y2)) st := by
  show runF (C (L + 4)) f30 _ _ = _
  simp [runF_eq, f30, startE, s8 L st (m : Int) (by omega), s17 L st v1 a1 b1, s17 L st v2 a2 b2, s11 (L + 2) st hm v1 v2 b1 b2]
  rw [finD_pure (by rfl)]
end
/-- the edge over a divisor: its upper number -/
def ebF (p k s : Nat) : Nat := (((List.range 61).map fun i => k + i * s).find? fun a => decide (Nat.gcd a p = 1)).getD 0
def ebC (p k s : Nat) : Bool := !(decide (p % s = 0) && decide (Nat.gcd k s = 1)) || (okO FF gg FU 2 noO 2 12 [.int (p : Nat), .int (k : Nat), .int (s : Nat)] (ED (ebF p k s : Nat) (p : Nat)) && (decide (Nat.gcd (ebF p k s) p = 1) && decide (ebF p k s ≤ 500)))
theorem fin_eb : ((List.range 61).all fun p => (List.range 8).all fun s => (List.range 8).all fun k => decide (s = 0 ∨ p = 0 ∨ k = 0 ∨ s < k) || ebC p k s) = true := by decide +kernel
theorem eb_ok {p k s : Nat} (hp : 1 ≤ p ∧ p ≤ 60) (hs : 1 ≤ s ∧ s ≤ 7) (hk : 1 ≤ k ∧ k ≤ s) (hd : p % s = 0) (hg : Nat.gcd k s = 1) : (∀ (L : Nat) (st : Store), CL (L + 2) 12 [.int p, .int k, .int s] st = .ok (ED (ebF p k s : Nat) (p : Nat)) st) ∧ Vd (ebF p k s : Nat) (p : Nat) ∧ Bd (ebF p k s : Nat) ∧ Bd (p : Nat) := by
  have e := all_range (all_range (all_range fin_eb (k := p) (by omega)) (k := s) (by omega)) (k := k) (by omega)
  rw [decide_eq_false (by omega), Bool.false_or] at e
  unfold ebC at e
  rw [decide_eq_true hd, decide_eq_true hg, Bool.and_self, Bool.not_true, Bool.false_or] at e
  simp only [Bool.and_eq_true, decide_eq_true_eq] at e
  refine ⟨fun L st => call_fr (.any st) (OrOk.none (J := 0)) gpure e.1 L, .inr ⟨by omega, by simpa [Int.gcd] using e.2.1⟩, ?_, ?_⟩ <;> unfold Bd <;> omega
/-! ### told -/
def ptN (m : Nat) (y : Int) : Nat := Int.gcd y m
def shN (m p : Nat) : Nat := Nat.gcd p (m / p)
def tdP (m : Nat) (x y : Int) (k : Nat) : Bool := decide (Nat.gcd k (shN m (ptN m y)) = 1) && SB m x y (ebF (ptN m y) k (shN m (ptN m y)) : Nat) (ptN m y : Nat)
def tdM (m : Nat) (x y : Int) : Option Nat := (natR 1 (shN m (ptN m y) + 1)).find? (tdP m x y)
theorem pt_ok {m : Nat} (hm : 1 ≤ m ∧ m ≤ 60) (y : Int) : 1 ≤ ptN m y ∧ ptN m y ≤ m ∧ m % ptN m y = 0 := by
  have h1 : 0 < ptN m y := Int.gcd_pos_of_ne_zero_right y (by omega)
  have h2 : ptN m y ∣ m := by
    have : ((ptN m y : Nat) : Int) ∣ (m : Int) := Int.gcd_dvd_right y (m : Int)
    exact Int.ofNat_dvd.mp this
  exact ⟨h1, Nat.le_of_dvd (by omega) h2, Nat.mod_eq_zero_of_dvd h2⟩
theorem sh_le : ((List.range 61).all fun m => (List.range 61).all fun p => decide (m = 0 ∨ p = 0 ∨ m < p) || !decide (m % p = 0) || (decide (1 ≤ shN m p) && (decide (shN m p ≤ 7) && decide (p % shN m p = 0)))) = true := by decide +kernel
theorem sh_ok {m p : Nat} (hm : 1 ≤ m ∧ m ≤ 60) (hp : 1 ≤ p) (hd : m % p = 0) : 1 ≤ shN m p ∧ shN m p ≤ 7 ∧ p % shN m p = 0 := by
  have hle : p ≤ m := Nat.le_of_dvd (by omega) (Nat.dvd_of_mod_eq_zero hd)
  have e := all_range (all_range sh_le (k := m) (by omega)) (k := p) (by omega)
  rw [decide_eq_false (by omega), decide_eq_true hd, Bool.false_or, Bool.not_true, Bool.false_or] at e
  simpa only [Bool.and_eq_true, decide_eq_true_eq] using e
theorem find_some {α : Type} (p : α → Bool) (f : α → D) : ∀ l : List α, l.findSome? (fun a => if p a = true then some (f a) else none) = (l.find? p).map f
  | [] => rfl
  | a :: r => by
    rw [List.findSome?_cons, List.find?_cons]
    cases e : p a with
    | true => rfl
    | false => exact find_some p f r
section
variable (L : Nat) (st : Store)
theorem s13 {m : Nat} {x y : Int} (hm : 1 ≤ m ∧ m ≤ 60) (hv : Vd x y) (hy : Bd y) : CL (L + 3) 13 [.int m, ED x y] st = .ok (match tdM m x y with
    | some k => ED (ptN m y : Nat) k
    | none => .non) st := by
  show runF (C (L + 2)) f13 _ _ = _
  obtain ⟨p1, p2, p3⟩ := pt_ok hm y
  obtain ⟨h1, h2, h3⟩ := sh_ok hm p1 p3
  have gp : CL (L + 2) 9 [.int y, .int (m : Int)] st = .ok (.int (ptN m y : Nat)) st := g9 (L + 1) st (by omega)
  obtain ⟨dq, hdq⟩ : ∃ dq : Nat, dq = m / ptN m y := ⟨_, rfl⟩
  have fd : binI .fdiv (m : Int) (ptN m y : Nat) = some (dq : Int) := by
    rw [fdivB (by omega) (by omega), hdq]
    rfl
  have dl : dq ≤ m := by
    rw [hdq]
    exact Nat.div_le_self _ _
  have gs : CL (L + 2) 9 [.int (ptN m y : Nat), .int (dq : Int)] st = .ok (.int (shN m (ptN m y) : Nat)) st := by
    have := g9 (L + 1) st (a := (ptN m y : Nat)) (b := (dq : Int)) (by omega)
    have e : Int.gcd ((ptN m y : Nat) : Int) (dq : Int) = shN m (ptN m y) := by
      rw [shN, ← hdq]
      simp [Int.gcd]
    rw [e] at this
    exact this
  have td : tdM m x y = (natR 1 (shN m (ptN m y) + 1)).find? (tdP m x y) := rfl
  generalize hP : ptN m y = p at *
  generalize hS : shN m p = s at *
  have t1 : evS (C (L + 2)) (.asg (.v 2) (.call 9 [(.ix (.v 1) (.int 1)), (.v 0)])) [some (.int m), some (ED x y), none, none, none] st = .next [some (.int m), some (ED x y), some (.int p), none, none] st := by simp [ED_1, gp]
  have t2 : evS (C (L + 2)) (.asg (.v 3) (.call 9 [(.v 2), (.bin .fdiv (.v 0) (.v 2))])) [some (.int m), some (ED x y), some (.int p), none, none] st = .next [some (.int m), some (ED x y), some (.int p), some (.int s), none] st := by simp [binD, binInt, fd, gs]
  have one : ∀ (k : Nat) (b : Option D), 1 ≤ k → k ≤ s → (evG (C (L + 2)) (.v 4) (.int k) [some (.int m), some (ED x y), some (.int p), some (.int s), b] st).st [some (.int m), some (ED x y), some (.int p), some (.int s), b] (fun env st => evSs (C (L + 2)) [.ife (.and [(.cmp .eq (.call 9 [(.v 4), (.v 3)]) (.int 1)), (.call 11 [(.v 0), (.v 1), (.call 12 [(.v 2), (.v 4), (.v 3)])])]) [.ret (.tup [(.v 2), (.v 4)])] []] env st) = if tdP m x y k = true then .ret (ED p k) st else .next [some (.int m), some (ED x y), some (.int p), some (.int s), some (.int k)] st := by
    intro k b k1 k2
    have gk : CL (L + 2) 9 [.int (k : Nat), .int (s : Nat)] st = .ok (.int (Nat.gcd k s : Nat)) st := by
      have := g9 (L + 1) st (a := (k : Nat)) (b := ((s : Nat) : Int)) (by omega)
      have e : Int.gcd ((k : Nat) : Int) ((s : Nat) : Int) = Nat.gcd k s := by simp [Int.gcd]
      rw [e] at this
      exact this
    rw [evG_1, st_ok]
    unfold tdP
    rw [hP, hS]
    by_cases q : Nat.gcd k s = 1
    · obtain ⟨c12, ve, be, bp⟩ := eb_ok (p := p) (k := k) (s := s) ⟨p1, by omega⟩ ⟨h1, h2⟩ ⟨k1, k2⟩ h3 q
      have c11 := s11 L st (m := m) ⟨hm.1, by omega⟩ hv ve hy bp
      rw [q] at gk
      rw [decide_eq_true q, Bool.true_and]
      have c12 := c12 L st
      cases hb : SB m x y (ebF p k s : Nat) (p : Nat) <;> rw [hb] at c11 <;> simp [gk, cmpD, c12, c11, truD]
    · have q2 : ¬ ((Nat.gcd k s : Nat) : Int) = 1 := by omega
      rw [decide_eq_false q, Bool.false_and]
      simp [gk, cmpD, q2]
  have hi : evI (C (L + 2)) (.rng [(.int 1), (.bin .add (.v 3) (.int 1))]) [some (.int m), some (ED x y), some (.int p), some (.int s), none] st = .ok ⟨(natR 1 (s + 1)).map (fun k : Nat => D.int k), []⟩ st := by
    have r := rngN 1 (s + 1) (by decide) (by omega)
    have s2 : binI .add (s : Int) 1 = some ((s + 1 : Nat) : Int) := rfl
    have r' : rngOf [.int 1, .int ((s + 1 : Nat) : Int)] = some ⟨(natR 1 (s + 1)).map (fun k : Nat => D.int k), []⟩ := r
    simp only [evI_1, evAs_1, evAs_2, evE_3, evE_10, evE_5, List.getElem?_cons_succ, List.getElem?_cons_zero, Option.join_some, ofO_some, bind_ok, binD, binInt, s2, r']
  have lp := forL_find (st := st) (P := fun env => ∃ b, env = [some (.int m), some (ED x y), some (.int p), some (.int s), b]) (body := fun d env st => (evG (C (L + 2)) (.v 4) d env st).st env fun env st => evSs (C (L + 2)) [.ife (.and [(.cmp .eq (.call 9 [(.v 4), (.v 3)]) (.int 1)), (.call 11 [(.v 0), (.v 1), (.call 12 [(.v 2), (.v 4), (.v 3)])])]) [.ret (.tup [(.v 2), (.v 4)])] []] env st)
    (fun k : Nat => D.int k) (fun k => if tdP m x y k = true then some (ED p k) else none) (natR 1 (s + 1))
    (fun k hk env ⟨b, e⟩ hh => by
      subst e
      have mm := natR_mem hk
      have o := one k b mm.1 (by omega)
      refine ⟨[some (.int m), some (ED x y), some (.int p), some (.int s), some (.int k)], ?_, _, rfl⟩
      split at hh
      · cases hh
      · rename_i g
        rw [if_neg g] at o
        exact o)
    (fun k hk env d ⟨b, e⟩ hh => by
      subst e
      have mm := natR_mem hk
      have o := one k b mm.1 (by omega)
      split at hh
      · rename_i g
        cases hh
        rw [if_pos g] at o
        exact o
      · cases hh) [some (.int m), some (ED x y), some (.int p), some (.int s), none] ⟨_, rfl⟩
  rw [find_some] at lp
  rw [td]
  cases hf : (natR 1 (s + 1)).find? (tdP m x y) with
  | some k =>
    rw [hf] at lp
    have r : evSs (C (L + 2)) f13.ir (startE f13.N [.int m, ED x y]) st = .ret (ED p k) st := step t1 (step t2 (stepR (forR hi lp)))
    rw [runF_ret r]
    exact finD_pure rfl
  | none =>
    rw [hf] at lp
    obtain ⟨env', e, b, rfl⟩ := lp
    have r : evSs (C (L + 2)) f13.ir (startE f13.N [.int m, ED x y]) st = .ret .non st := step t1 (step t2 (step (forS hi e) (stepR (by simp))))
    rw [runF_ret r]
    exact finD_pure rfl
theorem s18 {m : Nat} {x y : Int} (hm : 1 ≤ m ∧ m ≤ 60) (hv : Vd x y) (hx : Bd x) (hy : Bd y) : CL (L + 5) 18 [.int m, ED x y] st = .ok (match tdM m x y with
    | some k => ED (ptN m y : Nat) k
    | none => .non) st := by
  show runF (C (L + 4)) f18 _ _ = _
  have q := s13 (L + 1) st hm hv hy
  simp [runF_eq, f18, startE, s8 L st (m : Int) (by omega), s17 L st hv hx hy, q]
  rw [finD_pure]
  split <;> rfl
end
end Law

set_option Elab.async false
set_option linter.all false
set_option maxRecDepth 100000
set_option autoImplicit false
namespace Law
open PySem.Spec Ev
/-- one at a level: by the lower numbers and what turns the upper ones back -/
def TT (m : Nat) (y1 p1 y2 p2 : Int) : Prop := ∃ s k : Int, p1 * y2 - p2 * y1 = s * (y1 * y2) + k * m
def WW (m : Nat) (y1 p1 y2 p2 : Int) : Prop := ∃ u s k1 k2 : Int, y2 = u * y1 + k1 * m ∧ p2 + s * y2 = u * p1 + k2 * m
theorem TT.symm {m : Nat} {y1 p1 y2 p2 : Int} (h : TT m y1 p1 y2 p2) : TT m y2 p2 y1 p1 := by
  obtain ⟨s, k, e⟩ := h
  exact ⟨-s, -k, by grind⟩
theorem TT.shift {m : Nat} {y1 p1 y2 p2 : Int} (r : Int) (h : TT m y1 p1 y2 p2) : TT m y1 (p1 + r * y1) y2 p2 := by
  obtain ⟨s, k, e⟩ := h
  exact ⟨s + r, k, by grind⟩
theorem TT.toW {m : Nat} {y1 p1 y2 p2 a b : Int} (c : a * p1 + b * y1 = 1) (h : TT m y1 p1 y2 p2) : WW m y1 p1 y2 p2 := by
  obtain ⟨s, k, e⟩ := h
  refine ⟨a * (p2 + s * y2) + b * y2, s, a * k, -(b * k), ?_, ?_⟩
  · have : y2 = (a * p1 + b * y1) * y2 := by rw [c, Int.one_mul]
    grind
  · have : p2 + s * y2 = (a * p1 + b * y1) * (p2 + s * y2) := by rw [c, Int.one_mul]
    grind
theorem WW.toT {m : Nat} {y1 p1 y2 p2 : Int} (h : WW m y1 p1 y2 p2) : TT m y1 p1 y2 p2 := by
  obtain ⟨u, s, k1, k2, e1, e2⟩ := h
  refine ⟨s, p1 * k1 - k2 * y1, ?_⟩
  have h2 : p2 = u * p1 + k2 * m - s * y2 := by omega
  rw [h2]
  grind
theorem WW.trans {m : Nat} {y1 p1 y2 p2 y3 p3 : Int} (h : WW m y1 p1 y2 p2) (h' : WW m y2 p2 y3 p3) : WW m y1 p1 y3 p3 := by
  obtain ⟨u, s, k1, k2, e1, e2⟩ := h
  obtain ⟨u', s', k1', k2', e1', e2'⟩ := h'
  exact ⟨u' * u, s' + s, u' * k1 + k1', k2' + u' * k2 + s * k1', by grind, by grind⟩
theorem WW.gcd {m : Nat} {y1 p1 y2 p2 : Int} (h : WW m y1 p1 y2 p2) : Int.gcd y1 m ∣ Int.gcd y2 m := by
  obtain ⟨u, s, k1, k2, e1, e2⟩ := h
  refine Int.dvd_gcd ?_ (Int.gcd_dvd_right _ _)
  rw [e1]
  exact Int.dvd_add (Int.dvd_mul_of_dvd_right (Int.gcd_dvd_left _ _)) (Int.dvd_mul_of_dvd_right (Int.gcd_dvd_right _ _))
theorem SB_iff {m : Nat} (hm : 1 ≤ m) {x1 y1 x2 y2 : Int} : SB m x1 y1 x2 y2 = true ↔ TT m y1 (nV x1 y1) y2 (nV x2 y2) := by
  unfold SB TT
  rw [decide_eq_true_eq]
  constructor
  · intro h
    obtain ⟨c, hc⟩ := Int.dvd_of_emod_eq_zero h
    obtain ⟨u, v, e⟩ := bez (y1 * y2) m
    refine ⟨u * c, v * c, ?_⟩
    rw [hc, ← e]
    grind
  · rintro ⟨s, k, e⟩
    refine Int.emod_eq_zero_of_dvd ?_
    rw [e]
    exact Int.dvd_add (Int.dvd_mul_of_dvd_right (Int.gcd_dvd_left _ _)) (Int.dvd_mul_of_dvd_right (Int.gcd_dvd_right _ _))
theorem wit {x y p q : Int} (hv : Vd x y) (hy : Bd y) (h : p * x + q * y = 1) : ∃ r, p = nV x y + r * y := by
  obtain ⟨⟨k, e⟩, _⟩ := nV_ok hv hy
  refine ⟨k * p - nV x y * q, ?_⟩
  have e2 : p = p * (nV x y * x + k * y) := by rw [e, Int.mul_one]
  have e3 : nV x y * (p * x + q * y) = nV x y := by rw [h, Int.mul_one]
  grind
theorem SB_wit {m : Nat} (hm : 1 ≤ m) {x1 y1 x2 y2 p1 q1 p2 q2 : Int} (v1 : Vd x1 y1) (v2 : Vd x2 y2) (b1 : Bd y1) (b2 : Bd y2) (h1 : p1 * x1 + q1 * y1 = 1) (h2 : p2 * x2 + q2 * y2 = 1) : SB m x1 y1 x2 y2 = true ↔ TT m y1 p1 y2 p2 := by
  rw [SB_iff hm]
  obtain ⟨r1, e1⟩ := wit v1 b1 h1
  obtain ⟨r2, e2⟩ := wit v2 b2 h2
  constructor
  · intro h
    rw [e1, e2]
    exact ((h.shift r1).symm.shift r2).symm
  · intro h
    have h3 := ((h.shift (-r1)).symm.shift (-r2)).symm
    have a1 : p1 + -r1 * y1 = nV x1 y1 := by rw [e1]; grind
    have a2 : p2 + -r2 * y2 = nV x2 y2 := by rw [e2]; grind
    rw [a1, a2] at h3
    exact h3
theorem SB_symm {m : Nat} (hm : 1 ≤ m) {x1 y1 x2 y2 : Int} (h : SB m x1 y1 x2 y2 = true) : SB m x2 y2 x1 y1 = true := (SB_iff hm).mpr ((SB_iff hm).mp h).symm
theorem cop {x y : Int} (hv : Vd x y) (hy : Bd y) : ∃ a b : Int, a * nV x y + b * y = 1 := by
  obtain ⟨⟨k, e⟩, _⟩ := nV_ok hv hy
  exact ⟨x, k, by rw [Int.mul_comm]; exact e⟩
theorem SB_W {m : Nat} (hm : 1 ≤ m) {x1 y1 x2 y2 : Int} (v1 : Vd x1 y1) (b1 : Bd y1) (h : SB m x1 y1 x2 y2 = true) : WW m y1 (nV x1 y1) y2 (nV x2 y2) := by
  obtain ⟨a, b, e⟩ := cop v1 b1
  exact ((SB_iff hm).mp h).toW e
theorem SB_trans {m : Nat} (hm : 1 ≤ m) {x1 y1 x2 y2 x3 y3 : Int} (v1 : Vd x1 y1) (b1 : Bd y1) (v2 : Vd x2 y2) (b2 : Bd y2) (h : SB m x1 y1 x2 y2 = true) (h' : SB m x2 y2 x3 y3 = true) : SB m x1 y1 x3 y3 = true :=
  (SB_iff hm).mpr ((SB_W hm v1 b1 h).trans (SB_W hm v2 b2 h')).toT
theorem SB_gcd {m : Nat} (hm : 1 ≤ m) {x1 y1 x2 y2 : Int} (v1 : Vd x1 y1) (b1 : Bd y1) (v2 : Vd x2 y2) (b2 : Bd y2) (h : SB m x1 y1 x2 y2 = true) : ptN m y1 = ptN m y2 :=
  Nat.dvd_antisymm (SB_W hm v1 b1 h).gcd (SB_W hm v2 b2 (SB_symm hm h)).gcd
/-- edges that are one are told alike -/
theorem td_same {m : Nat} (hm : 1 ≤ m ∧ m ≤ 60) {x1 y1 x2 y2 : Int} (v1 : Vd x1 y1) (b1 : Bd y1) (v2 : Vd x2 y2) (b2 : Bd y2) (h : SB m x1 y1 x2 y2 = true) : tdM m x1 y1 = tdM m x2 y2 := by
  have g := SB_gcd hm.1 v1 b1 v2 b2 h
  obtain ⟨p1, p2, p3⟩ := pt_ok hm y1
  obtain ⟨h1, h2, h3⟩ := sh_ok hm p1 p3
  have key : ∀ k ∈ natR 1 (shN m (ptN m y1) + 1), tdP m x1 y1 k = tdP m x2 y2 k := fun k hk => by
    unfold tdP
    rw [← g]
    by_cases q : Nat.gcd k (shN m (ptN m y1)) = 1
    · have mm := natR_mem hk
      obtain ⟨_, ve, be, bp⟩ := eb_ok (p := ptN m y1) (k := k) (s := shN m (ptN m y1)) ⟨p1, by omega⟩ ⟨h1, h2⟩ ⟨mm.1, by omega⟩ h3 q
      rw [decide_eq_true q, Bool.true_and, Bool.true_and, Bool.eq_iff_iff]
      exact ⟨fun w => SB_trans hm.1 v2 b2 v1 b1 (SB_symm hm.1 h) w, fun w => SB_trans hm.1 v1 b1 v2 b2 h w⟩
    · rw [decide_eq_false q, Bool.false_and, Bool.false_and]
  unfold tdM
  rw [← g]
  have : ∀ l : List Nat, (∀ k ∈ l, tdP m x1 y1 k = tdP m x2 y2 k) → l.find? (tdP m x1 y1) = l.find? (tdP m x2 y2) := by
    intro l
    induction l with
    | nil => intro _; rfl
    | cons k r ih =>
      intro hh
      rw [List.find?_cons, List.find?_cons, hh k (by simp), ih fun k hk => hh k (by simp [hk])]
  exact this _ key
/-- what is told is one with the edge that it tells -/
theorem td_rep {m : Nat} (hm : 1 ≤ m ∧ m ≤ 60) {x y : Int} {k : Nat} (h : tdM m x y = some k) : (1 ≤ k ∧ k ≤ shN m (ptN m y)) ∧ Nat.gcd k (shN m (ptN m y)) = 1 ∧ SB m x y (ebF (ptN m y) k (shN m (ptN m y)) : Nat) (ptN m y : Nat) = true := by
  unfold tdM at h
  have m1 := natR_mem (List.mem_of_find?_eq_some h)
  have m2 := List.find?_some h
  unfold tdP at m2
  rw [Bool.and_eq_true, decide_eq_true_eq] at m2
  exact ⟨⟨m1.1, by omega⟩, m2.1, m2.2⟩
/-- told alike, then one -/
theorem td_one {m : Nat} (hm : 1 ≤ m ∧ m ≤ 60) {x1 y1 x2 y2 : Int} (v1 : Vd x1 y1) (b1 : Bd y1) (v2 : Vd x2 y2) (b2 : Bd y2) {k : Nat} (h1 : tdM m x1 y1 = some k) (h2 : tdM m x2 y2 = some k) (hp : ptN m y1 = ptN m y2) : SB m x1 y1 x2 y2 = true := by
  obtain ⟨r1, r2, r3⟩ := td_rep hm h1
  obtain ⟨_, _, r4⟩ := td_rep hm h2
  rw [← hp] at r4
  obtain ⟨p1, p2, p3⟩ := pt_ok hm y1
  obtain ⟨s1, s2, s3⟩ := sh_ok hm p1 p3
  obtain ⟨_, ve, be, bp⟩ := eb_ok (p := ptN m y1) (k := k) (s := shN m (ptN m y1)) ⟨p1, by omega⟩ ⟨s1, s2⟩ r1 s3 r2
  exact SB_trans hm.1 v1 b1 ve bp r3 (SB_symm hm.1 r4)
theorem mulR {a b : Int} (h : -2000000 ≤ b ∧ b ≤ 2000000) : binI .mul a b = some (a * b) := by
  have : small b = true := by simp only [small, Bool.and_eq_true, decide_eq_true_eq]; omega
  simp only [binI, this, Bool.or_true, Bool.true_or, if_true]
section
variable (L : Nat) (st : Store)
theorem s4 {m : Nat} {x1 y1 x2 y2 : Int} (hm : 1 ≤ m ∧ m ≤ 60) (v1 : Vd x1 y1) (v2 : Vd x2 y2) (a1 : Bd x1) (b1 : Bd y1) (a2 : Bd x2) (b2 : Bd y2) : CL (L + 2) 4 [.int m, ED x1 y1, ED x2 y2] st = .ok (.bl (SB m x1 y1 x2 y2)) st := by
  show runF (C (L + 1)) f4 _ _ = _
  obtain ⟨p1, q1, e1, c1⟩ := s3 v1 a1 b1
  obtain ⟨p2, q2, e2, c2⟩ := s3 v2 a2 b2
  have c1 := c1 L st
  have c2 := c2 L st
  have iff := SB_wit hm.1 v1 v2 b1 b2 e1 e2
  have t1 : evS (C (L + 1)) (.asg (.tup [(.tup [(.v 4), (.v 5)]), (.tup [(.v 6), (.v 7)])]) (.call 3 [(.v 1)])) [some (.int m), some (ED x1 y1), some (ED x2 y2), none, none, none, none, none, none, none, none, none] st = .next [some (.int m), some (ED x1 y1), some (ED x2 y2), none, some (.int x1), some (.int (-q1)), some (.int y1), some (.int p1), none, none, none, none] st := by
    simp [c1, seqOf]
  have t2 : evS (C (L + 1)) (.asg (.tup [(.tup [(.v 8), (.v 9)]), (.tup [(.v 10), (.v 11)])]) (.call 3 [(.v 2)])) [some (.int m), some (ED x1 y1), some (ED x2 y2), none, some (.int x1), some (.int (-q1)), some (.int y1), some (.int p1), none, none, none, none] st = .next [some (.int m), some (ED x1 y1), some (ED x2 y2), none, some (.int x1), some (.int (-q1)), some (.int y1), some (.int p1), some (.int x2), some (.int (-q2)), some (.int y2), some (.int p2)] st := by
    simp [c2, seqOf]
  have hi : evI (C (L + 1)) (.rng [(.v 0)]) [some (.int m), some (ED x1 y1), some (ED x2 y2), none, some (.int x1), some (.int (-q1)), some (.int y1), some (.int p1), some (.int x2), some (.int (-q2)), some (.int y2), some (.int p2)] st = .ok ⟨(List.range m).map (fun k : Nat => D.int k), []⟩ st := by
    have r := rngOf_nat m (by omega)
    rw [rngD_eq] at r
    simp only [evI_1, evAs_1, evAs_2, evE_5, List.getElem?_cons_zero, Option.join_some, ofO_some, bind_ok, r]
    simp
  unfold Bd at b1 b2
  have one : ∀ (k : Nat) (b : Option D), k < m → (evG (C (L + 1)) (.v 3) (.int k) [some (.int m), some (ED x1 y1), some (ED x2 y2), b, some (.int x1), some (.int (-q1)), some (.int y1), some (.int p1), some (.int x2), some (.int (-q2)), some (.int y2), some (.int p2)] st).st [some (.int m), some (ED x1 y1), some (ED x2 y2), b, some (.int x1), some (.int (-q1)), some (.int y1), some (.int p1), some (.int x2), some (.int (-q2)), some (.int y2), some (.int p2)] (fun env st => evSs (C (L + 1)) [.ife (.cmp .eq (.bin .mod (.bin .sub (.bin .mul (.v 10) (.v 7)) (.bin .mul (.bin .add (.bin .mul (.v 10) (.v 3)) (.v 11)) (.v 6))) (.v 0)) (.int 0)) [.ret (.bl true)] []] env st)
      = if decide ((y2 * p1 - (y2 * k + p2) * y1) % (m : Int) = 0) = true then .ret (.bl true) st else .next [some (.int m), some (ED x1 y1), some (ED x2 y2), some (.int k), some (.int x1), some (.int (-q1)), some (.int y1), some (.int p1), some (.int x2), some (.int (-q2)), some (.int y2), some (.int p2)] st := by
    intro k b hk
    have w1 := mulS (a := y2) (b := p1) ⟨by omega, by omega⟩
    have w2 := mulS (a := y2) (b := (k : Int)) ⟨by omega, by omega⟩
    have w3 : binI .add (y2 * k) p2 = some (y2 * k + p2) := rfl
    have w4 := mulR (a := y2 * k + p2) (b := y1) ⟨by omega, by omega⟩
    have w5 : binI .sub (y2 * p1) ((y2 * k + p2) * y1) = some (y2 * p1 - (y2 * k + p2) * y1) := rfl
    have w6 : binI .mod (y2 * p1 - (y2 * k + p2) * y1) (m : Int) = _ := mod_pos (by omega)
    rw [evG_1, st_ok]
    by_cases g : (y2 * p1 - (y2 * k + p2) * y1) % (m : Int) = 0
    · rw [if_pos (by simpa using g)]
      rw [g] at w6
      simp [binD, binInt, w1, w2, w3, w4, w5, w6, cmpD]
    · rw [if_neg (by simpa using g)]
      simp [binD, binInt, w1, w2, w3, w4, w5, w6, cmpD, g]
  have lp := forL_find (st := st) (P := fun env => ∃ b, env = [some (.int m), some (ED x1 y1), some (ED x2 y2), b, some (.int x1), some (.int (-q1)), some (.int y1), some (.int p1), some (.int x2), some (.int (-q2)), some (.int y2), some (.int p2)]) (body := fun d env st => (evG (C (L + 1)) (.v 3) d env st).st env fun env st => evSs (C (L + 1)) [.ife (.cmp .eq (.bin .mod (.bin .sub (.bin .mul (.v 10) (.v 7)) (.bin .mul (.bin .add (.bin .mul (.v 10) (.v 3)) (.v 11)) (.v 6))) (.v 0)) (.int 0)) [.ret (.bl true)] []] env st)
    (fun k : Nat => D.int k) (fun k => if decide ((y2 * p1 - (y2 * k + p2) * y1) % (m : Int) = 0) = true then some (.bl true) else none) (List.range m)
    (fun k hk env ⟨b, e⟩ hh => by
      subst e
      have o := one k b (List.mem_range.mp hk)
      split at hh
      · cases hh
      · rename_i g
        rw [if_neg g] at o
        exact ⟨_, o, _, rfl⟩)
    (fun k hk env d ⟨b, e⟩ hh => by
      subst e
      have o := one k b (List.mem_range.mp hk)
      split at hh
      · rename_i g
        cases hh
        rw [if_pos g] at o
        exact o
      · cases hh) [some (.int m), some (ED x1 y1), some (ED x2 y2), none, some (.int x1), some (.int (-q1)), some (.int y1), some (.int p1), some (.int x2), some (.int (-q2)), some (.int y2), some (.int p2)] ⟨_, rfl⟩
  rw [find_some (fun k : Nat => decide ((y2 * p1 - (y2 * k + p2) * y1) % (m : Int) = 0)) (fun _ => .bl true)] at lp
  cases hf : (List.range m).find? (fun k : Nat => decide ((y2 * p1 - (y2 * k + p2) * y1) % (m : Int) = 0)) with
  | some k =>
    rw [hf] at lp
    have hk := List.find?_some hf
    simp only [decide_eq_true_eq] at hk
    obtain ⟨c, hc⟩ := Int.dvd_of_emod_eq_zero hk
    have sb : SB m x1 y1 x2 y2 = true := iff.mpr ⟨k, c, by grind⟩
    have r : evSs (C (L + 1)) f4.ir (startE f4.N [.int m, ED x1 y1, ED x2 y2]) st = .ret (.bl true) st := step t1 (step t2 (stepR (forR hi lp)))
    rw [runF_ret r, sb]
    exact finD_pure rfl
  | none =>
    rw [hf] at lp
    obtain ⟨env', e, _⟩ := lp
    have sb : SB m x1 y1 x2 y2 = false := by
      rw [Bool.eq_false_iff]
      intro w
      obtain ⟨s, c, hc⟩ := iff.mp w
      have hs0 := Int.emod_nonneg s (show (m : Int) ≠ 0 by omega)
      have hs1 := Int.emod_lt_of_pos s (show 0 < (m : Int) by omega)
      have hn := List.find?_eq_none.mp hf (s % m).toNat (List.mem_range.mpr (by omega))
      simp only [decide_eq_true_eq] at hn
      refine hn (Int.emod_eq_zero_of_dvd ?_)
      rw [Int.toNat_of_nonneg hs0, Int.emod_def]
      exact ⟨c + s / m * (y1 * y2), by grind⟩
    have r : evSs (C (L + 1)) f4.ir (startE f4.N [.int m, ED x1 y1, ED x2 y2]) st = .ret (.bl false) st := step t1 (step t2 (step (forS hi e) (stepR (by simp))))
    rw [runF_ret r, sb]
    exact finD_pure rfl
end
end Law

set_option Elab.async false
set_option linter.all false
set_option maxRecDepth 100000
set_option autoImplicit false
namespace Law
open PySem.Spec Ev
theorem gcdN (a b : Nat) : Int.gcd (a : Int) (b : Int) = Nat.gcd a b := by simp [Int.gcd]
section
variable (L : Nat) (st : Store)
theorem s19 {m p k : Nat} (hm : 1 ≤ m ∧ m ≤ 60) (hp : 1 ≤ p) (hd : m % p = 0) (hk : 1 ≤ k ∧ k ≤ shN m p) (hg : Nat.gcd k (shN m p) = 1) : CL (L + 5) 19 [.int m, .int p, .int k] st = .ok (ED (ebF p k (shN m p) : Nat) p) st := by
  show runF (C (L + 4)) f19 _ _ = _
  have hle : p ≤ m := Nat.le_of_dvd (by omega) (Nat.dvd_of_mod_eq_zero hd)
  obtain ⟨h1, h2, h3⟩ := sh_ok hm hp hd
  obtain ⟨dq, hdq⟩ : ∃ dq : Nat, dq = m / p := ⟨_, rfl⟩
  have fd : binI .fdiv (m : Int) (p : Int) = some (dq : Int) := by
    rw [fdivB (by omega) (by omega), hdq]
    rfl
  have dl : dq ≤ m := by
    rw [hdq]
    exact Nat.div_le_self _ _
  have gs : CL (L + 4) 9 [.int (p : Nat), .int (dq : Int)] st = .ok (.int (shN m p : Nat)) st := by
    have := g9 (L + 3) st (a := (p : Nat)) (b := (dq : Int)) (by omega)
    rw [gcdN] at this
    rw [shN, ← hdq]
    exact this
  have gk : CL (L + 4) 9 [.int (k : Nat), .int (shN m p : Nat)] st = .ok (.int (Nat.gcd k (shN m p) : Nat)) st := by
    have := g9 (L + 3) st (a := (k : Nat)) (b := (shN m p : Nat)) (by omega)
    rw [gcdN] at this
    exact this
  obtain ⟨c12, ve, be, bp⟩ := eb_ok (p := p) (k := k) (s := shN m p) ⟨hp, by omega⟩ ⟨h1, h2⟩ hk h3 hg
  have c12 := c12 (L + 2) st
  rw [hg] at gk
  generalize shN m p = s at *
  have w1 := s6 (L + 2) st (p : Int) 1 1000
  have w2 := s6 (L + 2) st (k : Int) 1 1000
  have e1 : decide ((1 : Int) ≤ p ∧ (p : Int) ≤ 1000) = true := decide_eq_true (by omega)
  have e2 : decide ((1 : Int) ≤ k ∧ (k : Int) ≤ 1000) = true := decide_eq_true (by omega)
  rw [e1] at w1
  rw [e2] at w2
  have md : binI .mod (m : Int) (p : Int) = some 0 := by
    rw [mod_pos (by omega)]
    congr 1
    omega
  have lt : cmpI .gt (k : Int) (s : Int) = some false := by
    simp only [cmpI, Option.some.injEq, decide_eq_false_iff_not]
    omega
  have r : evSs (C (L + 4)) f19.ir (startE f19.N [.int m, .int p, .int k]) st = .ret (ED (ebF p k s : Nat) p) st := by
    refine step (st' := st) (env' := [some (.int m), some (.int p), some (.int k), some (.int m), none]) (by simp [startE, f19, s8 L st (m : Int) (by omega)]) ?_
    refine step (st' := st) (env' := [some (.int m), some (.int p), some (.int k), some (.int m), none]) (by simp [w1, w2, truD]) ?_
    refine step (st' := st) (env' := [some (.int m), some (.int p), some (.int k), some (.int m), none]) (by simp [binD, binInt, md, cmpD]) ?_
    refine step (st' := st) (env' := [some (.int m), some (.int p), some (.int k), some (.int m), some (.int s)]) (by simp [binD, binInt, fd, gs]) ?_
    refine step (st' := st) (env' := [some (.int m), some (.int p), some (.int k), some (.int m), some (.int s)]) (by simp [cmpD, lt, gk]) ?_
    exact stepR (by simp [c12])
  rw [runF_ret r]
  exact finD_pure rfl
theorem s32 {m : Nat} {x y : Int} (hm : 1 ≤ m ∧ m ≤ 60) (hv : Vd x y) (hx : Bd x) (hy : Bd y) : CL (L + 5) 32 [.int m, ED x y] st = .ok (.int ((m : Int) / ((ptN m y : Nat) * (shN m (ptN m y) : Nat) : Int))) st := by
  show runF (C (L + 4)) f32 _ _ = _
  obtain ⟨p1, p2, p3⟩ := pt_ok hm y
  obtain ⟨h1, h2, h3⟩ := sh_ok hm p1 p3
  have gp : CL (L + 4) 9 [.int y, .int (m : Int)] st = .ok (.int (ptN m y : Nat)) st := g9 (L + 3) st (by omega)
  obtain ⟨dq, hdq⟩ : ∃ dq : Nat, dq = m / ptN m y := ⟨_, rfl⟩
  have fd : binI .fdiv (m : Int) (ptN m y : Nat) = some (dq : Int) := by
    rw [fdivB (by omega) (by omega), hdq]
    rfl
  have dl : dq ≤ m := by
    rw [hdq]
    exact Nat.div_le_self _ _
  have gs : CL (L + 4) 9 [.int (ptN m y : Nat), .int (dq : Int)] st = .ok (.int (shN m (ptN m y) : Nat)) st := by
    have := g9 (L + 3) st (a := (ptN m y : Nat)) (b := (dq : Int)) (by omega)
    rw [gcdN] at this
    rw [shN, ← hdq]
    exact this
  generalize ptN m y = p at *
  generalize shN m p = s at *
  have mu := mulS (a := (p : Int)) (b := (s : Int)) ⟨by omega, by omega⟩
  have pp : 1 ≤ (p : Int) * s := by
    have : (1 : Int) * 1 ≤ (p : Int) * s := Int.mul_le_mul (by omega) (by omega) (by omega) (by omega)
    omega
  have pq : (p : Int) * s ≤ 60 * 7 := Int.mul_le_mul (by omega) (by omega) (by omega) (by omega)
  have fd2 := fdivB (k := (m : Int)) (o := (p : Int) * s) pp (by omega)
  have r : evSs (C (L + 4)) f32.ir (startE f32.N [.int m, ED x y]) st = .ret (.int ((m : Int) / ((p : Int) * s))) st := by
    refine step (st' := st) (env' := [some (.int m), some (ED x y), some (.int m), none]) (by simp [startE, f32, s8 L st (m : Int) (by omega)]) ?_
    refine step (st' := st) (env' := [some (.int m), some (ED x y), some (.int m), some (.int p)]) (by simp [s17 L st hv hx hy, ED_1, gp]) ?_
    exact stepR (by simp [binD, binInt, fd, gs, mu, fd2])
  rw [runF_ret r]
  exact finD_pure rfl
end
/-- in lowest terms -/
def loE (a b : Int) : Int × Int := if b / (Int.gcd a b : Nat) = 0 then (1, 0) else if 0 < b / (Int.gcd a b : Nat) then (a / (Int.gcd a b : Nat), b / (Int.gcd a b : Nat)) else (-(a / (Int.gcd a b : Nat)), -(b / (Int.gcd a b : Nat)))
section
variable (L : Nat) (st : Store)
theorem s25 {a b : Int} (hb : b.natAbs < 1000000) (hg : 1 ≤ Int.gcd a b ∧ Int.gcd a b ≤ 1000000) : CL (L + 2) 25 [.int a, .int b] st = .ok (ED (loE a b).1 (loE a b).2) st := by
  show runF (C (L + 1)) f25 _ _ = _
  have g := g20 L st (a := a) hb
  have f1 := fdivB (k := a) (o := (Int.gcd a b : Nat)) (by omega) (by omega)
  have f2 := fdivB (k := b) (o := (Int.gcd a b : Nat)) (by omega) (by omega)
  unfold loE
  generalize a / (Int.gcd a b : Nat) = u at *
  generalize b / (Int.gcd a b : Nat) = v at *
  have t1 : evS (C (L + 1)) (.asg (.v 2) (.call 20 [(.v 0), (.v 1)])) [some (.int a), some (.int b), none] st = .next [some (.int a), some (.int b), some (.int (Int.gcd a b : Nat))] st := by simp [g]
  have t2 : evS (C (L + 1)) (.par [0, 1] [(.bin .fdiv (.v 0) (.v 2)), (.bin .fdiv (.v 1) (.v 2))]) [some (.int a), some (.int b), some (.int (Int.gcd a b : Nat))] st = .next [some (.int u), some (.int v), some (.int (Int.gcd a b : Nat))] st := by simp [binD, binInt, f1, f2]
  by_cases q : v = 0
  · subst q
    have r : evSs (C (L + 1)) f25.ir (startE f25.N [.int a, .int b]) st = .ret (ED 1 0) st := step t1 (step t2 (stepR (by simp [cmpD])))
    rw [runF_ret r]
    exact finD_pure rfl
  · have c : cmpI .gt v 0 = some (decide (0 < v)) := rfl
    by_cases q2 : 0 < v
    · have r : evSs (C (L + 1)) f25.ir (startE f25.N [.int a, .int b]) st = .ret (ED u v) st := step t1 (step t2 (step (st' := st) (env' := [some (.int u), some (.int v), some (.int (Int.gcd a b : Nat))]) (by simp [cmpD, q]) (stepR (by simp [cmpD, c, q2]))))
      rw [runF_ret r, if_neg q, if_pos q2]
      exact finD_pure rfl
    · have r : evSs (C (L + 1)) f25.ir (startE f25.N [.int a, .int b]) st = .ret (ED (-u) (-v)) st := step t1 (step t2 (step (st' := st) (env' := [some (.int u), some (.int v), some (.int (Int.gcd a b : Nat))]) (by simp [cmpD, q]) (stepR (by simp [cmpD, c, q2, negD]))))
      rw [runF_ret r, if_neg q, if_neg q2]
      exact finD_pure rfl
theorem s23 {a b : Int} (hb : b.natAbs < 1000000) (hg : 1 ≤ Int.gcd a b ∧ Int.gcd a b ≤ 1000000) : CL (L + 2) 23 [.int a, .int b] st = .ok (ED (loE a b).1 (loE a b).2) st := by
  show runF (C (L + 1)) f23 _ _ = _
  have g := g9 L st (a := a) (b := b) (by omega)
  have f1 := fdivB (k := a) (o := (Int.gcd a b : Nat)) (by omega) (by omega)
  have f2 := fdivB (k := b) (o := (Int.gcd a b : Nat)) (by omega) (by omega)
  unfold loE
  generalize a / (Int.gcd a b : Nat) = u at *
  generalize b / (Int.gcd a b : Nat) = v at *
  have t1 : evS (C (L + 1)) (.asg (.v 2) (.call 9 [(.v 0), (.v 1)])) [some (.int a), some (.int b), none, none, none] st = .next [some (.int a), some (.int b), some (.int (Int.gcd a b : Nat)), none, none] st := by simp [g]
  have t2 : evS (C (L + 1)) (.par [3, 4] [(.bin .fdiv (.v 0) (.v 2)), (.bin .fdiv (.v 1) (.v 2))]) [some (.int a), some (.int b), some (.int (Int.gcd a b : Nat)), none, none] st = .next [some (.int a), some (.int b), some (.int (Int.gcd a b : Nat)), some (.int u), some (.int v)] st := by simp [binD, binInt, f1, f2]
  by_cases q : v = 0
  · subst q
    have r : evSs (C (L + 1)) f23.ir (startE f23.N [.int a, .int b]) st = .ret (ED 1 0) st := step t1 (step t2 (stepR (by simp [cmpD, gg])))
    rw [runF_ret r]
    exact finD_pure rfl
  · have c : cmpI .gt v 0 = some (decide (0 < v)) := rfl
    by_cases q2 : 0 < v
    · have r : evSs (C (L + 1)) f23.ir (startE f23.N [.int a, .int b]) st = .ret (ED u v) st := step t1 (step t2 (step (st' := st) (env' := [some (.int a), some (.int b), some (.int (Int.gcd a b : Nat)), some (.int u), some (.int v)]) (by simp [cmpD, q]) (stepR (by simp [cmpD, c, q2]))))
      rw [runF_ret r, if_neg q, if_pos q2]
      exact finD_pure rfl
    · have r : evSs (C (L + 1)) f23.ir (startE f23.N [.int a, .int b]) st = .ret (ED (-u) (-v)) st := step t1 (step t2 (step (st' := st) (env' := [some (.int a), some (.int b), some (.int (Int.gcd a b : Nat)), some (.int u), some (.int v)]) (by simp [cmpD, q]) (stepR (by simp [cmpD, c, q2, negD]))))
      rw [runF_ret r, if_neg q, if_neg q2]
      exact finD_pure rfl
theorem s24 {a b c d x y : Int} (hv : Vd x y) (hx : -40 ≤ x ∧ x ≤ 40) (hy : y ≤ 40) (ba : -200 ≤ a ∧ a ≤ 200) (bb : -5000 ≤ b ∧ b ≤ 5000) (bc : -200 ≤ c ∧ c ≤ 200) (bd : -200 ≤ d ∧ d ≤ 200) (hdet : a * d - b * c = 1)
    (hg : Int.gcd (a * x + b * y) (c * x + d * y) = 1) (hV : Vd (loE (a * x + b * y) (c * x + d * y)).1 (loE (a * x + b * y) (c * x + d * y)).2) (hB1 : Bd (loE (a * x + b * y) (c * x + d * y)).1) (hB2 : Bd (loE (a * x + b * y) (c * x + d * y)).2) (hY : (c * x + d * y).natAbs < 1000000) :
    CL (L + 5) 24 [TD a b c d, ED x y] st = .ok (ED (loE (a * x + b * y) (c * x + d * y)).1 (loE (a * x + b * y) (c * x + d * y)).2) st := by
  show runF (C (L + 4)) f24 _ _ = _
  have hn := hv.nn
  have l1 := lc_map (c := C (L + 4)) (elt := .call 15 [(.v 9), (.int 2)]) (tg := .v 9) (it := .walk (.v 3)) (own := [9]) (env := [some (TD a b c d), some (ED x y), none, some (TD a b c d), some (ED x y), none, none, none, none, none, none]) (st := st) (src := ⟨[ED a b, ED c d], []⟩) (fun _ => .bl true) (by simp [srcOf, items]) rfl (fun e hd => by
    rcases List.mem_cons.mp hd with rfl | hd
    · simp [wipeE, lg_ed]
    · rcases List.mem_cons.mp hd with rfl | hd
      · simp [wipeE, lg_ed]
      · cases hd)
  have w : ∀ z : Int, -5000 ≤ z ∧ z ≤ 5000 → CL (L + 4) 6 [.int z, .int (-1000000), .int 1000000] st = .ok (.bl true) st := fun z hz => by
    rw [s6 (L + 2) st z, decide_eq_true (by omega)]
  have wa := w a (by omega)
  have wb := w b (by omega)
  have wc := w c (by omega)
  have wd := w d (by omega)
  have l2 : evE (C (L + 4)) (.lc2 (.call 6 [(.v 10), (.neg (.gl 2)), (.gl 2)]) [9, 10] [10] (.v 9) (.walk (.v 3)) [] (.v 10) (.walk (.v 9)) []) [some (TD a b c d), some (ED x y), none, some (TD a b c d), some (ED x y), none, none, none, none, none, none] st = .ok (.lst [.bl true, .bl true, .bl true, .bl true]) st := by
    refine lc2_run (src := ⟨[ED a b, ED c d], []⟩) (st1 := st) (by simp [srcOf, items]) ?_ (by simp [line])
    simp [compL2, compL, wipeE, srcOf, items, gg, negD, wa, wb, wc, wd]
  have m1 := mulS (a := a) (b := d) ⟨by omega, by omega⟩
  have m2 := mulS (a := b) (b := c) ⟨by omega, by omega⟩
  have m3 := mulS (a := a) (b := x) ⟨by omega, by omega⟩
  have m4 := mulS (a := b) (b := y) ⟨by omega, by omega⟩
  have m5 := mulS (a := c) (b := x) ⟨by omega, by omega⟩
  have m6 := mulS (a := d) (b := y) ⟨by omega, by omega⟩
  have a1 : binI .sub (a * d) (b * c) = some 1 := by
    show some (a * d - b * c) = _
    rw [hdet]
  have a2 : binI .add (a * x) (b * y) = some (a * x + b * y) := rfl
  have a3 : binI .add (c * x) (d * y) = some (c * x + d * y) := rfl
  have lo := s23 (L + 2) st (a := a * x + b * y) (b := c * x + d * y) hY (by omega)
  have se := s16 (L + 1) st hV hB1 hB2
  generalize (loE (a * x + b * y) (c * x + d * y)).1 = X at *
  generalize (loE (a * x + b * y) (c * x + d * y)).2 = Y at *
  have r : evSs (C (L + 4)) f24.ir (startE f24.N [TD a b c d, ED x y]) st = .ret (ED X Y) st := by
    refine step (st' := st) (env' := [some (TD a b c d), some (ED x y), none, some (TD a b c d), some (ED x y), none, none, none, none, none, none]) (by simp [startE, f24, tp_td (L + 1), s17 L st hv (show Bd x by unfold Bd; omega) (show Bd y by unfold Bd; omega)]) ?_
    refine step (st' := st) (env' := [some (TD a b c d), some (ED x y), none, some (TD a b c d), some (ED x y), none, none, none, none, none, none]) (by simp [lg_ed, truD, l1, biD, biD1, boolsOf, listItems, items, boolsD]) ?_
    refine step (st' := st) (env' := [some (TD a b c d), some (ED x y), none, some (TD a b c d), some (ED x y), none, none, none, none, none, none]) (by simp [l2, biD, biD1, boolsOf, listItems, items, boolsD, truD]) ?_
    refine step (st' := st) (env' := [some (TD a b c d), some (ED x y), none, some (TD a b c d), some (ED x y), some (.int a), some (.int b), some (.int c), some (.int d), none, none]) (by simp [seqOf]) ?_
    refine step (st' := st) (env' := [some (TD a b c d), some (ED x y), none, some (TD a b c d), some (ED x y), some (.int a), some (.int b), some (.int c), some (.int d), none, none]) (by simp [binD, binInt, m1, m2, a1, cmpD]) ?_
    refine step (st' := st) (env' := [some (TD a b c d), some (ED x y), some (ED X Y), some (TD a b c d), some (ED x y), some (.int a), some (.int b), some (.int c), some (.int d), none, none]) (by simp [ED_0, ED_1, binD, binInt, m3, m4, m5, m6, a2, a3, lo]) ?_
    refine step (st' := st) (env' := [some (TD a b c d), some (ED x y), some (ED X Y), some (TD a b c d), some (ED x y), some (.int a), some (.int b), some (.int c), some (.int d), none, none]) (by simp [se, truD]) ?_
    exact stepR (by simp)
  rw [runF_ret r]
  exact finD_pure rfl
end
end Law

set_option Elab.async false
set_option linter.all false
set_option maxRecDepth 100000
set_option autoImplicit false
namespace Law
open PySem.Spec Ev
abbrev S1 : IS := .asg (.v 5) (.bin .add (.int 1) (.call 21 [(.v 1), (.int 60)]))
abbrev S2 : IS := .asg (.v 6) (.own (.lst []))
abbrev S3 : IS := .for (.v 7) (.rng [(.int 2)]) [.asg (.v 19) (.call 21 [(.v 1), (.int 41)]), .ex (.me .append (.v 6) [(.call 25 [(.ife (.cmp .gt (.v 19) (.int 0)) (.bin .sub (.call 21 [(.v 1), (.int 81)]) (.int 40)) (.int 1)), (.v 19)])])]
abbrev S4 : IS := .asg (.tup [(.v 20), (.v 21)]) (.v 6)
abbrev S5 : IS := .asg (.v 8) (.call 4 [(.v 5), (.v 20), (.v 21)])
abbrev S6 : IS := .asg (.v 9) (.call 18 [(.v 5), (.v 20)])
abbrev S7 : IS := .asg (.v 4) (.lst [(.call 29 [(.v 20)]), (.call 30 [(.v 5), (.v 20), (.v 21)]), (.call 30 [(.v 5), (.v 21), (.v 20)]), (.cmp .in_ (.v 9) (.call 31 [(.v 5)])), (.ix (.v 9) (.int 0)), (.cmp .eq (.call 18 [(.v 5), (.v 21)]) (.v 9))])
abbrev S8 : IS := .ife (.nt (.call 1 [(.v 4), (.lst [(.bl true), (.v 8), (.v 8), (.bl true), (.call 20 [(.ix (.v 20) (.int 1)), (.v 5)]), (.v 8)])])) [.ret (.bl false)] []
abbrev S9 : IS := .asg (.v 10) (.call 19 [(.v 5), (.ix (.v 9) (.int 0)), (.ix (.v 9) (.int 1))])
abbrev S10 : IS := .ife (.or [(.nt (.call 1 [(.lst [(.call 30 [(.v 5), (.v 10), (.v 20)]), (.call 18 [(.v 5), (.v 10)])]), (.lst [(.bl true), (.v 9)])])), (.nt (.call 4 [(.v 5), (.v 10), (.v 20)]))]) [.ret (.bl false)] []
abbrev S11 : IS := .asg (.v 11) (.call 20 [(.ix (.v 9) (.int 0)), (.bin .fdiv (.v 5) (.ix (.v 9) (.int 0)))])
abbrev S12 : IS := .ife (.nt (.call 1 [(.call 32 [(.v 5), (.v 20)]), (.bin .fdiv (.v 5) (.bin .mul (.ix (.v 9) (.int 0)) (.v 11)))])) [.ret (.bl false)] []
abbrev S13 : IS := .asg (.v 12) (.bin .mul (.v 5) (.bin .sub (.call 21 [(.v 1), (.int 5)]) (.int 2)))
abbrev S14 : IS := .asg (.v 13) (.call 22 [(.v 1), (.lc (.v 22) [22] (.v 22) (.rng [(.int 1), (.int 40)]) [(.cmp .eq (.call 20 [(.v 22), (.v 12)]) (.int 1))])])
abbrev S15 : IS := .asg (.v 14) (.ife (.cmp .ne (.v 12) (.int 0)) (.lc (.v 22) [22] (.v 22) (.rng [(.bin .sub (.neg (.bi .abs [(.v 12)])) (.int 1)), (.bin .add (.bi .abs [(.v 12)]) (.int 2))]) [(.cmp .eq (.bin .mod (.bin .sub (.bin .mul (.v 22) (.v 13)) (.int 1)) (.ife (.cmp .ne (.v 12) (.int 0)) (.bi .abs [(.v 12)]) (.bin .pow (.int 10) (.int 9)))) (.int 0))]) (.lst [(.int 1)]))
abbrev S16 : IS := .asg (.v 13) (.ife (.cmp .ne (.v 12) (.int 0)) (.v 13) (.int 1))
abbrev S17 : IS := .asg (.v 15) (.ife (.cmp .ne (.v 12) (.int 0)) (.bin .fdiv (.bin .sub (.bin .mul (.ix (.v 14) (.int 0)) (.v 13)) (.int 1)) (.v 12)) (.bin .sub (.call 21 [(.v 1), (.int 9)]) (.int 4)))
abbrev S18 : IS := .asg (.v 16) (.call 24 [(.tup [(.tup [(.ix (.v 14) (.int 0)), (.v 15)]), (.tup [(.v 12), (.v 13)])]), (.v 20)])
abbrev S19 : IS := .asg (.v 17) (.call 25 [(.bin .add (.bin .mul (.ix (.v 14) (.int 0)) (.ix (.v 20) (.int 0))) (.bin .mul (.v 15) (.ix (.v 20) (.int 1)))), (.bin .add (.bin .mul (.v 12) (.ix (.v 20) (.int 0))) (.bin .mul (.v 13) (.ix (.v 20) (.int 1))))])
abbrev S20 : IS := .ife (.nt (.call 1 [(.lst [(.v 16), (.call 30 [(.v 5), (.v 20), (.v 16)]), (.call 18 [(.v 5), (.v 16)])]), (.lst [(.v 17), (.bl true), (.v 9)])])) [.ret (.bl false)] []
abbrev S21 : IS := .asg (.v 18) (.call 28 [(.v 5)])
abbrev S22 : IS := .ife (.nt (.call 1 [(.lst [(.bi .list [(.v 18)]), (.lc (.call 18 [(.v 5), (.v 22)]) [22] (.v 22) (.walk (.v 18)) [])]), (.lst [(.lc (.call 19 [(.v 5), (.ix (.v 22) (.int 0)), (.ix (.v 22) (.int 1))]) [22] (.v 22) (.walk (.call 31 [(.v 5)])) []), (.bi .list [(.call 31 [(.v 5)])])])])) [.ret (.bl false)] []
abbrev S23 : IS := .for (.tup [(.v 22), (.v 9)]) (.zip (.v 18) (.call 31 [(.v 5)])) [.asg (.v 11) (.call 20 [(.ix (.v 9) (.int 0)), (.bin .fdiv (.v 5) (.ix (.v 9) (.int 0)))]), .asg (.v 17) (.ix (.lc (.v 23) [23] (.v 23) (.rng [(.ix (.v 9) (.int 1)), (.bin .add (.bin .add (.ix (.v 9) (.int 1)) (.bin .mul (.v 11) (.ix (.v 9) (.int 0)))) (.int 1)), (.v 11)]) [(.cmp .eq (.call 20 [(.v 23), (.ix (.v 9) (.int 0))]) (.int 1))]) (.int 0)), .ife (.cmp .ne (.v 22) (.tup [(.v 17), (.ix (.v 9) (.int 0))])) [.ret (.bl false)] []]
abbrev lapB : List IS := [S1, S2, S3, S4, S5, S6, S7, S8, S9, S10, S11, S12, S13, S14, S15, S16, S17, S18, S19, S20, S21, S22, S23]
abbrev T0 : IS := .asg (.v 1) (.call 0 [(.call 2 [(.v 0), (.int 1)]), (.int 0)])
abbrev T1 : IS := .for (.v 2) (.rng [(.int 5)]) lapB
abbrev T2 : IS := .asg (.v 3) (.lst [(.tup [(.int 1), (.int 0)]), (.tup [(.int 0), (.int 1)]), (.tup [(.neg (.int 5)), (.int 3)]), (.tup [(.bin .pow (.int 10) (.int 6)), (.int 1)]), (.tup [(.neg (.int 1)), (.int 0)]), (.tup [(.int 2), (.int 0)]), (.tup [(.int 0), (.int 2)]), (.tup [(.int 2), (.int 4)]), (.tup [(.int 1), (.neg (.int 2))]), (.tup [(.bl true), (.int 1)]), (.lst [(.int 1), (.int 0)]), .non, (.tup [(.bin .add (.bin .pow (.int 10) (.int 6)) (.int 1)), (.int 1)])])
abbrev T3 : IS := .setLc 4 (.lc (.call 29 [(.v 22)]) [22] (.v 22) (.walk (.v 3)) [])
abbrev T4 : IS := .asg (.v 4) (.bin .add (.v 4) (.lst [(.call 33 [(.int 0), (.tup [(.tup [(.int 1), (.bin .pow (.int 10) (.int 6))]), (.tup [(.int 0), (.int 1)])]), (.tup [(.int 1), (.int 1)]), .non]), (.call 33 [(.int 0), (.tup [(.tup [(.int 1), (.int 1)]), (.tup [(.int 1), (.int 1)])]), (.tup [(.int 1), (.int 1)]), .non]), (.call 33 [(.int 0), (.tup [(.tup [(.int 0), (.int 1)]), (.tup [(.int 1), (.int 0)])]), (.tup [(.int 1), (.int 1)]), .non]), (.call 33 [(.int 1), (.int 9), (.int 3), (.int 3)])]))
abbrev T5 : IS := .asg (.v 4) (.bin .add (.v 4) (.lst [(.call 33 [(.int 1), (.int 9), (.int 2), (.int 1)]), (.call 33 [(.int 1), (.int 9), (.int 0), (.int 1)]), (.call 33 [(.int 1), (.int 9), (.int 3), (.int 1001)]), (.call 33 [(.int 2), (.int 0), (.tup [(.int 1), (.int 0)]), (.tup [(.int 1), (.int 0)])])]))
abbrev T6 : IS := .asg (.v 4) (.bin .add (.v 4) (.lst [(.call 33 [(.int 2), (.int 1001), (.tup [(.int 1), (.int 0)]), (.tup [(.int 1), (.int 0)])]), (.call 33 [(.int 3), (.int 5), (.tup [(.int 2), (.int 4)]), .non]), (.call 33 [(.int 4), (.int 5), .non, .non]), (.call 33 [(.int 5), (.int 0), .non, .non])]))
abbrev T7 : IS := .ret (.call 1 [(.v 4), (.bin .add (.bin .add (.bin .mul (.lst [(.bl true)]) (.int 4)) (.bin .mul (.lst [(.bl false)]) (.int 9))) (.lst [(.str "none"), (.str "unfit"), (.str "unfit"), (.str "none"), (.str "none"), (.str "unfit"), (.str "unfit"), (.str "unfit"), (.str "unfit"), (.str "unfit"), (.str "unfit"), (.str "unfit")]))])
theorem f34_ir : f34.ir = [T0, T1, T2, T3, T4, T5, T6, T7] := rfl
end Law

set_option Elab.async false
set_option linter.all false
set_option maxRecDepth 100000
set_option autoImplicit false
namespace Law
open PySem.Spec Ev
/-! ### the cusps of a level -/
def dvN (m : Nat) : List Nat := (natR 1 (m + 1)).filter fun p => decide (m % p = 0)
def cuL (m : Nat) : List (Nat × Nat) := (dvN m).flatMap fun p => ((natR 1 (shN m p + 1)).filter fun k => decide (Nat.gcd k (shN m p) = 1)).map fun k => (p, k)
abbrev prD (p : Nat × Nat) : D := ED p.1 p.2
abbrev repD (m : Nat) (p : Nat × Nat) : D := ED (ebF p.1 p.2 (shN m p.1) : Nat) p.1
theorem cu_mem {m p k : Nat} (hp : 1 ≤ p) (hle : p ≤ m) (hd : m % p = 0) (hk : 1 ≤ k ∧ k ≤ shN m p) (hg : Nat.gcd k (shN m p) = 1) : (p, k) ∈ cuL m := by
  unfold cuL dvN
  have nm : ∀ {a b c : Nat}, a ≤ c → c < b → c ∈ natR a b := fun {a b c} h1 h2 => List.mem_map.mpr ⟨c - a, List.mem_range.mpr (by omega), by omega⟩
  refine List.mem_flatMap.mpr ⟨p, List.mem_filter.mpr ⟨nm hp (by omega), decide_eq_true hd⟩, List.mem_map.mpr ⟨k, List.mem_filter.mpr ⟨nm hk.1 (by omega), decide_eq_true hg⟩, rfl⟩⟩
/-! ### answers that are told -/
def vdB (x y : Int) : Bool := (decide (y = 0) && decide (x = 1)) || (decide (0 < y) && decide (Int.gcd x y = 1))
def bdB (x : Int) : Bool := decide (-1000000 ≤ x) && decide (x ≤ 1000000)
theorem vdB_ok {x y : Int} (h : vdB x y = true) : Vd x y := by
  unfold vdB at h
  simp only [Bool.or_eq_true, Bool.and_eq_true, decide_eq_true_eq] at h
  exact h
theorem bdB_ok {x : Int} (h : bdB x = true) : Bd x := by
  unfold bdB at h
  simp only [Bool.and_eq_true, decide_eq_true_eq] at h
  exact h
def or9 : Nat → List D → Option D := fun f ds => if f = 9 then (match ds with
  | [.int a, .int b] => if b.natAbs < 1900000 then some (.int (Int.gcd a b : Nat)) else none
  | _ => none) else none
def tdD (m : Nat) (x y : Int) : D := match tdM m x y with
  | some k => ED (ptN m y : Nat) k
  | none => .non
def or18 : Nat → List D → Option D := fun f ds => if f = 18 then (match ds with
  | [.int m, .tup [.int x, .int y]] => if decide (1 ≤ m ∧ m ≤ 60) && (vdB x y && (bdB x && bdB y)) then some (tdD m.toNat x y) else none
  | _ => none) else none
def or19 : Nat → List D → Option D := fun f ds => if f = 19 then (match ds with
  | [.int m, .int p, .int k] => if decide (1 ≤ m ∧ m ≤ 60 ∧ 1 ≤ p ∧ m.toNat % p.toNat = 0 ∧ 1 ≤ k ∧ k.toNat ≤ shN m.toNat p.toNat ∧ Nat.gcd k.toNat (shN m.toNat p.toNat) = 1) then some (repD m.toNat (p.toNat, k.toNat)) else none
  | _ => none) else none
theorem or9_ok : OrOk FF gg FU 2 or9 5 := fun f ds d e => by
  unfold or9 at e
  split at e
  · rename_i hf
    subst hf
    split at e
    · rename_i a b
      split at e
      · rename_i h
        cases e
        exact ⟨rfl, rfl, fun j st _ => g9 (j + 4) st (by omega)⟩
      · cases e
    · cases e
  · cases e
theorem or18_ok : OrOk FF gg FU 2 or18 5 := fun f ds d e => by
  unfold or18 at e
  split at e
  · rename_i hf
    subst hf
    split at e
    · rename_i m x y
      split at e
      · rename_i h
        simp only [Bool.and_eq_true, decide_eq_true_eq] at h
        cases e
        obtain ⟨m, rfl⟩ := Int.eq_ofNat_of_zero_le (show 0 ≤ m by omega)
        refine ⟨?_, rfl, fun j st _ => ?_⟩
        · unfold tdD
          split <;> rfl
        · exact s18 j st (m := m) (by omega) (vdB_ok h.2.1) (bdB_ok h.2.2.1) (bdB_ok h.2.2.2)
      · cases e
    · cases e
  · cases e
theorem or19_ok : OrOk FF gg FU 2 or19 5 := fun f ds d e => by
  unfold or19 at e
  split at e
  · rename_i hf
    subst hf
    split at e
    · rename_i m p k
      split at e
      · rename_i h
        simp only [decide_eq_true_eq] at h
        cases e
        obtain ⟨m, rfl⟩ := Int.eq_ofNat_of_zero_le (show 0 ≤ m by omega)
        obtain ⟨p, rfl⟩ := Int.eq_ofNat_of_zero_le (show 0 ≤ p by omega)
        obtain ⟨k, rfl⟩ := Int.eq_ofNat_of_zero_le (show 0 ≤ k by omega)
        simp only [Int.ofNat_eq_natCast, Int.toNat_natCast] at h ⊢
        exact ⟨rfl, rfl, fun j st _ => s19 j st (m := m) (p := p) (k := k) (by omega) (by omega) h.2.2.2.1 (by constructor <;> omega) h.2.2.2.2.2.2⟩
      · cases e
    · cases e
  · cases e
def orA : Nat → List D → Option D := orAdd or9 (orAdd or18 or19)
theorem orA_ok : OrOk FF gg FU 2 orA 5 := or9_ok.both (or18_ok.both or19_ok)
theorem fin_cu : ((List.range 60).all fun i => okO FF gg FU 2 orA 6 31 [.int ((i + 1 : Nat) : Int)] (.tup ((cuL (i + 1)).map prD))) = true := by decide +kernel
theorem fin_ed : ((List.range 60).all fun i => okO FF gg FU 2 orA 6 28 [.int ((i + 1 : Nat) : Int)] (.tup ((cuL (i + 1)).map (repD (i + 1))))) = true := by decide +kernel
def or31 : Nat → List D → Option D := fun f ds => if f = 31 ∨ f = 28 then (match ds with
  | [.int m] => if decide (1 ≤ m ∧ m ≤ 60) then some (if f = 31 then .tup ((cuL m.toNat).map prD) else .tup ((cuL m.toNat).map (repD m.toNat))) else none
  | _ => none) else none
theorem or31_ok : ∀ f ds d, or31 f ds = some d → okO FF gg FU 2 orA 6 f ds d = true := fun f ds d e => by
  unfold or31 at e
  split at e
  · rename_i hf
    split at e
    · rename_i m
      split at e
      · rename_i h
        simp only [decide_eq_true_eq] at h
        cases e
        obtain ⟨m, rfl⟩ := Int.eq_ofNat_of_zero_le (show 0 ≤ m by omega)
        rcases hf with rfl | rfl
        · have := all_range fin_cu (k := m - 1) (by omega)
          rw [show m - 1 + 1 = m by omega] at this
          exact this
        · have := all_range fin_ed (k := m - 1) (by omega)
          rw [show m - 1 + 1 = m by omega] at this
          exact this
      · cases e
    · cases e
  · cases e
def orB : Nat → List D → Option D := orAdd or31 orA
theorem orB_ok : OrOk FF gg FU 2 orB 11 := orA_ok.add gpure or31_ok
def E5 (m : Int) : Env := [none, none, none, none, none, some (.int m), none, none, none, none, none, none, none, none, none, none, none, none, none, none, none, none, none, none]
end Law

set_option Elab.async false
set_option linter.all false
set_option maxRecDepth 100000
set_option autoImplicit false
namespace Law
open PySem.Spec Ev
def tdC (m y x : Nat) : Bool := decide (Nat.gcd x y ≠ 1) || (tdM m (x : Nat) (y : Nat)).isSome
def tdA (m : Nat) : Bool := (tdM m 1 0).isSome && (List.range 40).all fun y => (List.range (y + 1)).all fun x => tdC m (y + 1) x
theorem fin_td0 : ((List.range 6).all fun i => tdA (1 + i)) = true := by decide +kernel
theorem fin_td1 : ((List.range 6).all fun i => tdA (7 + i)) = true := by decide +kernel
theorem fin_td2 : ((List.range 6).all fun i => tdA (13 + i)) = true := by decide +kernel
theorem fin_td3 : ((List.range 6).all fun i => tdA (19 + i)) = true := by decide +kernel
theorem fin_td4 : ((List.range 6).all fun i => tdA (25 + i)) = true := by decide +kernel
theorem fin_td5 : ((List.range 6).all fun i => tdA (31 + i)) = true := by decide +kernel
theorem fin_td6 : ((List.range 6).all fun i => tdA (37 + i)) = true := by decide +kernel
theorem fin_td7 : ((List.range 6).all fun i => tdA (43 + i)) = true := by decide +kernel
theorem fin_td8 : ((List.range 6).all fun i => tdA (49 + i)) = true := by decide +kernel
theorem fin_td9 : ((List.range 6).all fun i => tdA (55 + i)) = true := by decide +kernel
theorem td_all {m : Nat} (hm : 1 ≤ m ∧ m ≤ 60) : tdA m = true := by
  by_cases h0 : m < 7
  · have := all_range fin_td0 (k := m - 1) (by omega)
    rw [show 1 + (m - 1) = m by omega] at this
    exact this
  by_cases h1 : m < 13
  · have := all_range fin_td1 (k := m - 7) (by omega)
    rw [show 7 + (m - 7) = m by omega] at this
    exact this
  by_cases h2 : m < 19
  · have := all_range fin_td2 (k := m - 13) (by omega)
    rw [show 13 + (m - 13) = m by omega] at this
    exact this
  by_cases h3 : m < 25
  · have := all_range fin_td3 (k := m - 19) (by omega)
    rw [show 19 + (m - 19) = m by omega] at this
    exact this
  by_cases h4 : m < 31
  · have := all_range fin_td4 (k := m - 25) (by omega)
    rw [show 25 + (m - 25) = m by omega] at this
    exact this
  by_cases h5 : m < 37
  · have := all_range fin_td5 (k := m - 31) (by omega)
    rw [show 31 + (m - 31) = m by omega] at this
    exact this
  by_cases h6 : m < 43
  · have := all_range fin_td6 (k := m - 37) (by omega)
    rw [show 37 + (m - 37) = m by omega] at this
    exact this
  by_cases h7 : m < 49
  · have := all_range fin_td7 (k := m - 43) (by omega)
    rw [show 43 + (m - 43) = m by omega] at this
    exact this
  by_cases h8 : m < 55
  · have := all_range fin_td8 (k := m - 49) (by omega)
    rw [show 49 + (m - 49) = m by omega] at this
    exact this
  by_cases h9 : m < 61
  · have := all_range fin_td9 (k := m - 55) (by omega)
    rw [show 55 + (m - 55) = m by omega] at this
    exact this
  omega
def lvA (m : Nat) : Bool := nextE FF gg FU 2 orB 5 [1] [S21, S22, S23] (E5 (m : Nat))
theorem fin_lv0 : ((List.range 10).all fun i => lvA (1 + i)) = true := by decide +kernel
theorem fin_lv1 : ((List.range 10).all fun i => lvA (11 + i)) = true := by decide +kernel
theorem fin_lv2 : ((List.range 10).all fun i => lvA (21 + i)) = true := by decide +kernel
theorem fin_lv3 : ((List.range 10).all fun i => lvA (31 + i)) = true := by decide +kernel
theorem fin_lv4 : ((List.range 10).all fun i => lvA (41 + i)) = true := by decide +kernel
theorem fin_lv5 : ((List.range 10).all fun i => lvA (51 + i)) = true := by decide +kernel
theorem lv_all {m : Nat} (hm : 1 ≤ m ∧ m ≤ 60) : lvA m = true := by
  by_cases h0 : m < 11
  · have := all_range fin_lv0 (k := m - 1) (by omega)
    rw [show 1 + (m - 1) = m by omega] at this
    exact this
  by_cases h1 : m < 21
  · have := all_range fin_lv1 (k := m - 11) (by omega)
    rw [show 11 + (m - 11) = m by omega] at this
    exact this
  by_cases h2 : m < 31
  · have := all_range fin_lv2 (k := m - 21) (by omega)
    rw [show 21 + (m - 21) = m by omega] at this
    exact this
  by_cases h3 : m < 41
  · have := all_range fin_lv3 (k := m - 31) (by omega)
    rw [show 31 + (m - 31) = m by omega] at this
    exact this
  by_cases h4 : m < 51
  · have := all_range fin_lv4 (k := m - 41) (by omega)
    rw [show 41 + (m - 41) = m by omega] at this
    exact this
  by_cases h5 : m < 61
  · have := all_range fin_lv5 (k := m - 51) (by omega)
    rw [show 51 + (m - 51) = m by omega] at this
    exact this
  omega
/-- the drawn edges -/
def bxC (a : Int) (b : Nat) : Bool := decide (1 ≤ Int.gcd a b ∧ Int.gcd a b ≤ 100) && (vdB (loE a b).1 (loE a b).2 && (decide (-40 ≤ (loE a b).1 ∧ (loE a b).1 ≤ 40) && decide ((loE a b).2 ≤ 40)))
theorem fin_bx : ((List.range 81).all fun i => (List.range 40).all fun b => bxC ((i : Int) - 40) (b + 1)) = true := by decide +kernel
theorem fin_b0 : bxC 1 0 = true := by decide +kernel
def E00 : Env := [none, none, none, none, none, none, none, none, none, none, none, none, none, none, none, none, none, none, none, none, none, none, none, none]
theorem fin_end : retO FF gg FU 2 noO 12 [T2, T3, T4, T5, T6, T7] E00 (.bl true) = true := by decide +kernel
end Law

set_option Elab.async false
set_option linter.all false
set_option maxRecDepth 100000
set_option autoImplicit false
namespace Law
open PySem.Spec Ev
theorem takeEq : f21 = takeF := rfl
theorem drawN (L : Nat) {st : Store} {t : Nat} {k : Int} (b : Int) (T : Tin st t k) (hb : 0 < b) (hb2 : b < 1000) (hk : k < 1000000) :
    ∃ (r : Int) (st' : Store), CL (L + 1) 21 [.ref t, .int b] st = .ok (.int r) st' ∧ 0 ≤ r ∧ r < b ∧ Tin st' t (k + 1) ∧ Ch [t] st st' ∧ st'.length = st.length := by
  obtain ⟨r, st1, et, r0, r1, T1, c1, l1, hs1⟩ := take_ch (C L) st t k b T (.any st) hb (by omega) (by omega)
  refine ⟨r, st1, ?_, r0, r1, T1, c1, l1⟩
  show runF (C L) f21 _ _ = _
  rw [takeEq]
  exact et
theorem allI (k : Nat) (xs : List Int) : (intsL xs).all (sameB k) = true := by
  simp only [List.all_eq_true]
  intro d hd
  obtain ⟨x, _, rfl⟩ := List.mem_map.mp hd
  cases k <;> rfl
/-- a drawn edge -/
def Bx (x y : Int) : Prop := Vd x y ∧ (-40 ≤ x ∧ x ≤ 40) ∧ y ≤ 40
theorem Bx.v {x y : Int} (h : Bx x y) : Vd x y := h.1
theorem Bx.bx {x y : Int} (h : Bx x y) : Bd x := by unfold Bd; have := h.2.1; omega
theorem Bx.by_ {x y : Int} (h : Bx x y) : Bd y := by unfold Bd; have := h.2.2; have := h.1.nn; omega
theorem box_edge {a : Int} {b : Nat} (h : (b = 0 ∧ a = 1) ∨ (1 ≤ b ∧ b ≤ 40 ∧ -40 ≤ a ∧ a ≤ 40)) : Bx (loE a b).1 (loE a b).2 ∧ 1 ≤ Int.gcd a b ∧ Int.gcd a b ≤ 1000000 := by
  have e : bxC a b = true := by
    rcases h with ⟨rfl, rfl⟩ | ⟨h1, h2, h3, h4⟩
    · exact fin_b0
    · have := all_range (all_range fin_bx (k := (a + 40).toNat) (by omega)) (k := b - 1) (by omega)
      rw [show b - 1 + 1 = b by omega, show (((a + 40).toNat : Nat) : Int) - 40 = a by omega] at this
      exact this
  unfold bxC at e
  simp only [Bool.and_eq_true, decide_eq_true_eq] at e
  exact ⟨⟨vdB_ok e.2.1, e.2.2.1, e.2.2.2⟩, e.1.1, by omega⟩
/-- each drawn edge is told -/
theorem td_box {m : Nat} (hm : 1 ≤ m ∧ m ≤ 60) {x y : Int} (h : Bx x y) : ∃ k, tdM m x y = some k := by
  have e := td_all hm
  unfold tdA at e
  rw [Bool.and_eq_true] at e
  obtain ⟨hv, hx, hy⟩ := h
  rcases hv with ⟨rfl, rfl⟩ | ⟨h0, h1⟩
  · exact Option.isSome_iff_exists.mp e.1
  · have r0 := Int.emod_nonneg x (show y ≠ 0 by omega)
    have r1 := Int.emod_lt_of_pos x h0
    have q := all_range (all_range e.2 (k := (y - 1).toNat) (by omega)) (k := (x % y).toNat) (by omega)
    rw [show (y - 1).toNat + 1 = y.toNat by omega] at q
    unfold tdC at q
    have cx : (((x % y).toNat : Nat) : Int) = x % y := Int.toNat_of_nonneg r0
    have cy : ((y.toNat : Nat) : Int) = y := Int.toNat_of_nonneg (by omega)
    have gg1 : Int.gcd (x % y) y = 1 := by
      rw [Int.gcd_comm, Int.emod_def, Int.mul_comm, Int.gcd_sub_mul_right_right, Int.gcd_comm]
      exact h1
    have gn : Nat.gcd (x % y).toNat y.toNat = 1 := by
      have := gcdN (x % y).toNat y.toNat
      rw [cx, cy, gg1] at this
      exact this.symm
    rw [decide_eq_false (fun z => z gn), Bool.false_or, cx, cy] at q
    have nv : nV (x % y) y = nV x y := by
      unfold nV
      rw [if_pos h0, if_pos h0]
      unfold bkV
      rw [Int.emod_emod_of_dvd _ (Int.dvd_refl y)]
    have same : tdM m (x % y) y = tdM m x y := by
      unfold tdM
      congr 1
      funext k
      unfold tdP SB
      rw [nv]
    rw [same] at q
    exact Option.isSome_iff_exists.mp q
/-! ### the statements -/
section
variable {st : Store} {env : Env}
theorem S1_ok {t : Nat} {k : Int} (h1 : env[1]? = some (some (.ref t))) (T : Tin st t k) (hk : k < 900000) :
    ∃ (m : Nat) (st' : Store), evS (C 16) S1 env st = .next (env.set 5 (some (.int m))) st' ∧ (1 ≤ m ∧ m ≤ 60) ∧ Tin st' t (k + 1) := by
  obtain ⟨r, st1, e1, r0, r1, T1, c1, l1⟩ := drawN 15 60 T (by decide) (by decide) (by omega)
  have b1 : binI .add 1 r = some (((1 + r).toNat : Nat) : Int) := by
    rw [Int.toNat_of_nonneg (by omega)]
    rfl
  refine ⟨(1 + r).toNat, st1, ?_, by omega, T1⟩
  simp only [S1, evS_1, evAs_1, evAs_2, evE_10, evE_3, evE_21, evE_5, h1, Option.join_some, ofO_some, bind_ok, e1, binD, binInt, b1, st_ok, evG_1]
theorem S2_ok {t : Nat} {k : Int} (hl : env.length = 24) (T : Tin st t k) : evS (C 16) S2 env st = .next (env.set 6 (some (.ref st.length))) (st ++ [.lst []]) ∧ Tin (st ++ [.lst []]) t k ∧ (st ++ [O.lst []])[st.length]? = some (.lst []) ∧ t ≠ st.length := by
  have ht := T.lt
  refine ⟨by simp [S2, ownD], ?_, by simp, by omega⟩
  obtain ⟨a, b, z, hz, r1, r2⟩ := T
  exact ⟨a, b, z, by rw [List.getElem?_append_left ht]; exact hz, r1, r2⟩
structure LD3 (t q m : Nat) (c : Int) (l : List D) (env : Env) (st : Store) : Prop where
  len : env.length = 24
  e1 : env[1]? = some (some (.ref t))
  e5 : env[5]? = some (some (.int m))
  e6 : env[6]? = some (some (.ref q))
  tin : Tin st t c
  at_ : st[q]? = some (.lst l)
abbrev W3 : List IS := [.asg (.v 19) (.call 21 [(.v 1), (.int 41)]), .ex (.me .append (.v 6) [(.call 25 [(.ife (.cmp .gt (.v 19) (.int 0)) (.bin .sub (.call 21 [(.v 1), (.int 81)]) (.int 40)) (.int 1)), (.v 19)])])]
theorem turn3 {t q m : Nat} {c : Int} {l : List D} (P : LD3 t q m c l env st) (d : t ≠ q) (hc : c < 900000) (hl : l.length ≤ 2) (i : Int) :
    ∃ env' st' x y, (evG (C 16) (.v 7) (.int i) env st).st env (fun env st => evSs (C 16) W3 env st) = .next env' st' ∧ LD3 t q m (c + 2) (l ++ [ED x y]) env' st' ∧ Bx x y := by
  obtain ⟨hen, h1, h5, h6, T, hq⟩ := P
  rw [evG_1, st_ok]
  have k1 : (env.set 7 (some (.int i)))[1]? = some (some (.ref t)) := set_ne h1 (by decide)
  have k5 : (env.set 7 (some (.int i)))[5]? = some (some (.int m)) := set_ne h5 (by decide)
  have k6 : (env.set 7 (some (.int i)))[6]? = some (some (.ref q)) := set_ne h6 (by decide)
  have kl : (env.set 7 (some (.int i))).length = 24 := by simp [hen]
  generalize env.set 7 (some (.int i)) = e1 at k1 k5 k6 kl
  obtain ⟨b, st1, d1, b0, b1, T1, c1, l1⟩ := drawN 15 41 T (by decide) (by decide) (by omega)
  have hq1 : st1[q]? = some (.lst l) := c1.at hq (by simpa using d.symm)
  have s1 : evS (C 16) (.asg (.v 19) (.call 21 [(.v 1), (.int 41)])) e1 st = .next (e1.set 19 (some (.int b))) st1 := by
    simp only [evS_1, evE_21, evAs_1, evAs_2, evE_3, evE_5, k1, Option.join_some, ofO_some, bind_ok, d1, st_ok, evG_1]
  have j1 : (e1.set 19 (some (.int b)))[1]? = some (some (.ref t)) := set_ne k1 (by decide)
  have j5 : (e1.set 19 (some (.int b)))[5]? = some (some (.int m)) := set_ne k5 (by decide)
  have j6 : (e1.set 19 (some (.int b)))[6]? = some (some (.ref q)) := set_ne k6 (by decide)
  have j19 : (e1.set 19 (some (.int b)))[19]? = some (some (.int b)) := set_eq (by omega)
  have jl : (e1.set 19 (some (.int b))).length = 24 := by simp [kl]
  generalize e1.set 19 (some (.int b)) = e2 at s1 j1 j5 j6 j19 jl
  have cb : cmpI .gt b 0 = some (decide (0 < b)) := rfl
  have arg : ∃ (a : Int) (st2 : Store), evE (C 16) (.ife (.cmp .gt (.v 19) (.int 0)) (.bin .sub (.call 21 [(.v 1), (.int 81)]) (.int 40)) (.int 1)) e2 st1 = .ok (.int a) st2 ∧ ((b = 0 ∧ a = 1) ∨ (1 ≤ b ∧ b ≤ 40 ∧ -40 ≤ a ∧ a ≤ 40)) ∧ Tin st2 t (c + 2) ∧ st2[q]? = some (.lst l) := by
    by_cases g : 0 < b
    · obtain ⟨a, st2, d2, a0, a1, T2, c2, l2⟩ := drawN 15 81 T1 (by decide) (by decide) (by omega)
      have bb : binI .sub a 40 = some (a - 40) := rfl
      refine ⟨a - 40, st2, ?_, .inr (by omega), T2.mono (by omega), c2.at hq1 (by simpa using d.symm)⟩
      simp only [evE_17, evT_4, evE_10, evE_21, evAs_1, evAs_2, evE_3, evE_5, j1, j19, Option.join_some, ofO_some, bind_ok, cmpD, cb, g, decide_true, if_true, d2, binD, binInt, bb]
    · refine ⟨1, st1, ?_, .inl ⟨by omega, rfl⟩, T1.mono (by omega), hq1⟩
      simp only [evE_17, evT_4, evE_3, evE_5, j19, Option.join_some, ofO_some, bind_ok, cmpD, cb, g, decide_false]
      simp
  obtain ⟨a, st2, ea, hab, T2, hq2⟩ := arg
  obtain ⟨b, rfl⟩ := Int.eq_ofNat_of_zero_le b0
  obtain ⟨hbx, g1, g2⟩ := box_edge (a := a) (b := b) (by omega)
  have c25 := s25 14 st2 (a := a) (b := (b : Int)) (by omega) ⟨g1, g2⟩
  have hw : q < st2.length := (List.getElem?_eq_some_iff.mp hq2).1
  have ow : ownL st1 (.ref q) = some (q, l) := by simp only [ownL, hq1]
  have ow2 : ownL st2 (.ref q) = some (q, l) := by simp only [ownL, hq2]
  have ll : l.length < line := by simp only [line]; omega
  have s2 : evS (C 16) (.ex (.me .append (.v 6) [(.call 25 [(.ife (.cmp .gt (.v 19) (.int 0)) (.bin .sub (.call 21 [(.v 1), (.int 81)]) (.int 40)) (.int 1)), (.v 19)])])) e2 st1 = .next e2 (st2.set q (.lst (l ++ [ED (loE a b).1 (loE a b).2]))) := by
    simp only [evS_6, evE_23, evE_5, j6, j19, Option.join_some, ofO_some, bind_ok, ow, evAs_1, evAs_2, evE_21, ea, c25, meD, ow2, if_pos ll, st_ok]
  refine ⟨e2, st2.set q (.lst (l ++ [ED (loE a b).1 (loE a b).2])), _, _, step s1 (step s2 (by simp)), ⟨jl, j1, j5, j6, ?_, List.getElem?_set_self hw⟩, hbx⟩
  obtain ⟨u, v, z, hz, r1, r2⟩ := T2
  exact ⟨u, v, z, by rw [List.getElem?_set_ne d.symm]; exact hz, r1, r2⟩
theorem S3_ok {t q m : Nat} {c : Int} (P : LD3 t q m c [] env st) (d : t ≠ q) (hc : c + 10 < 900000) :
    ∃ env' st' x1 y1 x2 y2, evS (C 16) S3 env st = .next env' st' ∧ LD3 t q m (c + 2 + 2) [ED x1 y1, ED x2 y2] env' st' ∧ Bx x1 y1 ∧ Bx x2 y2 := by
  obtain ⟨e1, s1, x1, y1, h1, P1, b1⟩ := turn3 P d (by omega) (by decide) 0
  obtain ⟨e2, s2, x2, y2, h2, P2, b2⟩ := turn3 P1 d (by omega) (by simp) 1
  refine ⟨e2, s2, x1, y1, x2, y2, ?_, P2, b1, b2⟩
  have r := rngOf_nat 2 (by decide)
  have r' : rngOf [.int 2] = some ⟨[.int 0, .int 1], []⟩ := r
  refine forS (src := ⟨[.int 0, .int 1], []⟩) (by simp only [evI_1, evAs_1, evAs_2, evE_3, bind_ok, r', ofO_some]) ?_
  simp only [forL, guards_nil, if_true, h1, h2]
theorem S4_ok {t q m : Nat} {c x1 y1 x2 y2 : Int} (P : LD3 t q m c [ED x1 y1, ED x2 y2] env st) : evS (C 16) S4 env st = .next ((env.set 20 (some (ED x1 y1))).set 21 (some (ED x2 y2))) st := by
  simp [S4, P.e6, seqOf, P.at_]
theorem S5_ok {m : Nat} {x1 y1 x2 y2 : Int} (h5 : env[5]? = some (some (.int m))) (h20 : env[20]? = some (some (ED x1 y1))) (h21 : env[21]? = some (some (ED x2 y2))) (hm : 1 ≤ m ∧ m ≤ 60) (b1 : Bx x1 y1) (b2 : Bx x2 y2) :
    evS (C 16) S5 env st = .next (env.set 8 (some (.bl (SB m x1 y1 x2 y2)))) st := by
  have c := s4 14 st hm b1.v b2.v b1.bx b1.by_ b2.bx b2.by_
  simp only [S5, evS_1, evE_21, evAs_1, evAs_2, evE_5, h5, h20, h21, Option.join_some, ofO_some, bind_ok, c, st_ok, evG_1]
theorem told {m : Nat} {x y : Int} (st : Store) (hm : 1 ≤ m ∧ m ≤ 60) (hv : Vd x y) (hx : Bd x) (hy : Bd y) {k : Nat} (h : tdM m x y = some k) : CL 16 18 [.int m, ED x y] st = .ok (ED (ptN m y : Nat) k) st := by
  have c := s18 11 st hm hv hx hy
  rw [h] at c
  exact c
theorem S6_ok {m k : Nat} {x y : Int} (h5 : env[5]? = some (some (.int m))) (h20 : env[20]? = some (some (ED x y))) (hm : 1 ≤ m ∧ m ≤ 60) (b : Bx x y) (hk : tdM m x y = some k) :
    evS (C 16) S6 env st = .next (env.set 9 (some (ED (ptN m y : Nat) k))) st := by
  have c := told st hm b.v b.bx b.by_ hk
  simp only [S6, evS_1, evE_21, evAs_1, evAs_2, evE_5, h5, h20, Option.join_some, ofO_some, bind_ok, c, st_ok, evG_1]
theorem SB_comm {m : Nat} (hm : 1 ≤ m) (x1 y1 x2 y2 : Int) : SB m x2 y2 x1 y1 = SB m x1 y1 x2 y2 := by
  rw [Bool.eq_iff_iff]
  exact ⟨fun h => SB_symm hm h, fun h => SB_symm hm h⟩
theorem pds_ed : ∀ l : List (Nat × Nat), pds 59 (l.map prD) = some (l.map fun p => PySem.PyData.tuple [.int p.1, .int p.2])
  | [] => rfl
  | p :: r => by
    have ih := pds_ed r
    have e : pd 59 (prD p) = some (PySem.PyData.tuple [.int p.1, .int p.2]) := rfl
    simp only [List.map_cons, pds, e, ih]
theorem in_cu {p : Nat × Nat} {l : List (Nat × Nat)} (h : p ∈ l) (st : Store) : inD st (prD p) (.tup (l.map prD)) = some true := by
  have e1 : pd 60 (prD p) = some (.tuple [.int p.1, .int p.2]) := rfl
  have e2 : pd 60 (.tup (l.map prD)) = some (.tuple (l.map fun p => PySem.PyData.tuple [.int p.1, .int p.2])) := by simp only [pd, pds_ed, Option.map_some]
  have e3 : (l.map fun p => PySem.PyData.tuple [.int p.1, .int p.2]).any (fun y => PySem.PyData.eqv y (.tuple [.int p.1, .int p.2])) = true := by
    rw [List.any_eq_true]
    exact ⟨_, List.mem_map_of_mem h, by simp [PySem.PyData.eqv, PySem.PyData.eqvAll]⟩
  simp only [inD, items, flatB, Bool.false_and, inDat, flat1, e1, e2, e3]
  simp
theorem S7_ok {m k k2 : Nat} {x1 y1 x2 y2 : Int} (h5 : env[5]? = some (some (.int m))) (h20 : env[20]? = some (some (ED x1 y1))) (h21 : env[21]? = some (some (ED x2 y2))) (h9 : env[9]? = some (some (ED (ptN m y1 : Nat) k))) (hm : 1 ≤ m ∧ m ≤ 60) (b1 : Bx x1 y1) (b2 : Bx x2 y2) (hk : tdM m x1 y1 = some k) (hk2 : tdM m x2 y2 = some k2) :
    evS (C 16) S7 env st = .next (env.set 4 (some (.lst [.bl true, .bl (SB m x1 y1 x2 y2), .bl (SB m x1 y1 x2 y2), .bl true, .int (ptN m y1 : Nat), .bl (SB m x1 y1 x2 y2)]))) st := by
  have c29 : CL 16 29 [ED x1 y1] st = _ := s29 12 st b1.v b1.bx b1.by_
  have c30 : CL 16 30 [.int m, ED x1 y1, ED x2 y2] st = _ := s30 11 st ⟨hm.1, by omega⟩ b1.v b2.v b1.bx b1.by_ b2.bx b2.by_
  have c30' : CL 16 30 [.int m, ED x2 y2, ED x1 y1] st = _ := s30 11 st ⟨hm.1, by omega⟩ b2.v b1.v b2.bx b2.by_ b1.bx b1.by_
  rw [SB_comm hm.1] at c30'
  have c18 := told st hm b2.v b2.bx b2.by_ hk2
  have c31 : CL 16 31 [.int m] st = .ok (.tup ((cuL m).map prD)) st := by
    have e := all_range fin_cu (k := m - 1) (by omega)
    rw [show m - 1 + 1 = m by omega] at e
    exact call_fr (.any st) orA_ok gpure e 5
  obtain ⟨p1, p2, p3⟩ := pt_ok hm y1
  obtain ⟨r1, r2, r3⟩ := td_rep hm hk
  have mem := cu_mem p1 p2 p3 r1 r2
  have ci : cmpD .in_ (ED (ptN m y1 : Nat) k) (.tup ((cuL m).map prD)) st = some true := in_cu mem st
  have i0 := ED_0 (ptN m y1 : Nat) k st
  have eqs : (decide (((ptN m y2 : Nat) : Int) = (ptN m y1 : Nat)) && decide ((k2 : Int) = k)) = SB m x1 y1 x2 y2 := by
    rw [Bool.eq_iff_iff, Bool.and_eq_true, decide_eq_true_eq, decide_eq_true_eq]
    constructor
    · rintro ⟨h1, h2⟩
      have h2 : k2 = k := by omega
      subst h2
      exact td_one hm b1.v b1.by_ b2.v b2.by_ hk hk2 (by omega)
    · intro h
      have g := SB_gcd hm.1 b1.v b1.by_ b2.v b2.by_ h
      have t := td_same hm b1.v b1.by_ b2.v b2.by_ h
      rw [hk, hk2] at t
      cases t
      rw [g]
      exact ⟨rfl, rfl⟩
  have ce : cmpD .eq (ED (ptN m y2 : Nat) k2) (ED (ptN m y1 : Nat) k) st = some (SB m x1 y1 x2 y2) := by
    rw [← eqs]
    exact deq_ed st _ _ _ _
  simp only [S7, evS_1, evE_8, evAs_1, evAs_2, evE_21, evE_15, evE_18, evE_3, evE_5, h5, h20, h21, h9, Option.join_some, ofO_some, bind_ok, c29, c30, c30', c31, ci, i0, c18, ce, st_ok, evG_1]
theorem S8_ok {m : Nat} {x1 y1 : Int} {b : Bool} (h5 : env[5]? = some (some (.int m))) (h20 : env[20]? = some (some (ED x1 y1))) (h8 : env[8]? = some (some (.bl b))) (h4 : env[4]? = some (some (.lst [.bl true, .bl b, .bl b, .bl true, .int (ptN m y1 : Nat), .bl b]))) (hm : 1 ≤ m ∧ m ≤ 60) : evS (C 16) S8 env st = .next env st := by
  have g : CL 16 20 [.int y1, .int m] st = .ok (.int (ptN m y1 : Nat)) st := g20 15 st (by omega)
  have i1 := ED_1 x1 y1 st
  have sm : CL 16 1 [.lst [.bl true, .bl b, .bl b, .bl true, .int (ptN m y1 : Nat), .bl b], .lst [.bl true, .bl b, .bl b, .bl true, .int (ptN m y1 : Nat), .bl b]] st = .ok (.bl true) st := same 13 2 _ st rfl
  simp only [S8, evS_9, evT_1, evT_8, evE_8, evAs_1, evAs_2, evE_21, evE_18, evE_2, evE_3, evE_5, h5, h20, h8, h4, Option.join_some, ofO_some, bind_ok, i1, g, sm]
  simp [truD]
end
end Law

set_option Elab.async false
set_option linter.all false
set_option maxRecDepth 100000
set_option autoImplicit false
namespace Law
open PySem.Spec Ev
section
variable {st : Store} {env : Env}
/-- the edge that stands for what is told -/
def stX (m k : Nat) (y : Int) : Int := (ebF (ptN m y) k (shN m (ptN m y)) : Nat)
theorem st_ok' {m k : Nat} {x y : Int} (hm : 1 ≤ m ∧ m ≤ 60) (hk : tdM m x y = some k) : Vd (stX m k y) (ptN m y : Nat) ∧ Bd (stX m k y) ∧ Bd (ptN m y : Nat) ∧ SB m x y (stX m k y) (ptN m y : Nat) = true ∧ CL 16 19 [.int m, .int (ptN m y : Nat), .int k] st = .ok (ED (stX m k y) (ptN m y : Nat)) st := by
  obtain ⟨p1, p2, p3⟩ := pt_ok hm y
  obtain ⟨h1, h2, h3⟩ := sh_ok hm p1 p3
  obtain ⟨r1, r2, r3⟩ := td_rep hm hk
  obtain ⟨_, ve, be, bp⟩ := eb_ok (p := ptN m y) (k := k) (s := shN m (ptN m y)) ⟨p1, by omega⟩ ⟨h1, h2⟩ r1 h3 r2
  exact ⟨ve, be, bp, r3, s19 11 st hm p1 p3 r1 r2⟩
theorem S9_ok {m k : Nat} {x y : Int} (h5 : env[5]? = some (some (.int m))) (h9 : env[9]? = some (some (ED (ptN m y : Nat) k))) (hm : 1 ≤ m ∧ m ≤ 60) (hk : tdM m x y = some k) :
    evS (C 16) S9 env st = .next (env.set 10 (some (ED (stX m k y) (ptN m y : Nat)))) st := by
  obtain ⟨_, _, _, _, c⟩ := st_ok' (st := st) hm hk
  have i0 := ED_0 (ptN m y : Nat) k st
  have i1 := ED_1 (ptN m y : Nat) k st
  simp only [S9, evS_1, evE_21, evAs_1, evAs_2, evE_18, evE_3, evE_5, h5, h9, Option.join_some, ofO_some, bind_ok, i0, i1, c, st_ok, evG_1]
theorem S10_ok {m k : Nat} {x y : Int} (h5 : env[5]? = some (some (.int m))) (h9 : env[9]? = some (some (ED (ptN m y : Nat) k))) (h10 : env[10]? = some (some (ED (stX m k y) (ptN m y : Nat)))) (h20 : env[20]? = some (some (ED x y))) (hm : 1 ≤ m ∧ m ≤ 60) (b : Bx x y) (hk : tdM m x y = some k) :
    evS (C 16) S10 env st = .next env st := by
  obtain ⟨ve, be, bp, sb, _⟩ := st_ok' (st := st) hm hk
  have sb' := SB_symm hm.1 sb
  have c30 : CL 16 30 [.int m, ED (stX m k y) (ptN m y : Nat), ED x y] st = _ := s30 11 st ⟨hm.1, by omega⟩ ve b.v be bp b.bx b.by_
  have c4 : CL 16 4 [.int m, ED (stX m k y) (ptN m y : Nat), ED x y] st = _ := s4 14 st hm ve b.v be bp b.bx b.by_
  have c18 := told st hm ve be bp (k := k) (by rw [← td_same hm b.v b.by_ ve bp sb]; exact hk)
  have gp := SB_gcd hm.1 b.v b.by_ ve bp sb
  rw [← gp] at c18
  rw [sb'] at c30 c4
  have sm : CL 16 1 [.lst [.bl true, ED (ptN m y : Nat) k], .lst [.bl true, ED (ptN m y : Nat) k]] st = .ok (.bl true) st := same 13 2 _ st rfl
  simp only [S10, evS_9, evT_1, evT_3, evTOr_1, evTOr_2, evT_8, evE_8, evAs_1, evAs_2, evE_21, evE_2, evE_5, h5, h9, h10, h20, Option.join_some, ofO_some, bind_ok, c30, c18, sm, c4, truD]
  simp
theorem S11_ok {m k : Nat} {y : Int} (h5 : env[5]? = some (some (.int m))) (h9 : env[9]? = some (some (ED (ptN m y : Nat) k))) (hm : 1 ≤ m ∧ m ≤ 60) : evS (C 16) S11 env st = .next (env.set 11 (some (.int (shN m (ptN m y) : Nat)))) st := by
  obtain ⟨p1, p2, p3⟩ := pt_ok hm y
  obtain ⟨dq, hdq⟩ : ∃ dq : Nat, dq = m / ptN m y := ⟨_, rfl⟩
  have fd : binI .fdiv (m : Int) (ptN m y : Nat) = some (dq : Int) := by
    rw [fdivB (by omega) (by omega), hdq]
    rfl
  have dl : dq ≤ m := by
    rw [hdq]
    exact Nat.div_le_self _ _
  have gs : CL 16 20 [.int (ptN m y : Nat), .int (dq : Int)] st = .ok (.int (shN m (ptN m y) : Nat)) st := by
    have : CL 16 20 [.int (ptN m y : Nat), .int (dq : Int)] st = _ := g20 15 st (a := (ptN m y : Nat)) (b := (dq : Int)) (by omega)
    rw [gcdN] at this
    rw [shN, ← hdq]
    exact this
  have i0 := ED_0 (ptN m y : Nat) k st
  simp only [S11, evS_1, evE_10, evE_21, evAs_1, evAs_2, evE_18, evE_3, evE_5, h5, h9, Option.join_some, ofO_some, bind_ok, i0, binD, binInt, fd, gs, st_ok, evG_1]
theorem S12_ok {m k : Nat} {x y : Int} (h5 : env[5]? = some (some (.int m))) (h9 : env[9]? = some (some (ED (ptN m y : Nat) k))) (h11 : env[11]? = some (some (.int (shN m (ptN m y) : Nat)))) (h20 : env[20]? = some (some (ED x y))) (hm : 1 ≤ m ∧ m ≤ 60) (b : Bx x y) : evS (C 16) S12 env st = .next env st := by
  obtain ⟨p1, p2, p3⟩ := pt_ok hm y
  obtain ⟨s1, s2, s3⟩ := sh_ok hm p1 p3
  have c32 : CL 16 32 [.int m, ED x y] st = _ := s32 11 st hm b.v b.bx b.by_
  have i0 := ED_0 (ptN m y : Nat) k st
  generalize ptN m y = p at *
  generalize shN m p = s at *
  have mu := mulS (a := (p : Int)) (b := (s : Int)) ⟨by omega, by omega⟩
  have pp : 1 ≤ (p : Int) * s := by
    have : (1 : Int) * 1 ≤ (p : Int) * s := Int.mul_le_mul (by omega) (by omega) (by omega) (by omega)
    omega
  have pq : (p : Int) * s ≤ 60 * 7 := Int.mul_le_mul (by omega) (by omega) (by omega) (by omega)
  have fd := fdivB (k := (m : Int)) (o := (p : Int) * s) pp (by omega)
  have sm : CL 16 1 [.int ((m : Int) / ((p : Int) * s)), .int ((m : Int) / ((p : Int) * s))] st = .ok (.bl true) st := same 13 2 _ st rfl
  simp only [S12, evS_9, evT_1, evT_8, evE_10, evE_21, evAs_1, evAs_2, evE_18, evE_3, evE_5, h5, h9, h11, h20, Option.join_some, ofO_some, bind_ok, i0, binD, binInt, mu, fd, c32, sm]
  simp [truD]
/-! ### a table of the level -/
theorem S13_ok {m t : Nat} {k : Int} (h1 : env[1]? = some (some (.ref t))) (h5 : env[5]? = some (some (.int m))) (hm : 1 ≤ m ∧ m ≤ 60) (T : Tin st t k) (hk : k < 900000) :
    ∃ (e : Int) (st' : Store), evS (C 16) S13 env st = .next (env.set 12 (some (.int ((m : Int) * e)))) st' ∧ (-2 ≤ e ∧ e ≤ 2) ∧ Tin st' t (k + 1) := by
  obtain ⟨r, st1, e1, r0, r1, T1, c1, l1⟩ := drawN 15 5 T (by decide) (by decide) (by omega)
  have b1 : binI .sub r 2 = some (r - 2) := rfl
  have b2 := mulS (a := (m : Int)) (b := r - 2) ⟨by omega, by omega⟩
  refine ⟨r - 2, st1, ?_, by omega, T1⟩
  simp only [S13, evS_1, evAs_1, evAs_2, evE_10, evE_3, evE_21, evE_5, h1, h5, Option.join_some, ofO_some, bind_ok, e1, binD, binInt, b1, b2, st_ok, evG_1]
theorem of_ok (L : Nat) {st : Store} {t : Nat} {k : Int} {gl : List Int} (T : Tin st t k) (hk : k < 900000) (h0 : 1 ≤ gl.length) (h1 : gl.length ≤ 500) : ∃ (x : Int) (st' : Store), CL (L + 2) 22 [.ref t, .lst (intsL gl)] st = .ok (.int x) st' ∧ x ∈ gl ∧ Tin st' t (k + 1) := by
  obtain ⟨r, st1, e1, r0, r1, T1, c1, l1⟩ := drawN L (gl.length : Int) T (by omega) (by omega) (by omega)
  have ix : ixD (.lst (intsL gl)) (.int r) st1 = .ok (.int (gl.getD r.toNat 0)) st1 := by
    have q := atI_row (xs := gl) r0 r1
    simp only [intsL] at q
    simp [ixD, items, q]
  have mem : gl.getD r.toNat 0 ∈ gl := by
    rw [List.getD_eq_getElem?_getD, List.getElem?_eq_getElem (by omega)]
    exact List.getElem_mem _
  generalize gl.getD r.toNat 0 = x at ix mem
  refine ⟨x, st1, ?_, mem, T1⟩
  show runF (C (L + 1)) f22 _ _ = _
  have lx : lenD st (.lst (intsL gl)) = some (gl.length : Int) := by simp [lenD, items]
  have q : evSs (C (L + 1)) f22.ir (startE f22.N [.ref t, .lst (intsL gl)]) st = .ret (.int x) st1 := by
    simp only [f22, startE, evSs_cons, evS_7, evE_18, evE_21, evE_22, evE_5, evAs_1, evAs_2]
    simp only [intsL] at lx ix
    simp [biD, biD1, lx, e1, ix]
  rw [runF_ret q]
  have l2 : stSame st st1 = true ∨ stSame st st1 = false := by cases stSame st st1 <;> simp
  rcases l2 with h | h
  · obtain ⟨r, er⟩ := stSame_eq h
    have : r = [] := by
      have := congrArg List.length er
      rw [l1, List.length_append] at this
      exact List.eq_nil_of_length_eq_zero (by omega)
    rw [this, List.append_nil] at er
    rw [er]
    exact finD_pure rfl
  · unfold finD
    simp [h]
theorem S14_ok {t : Nat} {k c : Int} (h1 : env[1]? = some (some (.ref t))) (h12 : env[12]? = some (some (.int c))) (hc : -200 ≤ c ∧ c ≤ 200) (hl : env.length = 24) (T : Tin st t k) (hk : k < 900000) :
    ∃ (d : Int) (st' : Store), evS (C 16) S14 env st = .next (env.set 13 (some (.int d))) st' ∧ (1 ≤ d ∧ d ≤ 39) ∧ Int.gcd d c = 1 ∧ Tin st' t (k + 1) := by
  have lc := lc_ft (c := C 16) (elt := .v 22) (it := .rng [(.int 1), (.int 40)]) (tst := .cmp .eq (.call 20 [(.v 22), (.v 12)]) (.int 1)) (i := 22) (env := env) (st := st) (xs := from1 39) (fun o => decide (Int.gcd o c = 1)) (fun o => .int o)
    (by
      have r := rng2 1 40 (by decide) (by decide)
      have r' : rngOf [.int 1, .int 40] = some ⟨intsL (from1 39), []⟩ := r
      simp only [evI_1, evAs_1, evAs_2, evE_3, bind_ok, r', ofO_some])
    (fun o ho => by
      have g12 : ((env.set 22 none).set 22 (some (.int o)))[12]? = some (some (.int c)) := set_ne (set_ne h12 (by decide)) (by decide)
      have g22 : ((env.set 22 none).set 22 (some (.int o)))[22]? = some (some (.int o)) := set_eq (by simp [hl])
      have g : CL 16 20 [.int o, .int c] st = .ok (.int (Int.gcd o c : Nat)) st := g20 15 st (by omega)
      have ce : cmpD .eq (.int (Int.gcd o c : Nat)) (.int 1) st = some (decide (Int.gcd o c = 1)) := by
        have : decide (((Int.gcd o c : Nat) : Int) = 1) = decide (Int.gcd o c = 1) := by
          by_cases q : Int.gcd o c = 1
          · simp [q]
          · have : ¬ ((Int.gcd o c : Nat) : Int) = 1 := by omega
            simp [q, this]
        simp only [cmpD, deq_int, this]
      simp only [evT_4, evE_21, evAs_1, evAs_2, evE_3, evE_5, g12, g22, Option.join_some, ofO_some, bind_ok, g, ce])
    (fun o ho _ => by
      have g22 : ((env.set 22 none).set 22 (some (.int o)))[22]? = some (some (.int o)) := set_eq (by simp [hl])
      simp only [evE_5, g22, Option.join_some, ofO_some])
  have m1 : (1 : Int) ∈ (from1 39).filter fun o => decide (Int.gcd o c = 1) := by
    refine List.mem_filter.mpr ⟨by decide, decide_eq_true ?_⟩
    exact Int.one_gcd
  obtain ⟨d, st1, e1, hd, T1⟩ := of_ok 14 (gl := (from1 39).filter fun o => decide (Int.gcd o c = 1)) T hk (List.length_pos_of_mem m1) (Nat.le_trans (List.length_filter_le _ _) (by decide))
  obtain ⟨d1, d2⟩ := List.mem_filter.mp hd
  have d3 := from1_pos d1
  refine ⟨d, st1, ?_, by omega, by simpa using d2, T1⟩
  have e1' : CL 16 22 [.ref t, .lst (((from1 39).filter fun o => decide (Int.gcd o c = 1)).map fun o => .int o)] st = .ok (.int d) st1 := e1
  simp only [S14, evS_1, evE_21, evAs_2, evAs_1, evE_5, h1, Option.join_some, ofO_some, bind_ok, lc, e1', st_ok, evG_1]
/-- a, a + 1, .. -/
def rgZ (a : Int) (n : Nat) : List Int := (List.range n).map fun i : Nat => a + i
theorem rngZ {a b : Int} (ha : -1000 ≤ a ∧ a ≤ 1000) (hb : -1000 ≤ b ∧ b ≤ 1000) : rngOf [.int a, .int b] = some ⟨intsL (rgZ a (b - a).toNat), []⟩ := by
  have g1 : near a = true := by simp only [near, Bool.and_eq_true, decide_eq_true_eq]; omega
  have g2 : near b = true := by simp only [near, Bool.and_eq_true, decide_eq_true_eq]; omega
  have g3 : (b - a).toNat ≤ line := by simp only [line]; omega
  simp only [rngOf, g1, g2, g3, Bool.and_true, decide_true, if_true, rngD_eq, Bool.and_self]
  simp [rgZ, Function.comp_def]
theorem rgZ_mem {a : Int} {n : Nat} {o : Int} : o ∈ rgZ a n ↔ a ≤ o ∧ o < a + n := by
  unfold rgZ
  rw [List.mem_map]
  constructor
  · rintro ⟨i, hi, rfl⟩
    have := List.mem_range.mp hi
    omega
  · intro h
    exact ⟨(o - a).toNat, List.mem_range.mpr (by omega), by omega⟩
/-- the numbers that a may be -/
def alL (c d : Int) : List Int := if c = 0 then [1] else (rgZ (-(c.natAbs : Int) - 1) (2 * c.natAbs + 3)).filter fun o => decide ((o * d - 1) % (c.natAbs : Int) = 0)
theorem S15_ok {c d : Int} (h12 : env[12]? = some (some (.int c))) (h13 : env[13]? = some (some (.int d))) (hc : -200 ≤ c ∧ c ≤ 200) (hd : 1 ≤ d ∧ d ≤ 39) (hl : env.length = 24) : evS (C 16) S15 env st = .next (env.set 14 (some (.lst (intsL (alL c d))))) st := by
  have cn : cmpD .ne (.int c) (.int 0) st = some (!decide (c = 0)) := by simp only [cmpD, deq_int, Option.map_some]
  unfold alL
  by_cases q : c = 0
  · rw [if_pos q]
    rw [decide_eq_true q] at cn
    simp only [S15, evS_1, evE_17, evT_4, evE_3, evE_5, h12, Option.join_some, ofO_some, bind_ok, cn]
    simp
  · rw [if_neg q]
    rw [decide_eq_false q] at cn
    have ab : absD (.int c) = some (c.natAbs : Int) := by
      show some (if c < 0 then -c else c) = some (c.natAbs : Int)
      by_cases q : c < 0
      · rw [if_pos q]; congr 1; omega
      · rw [if_neg q]; congr 1; omega
    have lc := lc_ft (c := C 16) (elt := .v 22) (it := .rng [(.bin .sub (.neg (.bi .abs [(.v 12)])) (.int 1)), (.bin .add (.bi .abs [(.v 12)]) (.int 2))]) (tst := .cmp .eq (.bin .mod (.bin .sub (.bin .mul (.v 22) (.v 13)) (.int 1)) (.ife (.cmp .ne (.v 12) (.int 0)) (.bi .abs [(.v 12)]) (.bin .pow (.int 10) (.int 9)))) (.int 0)) (i := 22) (env := env) (st := st) (xs := rgZ (-(c.natAbs : Int) - 1) (2 * c.natAbs + 3)) (fun o => decide ((o * d - 1) % (c.natAbs : Int) = 0)) (fun o => .int o)
      (by
        have r := rngZ (a := -(c.natAbs : Int) - 1) (b := (c.natAbs : Int) + 2) (by omega) (by omega)
        rw [show ((c.natAbs : Int) + 2 - (-(c.natAbs : Int) - 1)).toNat = 2 * c.natAbs + 3 by omega] at r
        have n1 : negD (.int (c.natAbs : Int)) = some (-(c.natAbs : Int)) := rfl
        have b1 : binI .sub (-(c.natAbs : Int)) 1 = some (-(c.natAbs : Int) - 1) := rfl
        have b2 : binI .add (c.natAbs : Int) 2 = some ((c.natAbs : Int) + 2) := rfl
        simp only [evI_1, evAs_1, evAs_2, evE_10, evE_11, evE_22, evE_3, evE_5, h12, Option.join_some, biD, biD1, ab, ofO_some, bind_ok, n1, binD, binInt, b1, b2, r])
      (fun o ho => by
        have ho := rgZ_mem.mp ho
        have g12 : ((env.set 22 none).set 22 (some (.int o)))[12]? = some (some (.int c)) := set_ne (set_ne h12 (by decide)) (by decide)
        have g13 : ((env.set 22 none).set 22 (some (.int o)))[13]? = some (some (.int d)) := set_ne (set_ne h13 (by decide)) (by decide)
        have g22 : ((env.set 22 none).set 22 (some (.int o)))[22]? = some (some (.int o)) := set_eq (by simp [hl])
        have b1 := mulS (a := o) (b := d) ⟨by omega, by omega⟩
        have b2 : binI .sub (o * d) 1 = some (o * d - 1) := rfl
        have b3 : binI .mod (o * d - 1) (c.natAbs : Int) = _ := mod_pos (by omega)
        have ce : cmpD .eq (.int ((o * d - 1) % (c.natAbs : Int))) (.int 0) st = some (decide ((o * d - 1) % (c.natAbs : Int) = 0)) := by simp only [cmpD, deq_int]
        simp only [evT_4, evE_10, evE_17, evE_22, evAs_1, evAs_2, evE_3, evE_5, g12, g13, g22, Option.join_some, ofO_some, bind_ok, binD, binInt, b1, b2, cn, Bool.not_false, if_true, biD, biD1, ab, b3, ce])
      (fun o ho _ => by
        have g22 : ((env.set 22 none).set 22 (some (.int o)))[22]? = some (some (.int o)) := set_eq (by simp [hl])
        simp only [evE_5, g22, Option.join_some, ofO_some])
    simp only [S15, evS_1, evE_17, evT_4, evE_3, evE_5, h12, Option.join_some, ofO_some, bind_ok, cn, Bool.not_false, if_true, lc, st_ok, evG_1]
theorem al_ne {c d : Int} (hg : Int.gcd d c = 1) : alL c d ≠ [] := by
  unfold alL
  by_cases q : c = 0
  · rw [if_pos q]
    simp
  · rw [if_neg q]
    obtain ⟨u, v, e⟩ := bez d c
    rw [hg] at e
    have r0 := Int.emod_nonneg u (show (c.natAbs : Int) ≠ 0 by omega)
    have r1 := Int.emod_lt_of_pos u (show 0 < (c.natAbs : Int) by omega)
    have mem : u % (c.natAbs : Int) ∈ (rgZ (-(c.natAbs : Int) - 1) (2 * c.natAbs + 3)).filter fun o => decide ((o * d - 1) % (c.natAbs : Int) = 0) := by
      refine List.mem_filter.mpr ⟨rgZ_mem.mpr ⟨by omega, by omega⟩, decide_eq_true (Int.emod_eq_zero_of_dvd ?_)⟩
      obtain ⟨w, hw⟩ : ∃ w : Int, c = w * (c.natAbs : Int) := by
        rcases Int.natAbs_eq c with h | h
        · exact ⟨1, by omega⟩
        · exact ⟨-1, by omega⟩
      rw [Int.emod_def]
      refine ⟨-(u / (c.natAbs : Int)) * d - v * w, ?_⟩
      have e2 : u * d + v * (w * (c.natAbs : Int)) = 1 := by rw [← hw]; exact e
      grind
    intro z
    rw [z] at mem
    cases mem
/-- the table's numbers -/
def TB (m : Nat) (a b c d : Int) : Prop := a * d - b * c = 1 ∧ (-200 ≤ a ∧ a ≤ 200) ∧ (-5000 ≤ b ∧ b ≤ 5000) ∧ (-200 ≤ c ∧ c ≤ 200) ∧ (-200 ≤ d ∧ d ≤ 200) ∧ ∃ e, c = (m : Int) * e
theorem S16_ok {c d : Int} (h12 : env[12]? = some (some (.int c))) (h13 : env[13]? = some (some (.int d))) : evS (C 16) S16 env st = .next (env.set 13 (some (.int (if c = 0 then 1 else d)))) st := by
  have cn : cmpD .ne (.int c) (.int 0) st = some (!decide (c = 0)) := by simp only [cmpD, deq_int, Option.map_some]
  by_cases q : c = 0
  · rw [if_pos q]
    rw [decide_eq_true q] at cn
    simp only [S16, evS_1, evE_17, evT_4, evE_3, evE_5, h12, Option.join_some, ofO_some, bind_ok, cn]
    simp
  · rw [if_neg q]
    rw [decide_eq_false q] at cn
    simp only [S16, evS_1, evE_17, evT_4, evE_3, evE_5, h12, h13, Option.join_some, ofO_some, bind_ok, cn, Bool.not_false, if_true, st_ok, evG_1]
theorem S17_ok {t m : Nat} {k c d : Int} (h1 : env[1]? = some (some (.ref t))) (h12 : env[12]? = some (some (.int c))) (h13 : env[13]? = some (some (.int (if c = 0 then 1 else d)))) (h14 : env[14]? = some (some (.lst (intsL (alL c d))))) (hc : -120 ≤ c ∧ c ≤ 120) (he : ∃ e, c = (m : Int) * e) (hd : 1 ≤ d ∧ d ≤ 39) (hg : Int.gcd d c = 1) (T : Tin st t k) (hk : k < 900000) :
    ∃ (a b : Int) (st' : Store), evS (C 16) S17 env st = .next (env.set 15 (some (.int b))) st' ∧ TB m a b c (if c = 0 then 1 else d) ∧ (∀ st, ixD (.lst (intsL (alL c d))) (.int 0) st = .ok (.int a) st) ∧ Tin st' t (k + 1) := by
  have ne := al_ne hg
  obtain ⟨a, ha⟩ : ∃ a, a = (alL c d).getD 0 0 := ⟨_, rfl⟩
  have hlen : 0 < (alL c d).length := List.length_pos_iff.mpr ne
  have mem : a ∈ alL c d := by
    rw [ha, List.getD_eq_getElem?_getD, List.getElem?_eq_getElem hlen]
    exact List.getElem_mem _
  have ix : ∀ st, ixD (.lst (intsL (alL c d))) (.int 0) st = .ok (.int a) st := fun st => by
    have q := atI_row (xs := alL c d) (i := 0) (by omega) (by omega)
    have e0 : (alL c d).getD (0 : Int).toNat 0 = a := ha.symm
    rw [e0] at q
    simp only [intsL] at q
    simp [ixD, items, q]
  have cn : cmpD .ne (.int c) (.int 0) st = some (!decide (c = 0)) := by simp only [cmpD, deq_int, Option.map_some]
  generalize hal : alL c d = al at *
  by_cases q : c = 0
  · have a1 : a = 1 := by
      unfold alL at hal
      rw [if_pos q] at hal
      rw [← hal] at mem
      simpa using mem
    rw [if_pos q] at h13 ⊢
    rw [decide_eq_true q] at cn
    obtain ⟨r, st1, e1, r0, r1, T1, c1, l1⟩ := drawN 15 9 T (by decide) (by decide) (by omega)
    have b1 : binI .sub r 4 = some (r - 4) := rfl
    refine ⟨a, r - 4, st1, ?_, ⟨by rw [a1, q]; omega, by omega, by omega, by omega, by omega, he⟩, ix, T1⟩
    simp only [S17, evS_1, evE_17, evT_4, evE_10, evE_21, evAs_1, evAs_2, evE_3, evE_5, h1, h12, Option.join_some, ofO_some, bind_ok, cn]
    simp [h1, e1, binD, binInt, b1]
  · have am : (-(c.natAbs : Int) - 1 ≤ a ∧ a < -(c.natAbs : Int) - 1 + (2 * c.natAbs + 3 : Nat)) ∧ (a * d - 1) % (c.natAbs : Int) = 0 := by
      unfold alL at hal
      rw [if_neg q] at hal
      rw [← hal] at mem
      obtain ⟨m1, m2⟩ := List.mem_filter.mp mem
      exact ⟨rgZ_mem.mp m1, by simpa using m2⟩
    obtain ⟨b, hb⟩ : ∃ b, a * d - 1 = c * b := by
      have := Int.dvd_of_emod_eq_zero am.2
      obtain ⟨w, hw⟩ := this
      rcases Int.natAbs_eq c with h | h
      · exact ⟨w, by rw [hw, ← h]⟩
      · refine ⟨-w, ?_⟩
        have : (c.natAbs : Int) = -c := by omega
        rw [hw, this]
        grind
    rw [if_neg q] at h13 ⊢
    rw [decide_eq_false q] at cn
    have bA : -121 ≤ a ∧ a ≤ 121 := by omega
    have adl : a * d ≤ 121 * 39 := by
      have h1 : a * d ≤ 121 * d := Int.mul_le_mul_of_nonneg_right bA.2 (by omega)
      omega
    have adg : -(121 * 39) ≤ a * d := by
      have h1 : (-121) * d ≤ a * d := Int.mul_le_mul_of_nonneg_right bA.1 (by omega)
      omega
    have bb : -5000 ≤ b ∧ b ≤ 5000 := by
      have n1 : (c * b).natAbs = c.natAbs * b.natAbs := Int.natAbs_mul c b
      have n2 : 1 * b.natAbs ≤ c.natAbs * b.natAbs := Nat.mul_le_mul_right _ (by omega)
      omega
    have fd : binI .fdiv (c * b) c = some b := by
      rcases Int.lt_or_gt_of_ne q with h | h
      · have h3 : ¬ 0 < c := by omega
        have h4 : c < 0 ∧ c.natAbs < 1073741824 := ⟨h, by omega⟩
        simp only [binI, if_neg h3, if_pos h4, Option.some.injEq]
        exact Int.mul_fdiv_cancel_left b q
      · rw [fdivB (by omega) (by omega)]
        congr 1
        exact Int.mul_ediv_cancel_left b q
    have m1 := mulS (a := a) (b := d) ⟨by omega, by omega⟩
    have m2 : binI .sub (a * d) 1 = some (c * b) := by
      show some (a * d - 1) = _
      rw [hb]
    refine ⟨a, b, st, ?_, ⟨by grind, by omega, bb, by omega, by omega, he⟩, ix, T.mono (by omega)⟩
    simp only [S17, evS_1, evE_17, evT_4, evE_10, evE_18, evE_3, evE_5, h12, h13, h14, Option.join_some, ofO_some, bind_ok, cn, Bool.not_false, if_true, ix, binD, binInt, m1, m2, fd, st_ok, evG_1]
/-! ### where it leads -/
theorem gcd_wit {X Y u v : Int} (h : u * X + v * Y = 1) : Int.gcd X Y = 1 := by
  have h1 : ((Int.gcd X Y : Nat) : Int) ∣ 1 := by
    rw [← h]
    exact Int.dvd_add (Int.dvd_mul_of_dvd_right (Int.gcd_dvd_left _ _)) (Int.dvd_mul_of_dvd_right (Int.gcd_dvd_right _ _))
  have := Int.ofNat_dvd.mp (show ((Int.gcd X Y : Nat) : Int) ∣ ((1 : Nat) : Int) from h1)
  exact Nat.dvd_one.mp this
theorem lo_one {X Y : Int} (h : Int.gcd X Y = 1) : ∃ s : Int, (s = 1 ∨ s = -1) ∧ (loE X Y).1 = s * X ∧ (loE X Y).2 = s * Y ∧ Vd (s * X) (s * Y) := by
  have d1 : X / ((1 : Nat) : Int) = X := Int.ediv_one X
  have d2 : Y / ((1 : Nat) : Int) = Y := Int.ediv_one Y
  unfold loE
  rw [h, d1, d2]
  by_cases q : Y = 0
  · rw [if_pos q]
    subst q
    have hx : X.natAbs = 1 := by simpa [Int.gcd] using h
    rcases Int.natAbs_eq X with e | e
    · exact ⟨1, .inl rfl, by omega, by omega, .inl ⟨by omega, by omega⟩⟩
    · exact ⟨-1, .inr rfl, by omega, by omega, .inl ⟨by omega, by omega⟩⟩
  · rw [if_neg q]
    by_cases q2 : 0 < Y
    · rw [if_pos q2]
      exact ⟨1, .inl rfl, by omega, by omega, .inr ⟨by omega, by rw [Int.one_mul, Int.one_mul]; exact h⟩⟩
    · rw [if_neg q2]
      refine ⟨-1, .inr rfl, by omega, by omega, .inr ⟨by omega, ?_⟩⟩
      have e1 : -1 * X = -X := by omega
      have e2 : -1 * Y = -Y := by omega
      rw [e1, e2, Int.neg_gcd, Int.gcd_neg]
      exact h
theorem led_ok {m : Nat} (hm : 1 ≤ m ∧ m ≤ 60) {a b c d x y : Int} (tb : TB m a b c d) (hb : Bx x y) : Int.gcd (a * x + b * y) (c * x + d * y) = 1 ∧ (c * x + d * y).natAbs < 1000000 ∧
    Vd (loE (a * x + b * y) (c * x + d * y)).1 (loE (a * x + b * y) (c * x + d * y)).2 ∧ Bd (loE (a * x + b * y) (c * x + d * y)).1 ∧ Bd (loE (a * x + b * y) (c * x + d * y)).2 ∧
    SB m x y (loE (a * x + b * y) (c * x + d * y)).1 (loE (a * x + b * y) (c * x + d * y)).2 = true := by
  obtain ⟨det, ba, bb, bc, bd, e, he⟩ := tb
  obtain ⟨⟨q, e1⟩, n0, n1⟩ := nV_ok hb.v hb.by_
  have hy0 := hb.v.nn
  have hx := hb.2.1
  have hy := hb.2.2
  have w : (d * nV x y - c * q) * (a * x + b * y) + (-b * nV x y + a * q) * (c * x + d * y) = 1 := by
    have : (a * d - b * c) * (nV x y * x + q * y) = 1 := by rw [det, e1]; rfl
    grind
  have g := gcd_wit w
  have small : ∀ u v : Int, -5000 ≤ u ∧ u ≤ 5000 → -40 ≤ v ∧ v ≤ 40 → -200000 ≤ u * v ∧ u * v ≤ 200000 := fun u v hu hv => by
    have n1 : (u * v).natAbs = u.natAbs * v.natAbs := Int.natAbs_mul u v
    have n2 : u.natAbs * v.natAbs ≤ 5000 * 40 := Nat.mul_le_mul (by omega) (by omega)
    omega
  have s1 := small a x (by omega) hx
  have s2 := small b y (by omega) (by omega)
  have s3 := small c x (by omega) hx
  have s4 := small d y (by omega) (by omega)
  obtain ⟨s, hs, l1, l2, hv⟩ := lo_one g
  have hB1 : Bd (s * (a * x + b * y)) := by
    unfold Bd
    rcases hs with rfl | rfl <;> omega
  have hB2 : Bd (s * (c * x + d * y)) := by
    unfold Bd
    rcases hs with rfl | rfl <;> omega
  have ss : s * s = 1 := by rcases hs with rfl | rfl <;> rfl
  refine ⟨g, by omega, by rw [l1, l2]; exact hv, by rw [l1]; exact hB1, by rw [l2]; exact hB2, ?_⟩
  rw [l1, l2]
  have w2 : (s * (d * nV x y - c * q)) * (s * (a * x + b * y)) + (s * (-b * nV x y + a * q)) * (s * (c * x + d * y)) = 1 := by grind
  refine (SB_wit hm.1 hb.v hv hb.by_ hB2 e1 w2).mpr ⟨0, s * e, ?_⟩
  have : nV x y * x = 1 - q * y := by omega
  rw [he]
  grind
end
end Law

set_option Elab.async false
set_option linter.all false
set_option maxRecDepth 100000
set_option autoImplicit false
namespace Law
open PySem.Spec Ev
section
variable {st : Store} {env : Env}
theorem S18_ok {m : Nat} {a b c d x y : Int} {al : List Int} (h12 : env[12]? = some (some (.int c))) (h13 : env[13]? = some (some (.int d))) (h14 : env[14]? = some (some (.lst (intsL al)))) (h15 : env[15]? = some (some (.int b))) (h20 : env[20]? = some (some (ED x y))) (ix : ∀ st, ixD (.lst (intsL al)) (.int 0) st = .ok (.int a) st) (hm : 1 ≤ m ∧ m ≤ 60) (tb : TB m a b c d) (hb : Bx x y) :
    evS (C 16) S18 env st = .next (env.set 16 (some (ED (loE (a * x + b * y) (c * x + d * y)).1 (loE (a * x + b * y) (c * x + d * y)).2))) st := by
  obtain ⟨g, hY, hV, hB1, hB2, _⟩ := led_ok hm tb hb
  obtain ⟨det, ba, bb, bc, bd, _⟩ := tb
  have c24 : CL 16 24 [TD a b c d, ED x y] st = _ := s24 11 st hb.v hb.2.1 hb.2.2 ba bb bc bd det g hV hB1 hB2 hY
  simp only [S18, evS_1, evE_21, evE_7, evE_18, evAs_1, evAs_2, evE_3, evE_5, h12, h13, h14, h15, h20, Option.join_some, ofO_some, bind_ok, ix, c24, st_ok, evG_1]
theorem S19_ok {m : Nat} {a b c d x y : Int} {al : List Int} (h12 : env[12]? = some (some (.int c))) (h13 : env[13]? = some (some (.int d))) (h14 : env[14]? = some (some (.lst (intsL al)))) (h15 : env[15]? = some (some (.int b))) (h20 : env[20]? = some (some (ED x y))) (ix : ∀ st, ixD (.lst (intsL al)) (.int 0) st = .ok (.int a) st) (hm : 1 ≤ m ∧ m ≤ 60) (tb : TB m a b c d) (hb : Bx x y) :
    evS (C 16) S19 env st = .next (env.set 17 (some (ED (loE (a * x + b * y) (c * x + d * y)).1 (loE (a * x + b * y) (c * x + d * y)).2))) st := by
  obtain ⟨g, hY, hV, hB1, hB2, _⟩ := led_ok hm tb hb
  obtain ⟨det, ba, bb, bc, bd, _⟩ := tb
  have c25 : CL 16 25 [.int (a * x + b * y), .int (c * x + d * y)] st = _ := s25 14 st hY (by omega)
  have m3 := mulS (a := a) (b := x) ⟨by omega, by omega⟩
  have m4 := mulS (a := b) (b := y) ⟨by omega, by omega⟩
  have m5 := mulS (a := c) (b := x) ⟨by omega, by omega⟩
  have m6 := mulS (a := d) (b := y) ⟨by omega, by omega⟩
  have a2 : binI .add (a * x) (b * y) = some (a * x + b * y) := rfl
  have a3 : binI .add (c * x) (d * y) = some (c * x + d * y) := rfl
  have i0 := ED_0 x y st
  have i1 := ED_1 x y st
  simp only [S19, evS_1, evE_21, evE_10, evE_18, evAs_1, evAs_2, evE_3, evE_5, h12, h13, h14, h15, h20, Option.join_some, ofO_some, bind_ok, ix, i0, i1, binD, binInt, m3, m4, m5, m6, a2, a3, c25, st_ok, evG_1]
theorem S20_ok {m k : Nat} {x y X Y : Int} (h5 : env[5]? = some (some (.int m))) (h9 : env[9]? = some (some (ED (ptN m y : Nat) k))) (h16 : env[16]? = some (some (ED X Y))) (h17 : env[17]? = some (some (ED X Y))) (h20 : env[20]? = some (some (ED x y))) (hm : 1 ≤ m ∧ m ≤ 60) (b : Bx x y) (hk : tdM m x y = some k) (hV : Vd X Y) (hB1 : Bd X) (hB2 : Bd Y) (sb : SB m x y X Y = true) : evS (C 16) S20 env st = .next env st := by
  have c30 : CL 16 30 [.int m, ED x y, ED X Y] st = _ := s30 11 st ⟨hm.1, by omega⟩ b.v hV b.bx b.by_ hB1 hB2
  have c18 := told st hm hV hB1 hB2 (k := k) (by rw [← td_same hm b.v b.by_ hV hB2 sb]; exact hk)
  have gp := SB_gcd hm.1 b.v b.by_ hV hB2 sb
  rw [← gp] at c18
  rw [sb] at c30
  have sm : CL 16 1 [.lst [ED X Y, .bl true, ED (ptN m y : Nat) k], .lst [ED X Y, .bl true, ED (ptN m y : Nat) k]] st = .ok (.bl true) st := same 13 2 _ st rfl
  simp only [S20, evS_9, evT_1, evT_8, evE_8, evAs_1, evAs_2, evE_21, evE_2, evE_5, h5, h9, h16, h17, h20, Option.join_some, ofO_some, bind_ok, c30, c18, sm]
  simp [truD]
end
theorem env24 (env : Env) (h : env.length = 24) : ∃ a0 a1 a2 a3 a4 a5 a6 a7 a8 a9 a10 a11 a12 a13 a14 a15 a16 a17 a18 a19 a20 a21 a22 a23 : Option D, env = [a0, a1, a2, a3, a4, a5, a6, a7, a8, a9, a10, a11, a12, a13, a14, a15, a16, a17, a18, a19, a20, a21, a22, a23] := by
  match env, h with
  | [a0, a1, a2, a3, a4, a5, a6, a7, a8, a9, a10, a11, a12, a13, a14, a15, a16, a17, a18, a19, a20, a21, a22, a23], _ => exact ⟨_, _, _, _, _, _, _, _, _, _, _, _, _, _, _, _, _, _, _, _, _, _, _, _, rfl⟩
theorem tail_ok {m t : Nat} {st : Store} {env : Env} (hl : env.length = 24) (h1 : env[1]? = some (some (.ref t))) (h5 : env[5]? = some (some (.int m))) (hm : 1 ≤ m ∧ m ≤ 60) : ∃ env', evSs (C 16) [S21, S22, S23] env st = .next env' st ∧ env'.length = 24 ∧ env'[1]? = some (some (.ref t)) := by
  have e := lv_all hm
  unfold lvA at e
  obtain ⟨a0, a1, a2, a3, a4, a5, a6, a7, a8, a9, a10, a11, a12, a13, a14, a15, a16, a17, a18, a19, a20, a21, a22, a23, rfl⟩ := env24 env hl
  have h5' : a5 = some (.int m) := by simpa using h5
  subst h5'
  obtain ⟨env', q1, q2, q3⟩ := nextE_fr (.any st) orB_ok gpure e 0 [a0, a1, a2, a3, a4, some (.int m), a6, a7, a8, a9, a10, a11, a12, a13, a14, a15, a16, a17, a18, a19, a20, a21, a22, a23]
  refine ⟨env', q1, q2, ?_⟩
  rw [q3 1 (by decide)]
  have h1' : a1 = some (.ref t) := by simpa using h1
  subst h1'
  rfl
theorem forL_cells {body : D → Env → Store → RSt} {P : Env → Prop} {p : Nat}
    (hb : ∀ (k : Nat) (x c : Int) (env : Env) (st : Store), P env → LstS st → st[p]? = some (.lst [.int c]) → k < 100 → ∃ env' c', P env' ∧ body (.tup [.int k, .int x]) env st = .next env' (st.set p (.lst [.int c']))) :
    ∀ (xs : List Int) (k : Nat) (c : Int) (env : Env) (st : Store), P env → LstS st → st[p]? = some (.lst [.int c]) → k + xs.length ≤ 100 →
      ∃ env' st' c', P env' ∧ forL [] body (enumD k (intsL xs)) env st = .next env' st' ∧ LstS st' ∧ st'[p]? = some (.lst [.int c'])
  | [], k, c, env, st, q, hs, h, hl => ⟨env, st, c, q, by simp [enumD, forL], hs, h⟩
  | x :: r, k, c, env, st, q, hs, h, hl => by
    simp only [List.length_cons] at hl
    obtain ⟨env1, c1, p1, e1⟩ := hb k x c env st q hs h (by omega)
    obtain ⟨hw, _⟩ := List.getElem?_eq_some_iff.mp h
    obtain ⟨env2, st2, c2, p2, e2, hs2, h2⟩ := forL_cells hb r (k + 1) c1 env1 (st.set p (.lst [.int c1])) p1 (hs.set _ _) (List.getElem?_set_self hw) (by omega)
    refine ⟨env2, st2, c2, p2, ?_, hs2, h2⟩
    simp only [intsL, List.map_cons, enumD, forL, guards_nil, if_true, e1]
    simpa only [intsL] using e2
theorem cutD_ints (xs : List Int) (lo hi : Option Int) : ∃ ys : List Int, cutD (intsL xs) lo hi = intsL ys ∧ ys.length ≤ xs.length := by
  unfold cutD
  refine ⟨(xs.drop (HT.sIx (intsL xs).length 0 lo)).take (HT.sIx (intsL xs).length (intsL xs).length hi - HT.sIx (intsL xs).length 0 lo), by simp only [intsL, List.map_take, List.map_drop], ?_⟩
  simp only [List.length_take, List.length_drop]
  omega
theorem cells_ok (L : Nat) (ns : List Int) (h : ns.length ≤ 63) : ∃ (i : Nat) (st : Store) (c : Int), CL (L + 1) 2 [.fl (intsL ns), .int 1] [] = .ok (.ref i) st ∧ LstS st ∧ st[i]? = some (.lst [.int c]) := by
  have main : ∀ (i : Nat) (st : Store) (c : Int), evS (C L) (.asg (.v 2) (.or [(.own (.bi .list [(.sl (.v 0) [] [(.v 1)])])), (.own (.lst [(.int 0)]))])) [some (.fl (intsL ns)), some (.int 1), none, none, none, none] [] = .next [some (.fl (intsL ns)), some (.int 1), some (.ref i), none, none, none] st →
      LstS st → st[i]? = some (.lst [.int c]) → ∃ (i : Nat) (st : Store) (c : Int), CL (L + 1) 2 [.fl (intsL ns), .int 1] [] = .ok (.ref i) st ∧ LstS st ∧ st[i]? = some (.lst [.int c]) := by
    intro i st c e1 hs hi
    obtain ⟨ys, ey, hy⟩ := cutD_ints ns (some 1) (some 63)
    obtain ⟨env', st', c', p, e, hs', hc'⟩ := forL_cells (body := fun d env st => (evG (C L) (.tup [.v 3, .v 4]) d env st).st env fun env st => evSs (C L) [.asg (.v 5) (.bin .mod (.bi .int [(.v 3)]) (.v 1)), .asg (.ix (.v 2) (.v 5)) (.bin .add (.ix (.v 2) (.v 5)) (.bin .mul (.v 4) (.bin .add (.v 3) (.int 2))))] env st)
      (P := fun env => ∃ a b d, env = [some (.fl (intsL ns)), some (.int 1), some (.ref i), a, b, d]) (p := i) (fun k x c env st q hs h hk => by
        obtain ⟨a, b, d, rfl⟩ := q
        refine ⟨[some (.fl (intsL ns)), some (.int 1), some (.ref i), some (.int k), some (.int x), some (.int 0)], c + x * (k + 2), ⟨_, _, _, rfl⟩, ?_⟩
        have q : small ((k : Int) + 2) = true := by simp only [small, Bool.and_eq_true, decide_eq_true_eq]; omega
        simp [seqOf, biD, biD1, intD, binD, binInt, binI, ixD, items, h, L2.atI, L2.ixN, q, setD, ownL]) ys 0 c [some (.fl (intsL ns)), some (.int 1), some (.ref i), none, none, none] st ⟨_, _, _, rfl⟩ hs hi (by omega)
    obtain ⟨a, b, d, rfl⟩ := p
    refine ⟨i, st', c', ?_, hs', hc'⟩
    show runF (C L) f2 _ _ = _
    have r : evSs (C L) f2.ir (startE f2.N [.fl (intsL ns), .int 1]) [] = .ret (.ref i) st' :=
      step e1 (step (forS (src := ⟨enumD 0 (intsL ys), []⟩) (by simp [cut1, listItems, items, srcOf, oI, ey]) e) (stepR (by simp)))
    rw [runF_ret r]
    rfl
  cases ns with
  | nil =>
    refine main 1 [.lst [], .lst [.int 0]] 0 ?_ ?_ rfl
    · simp [oI, cut1, listItems, items, biD, biD1, ownD, truD, cutD]
    · exact .any _
  | cons x r =>
    refine main 0 [.lst [.int x]] x ?_ (LstS.one _) rfl
    have e := cutD_take (x :: r) 1 (by decide)
    simp only [intsL] at e
    simp [oI, cut1, listItems, items, biD, biD1, ownD, truD]
    simp only [List.map_cons] at e
    rw [e]
    simp
theorem box_ok (L : Nat) (st : Store) (i : Nat) (c : Int) (hs : LstS st) (h : st[i]? = some (.lst [.int c])) : ∃ (t : Nat) (st' : Store), CL (L + 1) 0 [.ref i, .int 0] st = .ok (.ref t) st' ∧ LstS st' ∧ Tin st' t 0 := by
  have q2 : ∀ b : Bool, small (if b = true then 1 else 0) = true := by intro b; cases b <;> decide
  have q1 : small 39373 = true := by decide
  have q3 : ∀ b : Prop, [Decidable b] → small (if b then 1 else 0) = true := by intro b hb; by_cases h : b <;> simp [h] <;> decide
  have q4 : ∀ y : Int, binI .mul 39373 0 = some 0 := by intro y; decide
  refine ⟨st.length, st ++ [.lst [.int ((if c < 0 then -c else c) * (if 1000000000000000000 ≤ (if c < 0 then -c else c) then 1 else 0)), .int (c % 2305843009213693951 + 22175033), .int 0]], ?_, hs.app (LstS.one _), _, _, 0, List.getElem?_concat_length, by decide, by decide⟩
  show runF (C L) f0 _ _ = _
  simp [runF_eq, f0, startE, biD, biD1, lenD, items, h, cmpD, cmpI, ixD, L2.atI, L2.ixN, absD, intD, binD, binInt, binI, q1, q3, ownD, finD]


structure PL (t : Nat) (c : Int) (env : Env) (st : Store) : Prop where
  len : env.length = 24
  e1 : env[1]? = some (some (.ref t))
  tin : Tin st t c
/-- what stands through a lap -/
structure LK (t m k : Nat) (x y : Int) (env : Env) : Prop where
  len : env.length = 24
  e1 : env[1]? = some (some (.ref t))
  e5 : env[5]? = some (some (.int m))
  e9 : env[9]? = some (some (ED (ptN m y : Nat) k))
  e20 : env[20]? = some (some (ED x y))
theorem LK.set {t m k : Nat} {x y : Int} {env : Env} (h : LK t m k x y env) (i : Nat) (d : Option D) (hi : i ≠ 1 ∧ i ≠ 5 ∧ i ≠ 9 ∧ i ≠ 20) : LK t m k x y (env.set i d) :=
  ⟨by simp [h.len], set_ne h.e1 hi.1, set_ne h.e5 hi.2.1, set_ne h.e9 hi.2.2.1, set_ne h.e20 hi.2.2.2⟩
theorem lap_ok {t : Nat} {c : Int} {env : Env} {st : Store} (P : PL t c env st) (hc : c + 1000 < 800000) : ∃ env' st', evSs (C 16) lapB env st = .next env' st' ∧ PL t (c + 20) env' st' := by
  obtain ⟨hl, h1, T⟩ := P
  obtain ⟨m, s1, e1, hm, T1⟩ := S1_ok h1 T (by omega)
  have a1 : (env.set 5 (some (.int m)))[1]? = some (some (.ref t)) := set_ne h1 (by decide)
  have a5 : (env.set 5 (some (.int m)))[5]? = some (some (.int m)) := set_eq (by omega)
  have al : (env.set 5 (some (.int m))).length = 24 := by simp [hl]
  generalize env.set 5 (some (.int m)) = n1 at e1 a1 a5 al
  obtain ⟨e2, T2, q2, d2⟩ := S2_ok al T1
  have P2 : LD3 t s1.length m (c + 1) [] (n1.set 6 (some (.ref s1.length))) (s1 ++ [.lst []]) := ⟨by simp [al], set_ne a1 (by decide), set_ne a5 (by decide), set_eq (by omega), T2, q2⟩
  generalize n1.set 6 (some (.ref s1.length)) = n2 at e2 P2
  generalize s1 ++ [O.lst []] = s2 at e2 P2
  obtain ⟨n3, s3, x1, y1, x2, y2, e3, P3, b1, b2⟩ := S3_ok P2 d2 (by omega)
  have e4 := S4_ok P3
  have f20 : ((n3.set 20 (some (ED x1 y1))).set 21 (some (ED x2 y2)))[20]? = some (some (ED x1 y1)) := set_ne (set_eq (by rw [P3.len]; decide)) (by decide)
  have f21 : ((n3.set 20 (some (ED x1 y1))).set 21 (some (ED x2 y2)))[21]? = some (some (ED x2 y2)) := set_eq (by simp [P3.len])
  have f1 : ((n3.set 20 (some (ED x1 y1))).set 21 (some (ED x2 y2)))[1]? = some (some (.ref t)) := set_ne (set_ne P3.e1 (by decide)) (by decide)
  have f5 : ((n3.set 20 (some (ED x1 y1))).set 21 (some (ED x2 y2)))[5]? = some (some (.int m)) := set_ne (set_ne P3.e5 (by decide)) (by decide)
  have fl : ((n3.set 20 (some (ED x1 y1))).set 21 (some (ED x2 y2))).length = 24 := by simp [P3.len]
  generalize (n3.set 20 (some (ED x1 y1))).set 21 (some (ED x2 y2)) = n4 at e4 f20 f21 f1 f5 fl
  obtain ⟨k, hk⟩ := td_box hm b1
  obtain ⟨k2, hk2⟩ := td_box hm b2
  have e5 := S5_ok (st := s3) f5 f20 f21 hm b1 b2
  have g20 : (n4.set 8 (some (.bl (SB m x1 y1 x2 y2))))[20]? = some (some (ED x1 y1)) := set_ne f20 (by decide)
  have g21 : (n4.set 8 (some (.bl (SB m x1 y1 x2 y2))))[21]? = some (some (ED x2 y2)) := set_ne f21 (by decide)
  have g1 : (n4.set 8 (some (.bl (SB m x1 y1 x2 y2))))[1]? = some (some (.ref t)) := set_ne f1 (by decide)
  have g5 : (n4.set 8 (some (.bl (SB m x1 y1 x2 y2))))[5]? = some (some (.int m)) := set_ne f5 (by decide)
  have g8 : (n4.set 8 (some (.bl (SB m x1 y1 x2 y2))))[8]? = some (some (.bl (SB m x1 y1 x2 y2))) := set_eq (by omega)
  have gl : (n4.set 8 (some (.bl (SB m x1 y1 x2 y2)))).length = 24 := by simp [fl]
  generalize n4.set 8 (some (.bl (SB m x1 y1 x2 y2))) = n5 at e5 g20 g21 g1 g5 g8 gl
  have e6 := S6_ok (st := s3) g5 g20 hm b1 hk
  have K6 : LK t m k x1 y1 (n5.set 9 (some (ED (ptN m y1 : Nat) k))) := ⟨by simp [gl], set_ne g1 (by decide), set_ne g5 (by decide), set_eq (by omega), set_ne g20 (by decide)⟩
  have i21 : (n5.set 9 (some (ED (ptN m y1 : Nat) k)))[21]? = some (some (ED x2 y2)) := set_ne g21 (by decide)
  have i8 : (n5.set 9 (some (ED (ptN m y1 : Nat) k)))[8]? = some (some (.bl (SB m x1 y1 x2 y2))) := set_ne g8 (by decide)
  generalize n5.set 9 (some (ED (ptN m y1 : Nat) k)) = n6 at e6 K6 i21 i8
  have e7 := S7_ok (st := s3) K6.e5 K6.e20 i21 K6.e9 hm b1 b2 hk hk2
  have K7 := K6.set 4 (some (.lst [.bl true, .bl (SB m x1 y1 x2 y2), .bl (SB m x1 y1 x2 y2), .bl true, .int (ptN m y1 : Nat), .bl (SB m x1 y1 x2 y2)])) (by decide)
  have j4 : (n6.set 4 (some (.lst [.bl true, .bl (SB m x1 y1 x2 y2), .bl (SB m x1 y1 x2 y2), .bl true, .int (ptN m y1 : Nat), .bl (SB m x1 y1 x2 y2)])))[4]? = some (some (.lst [.bl true, .bl (SB m x1 y1 x2 y2), .bl (SB m x1 y1 x2 y2), .bl true, .int (ptN m y1 : Nat), .bl (SB m x1 y1 x2 y2)])) := set_eq (by rw [K6.len]; decide)
  have j8 : (n6.set 4 (some (.lst [.bl true, .bl (SB m x1 y1 x2 y2), .bl (SB m x1 y1 x2 y2), .bl true, .int (ptN m y1 : Nat), .bl (SB m x1 y1 x2 y2)])))[8]? = some (some (.bl (SB m x1 y1 x2 y2))) := set_ne i8 (by decide)
  generalize n6.set 4 (some (.lst [.bl true, .bl (SB m x1 y1 x2 y2), .bl (SB m x1 y1 x2 y2), .bl true, .int (ptN m y1 : Nat), .bl (SB m x1 y1 x2 y2)])) = n7 at e7 K7 j4 j8
  have e8 := S8_ok (st := s3) K7.e5 K7.e20 j8 j4 hm
  have e9 := S9_ok (st := s3) K7.e5 K7.e9 hm hk
  have K9 := K7.set 10 (some (ED (stX m k y1) (ptN m y1 : Nat))) (by decide)
  have l10 : (n7.set 10 (some (ED (stX m k y1) (ptN m y1 : Nat))))[10]? = some (some (ED (stX m k y1) (ptN m y1 : Nat))) := set_eq (by rw [K7.len]; decide)
  generalize n7.set 10 (some (ED (stX m k y1) (ptN m y1 : Nat))) = n9 at e9 K9 l10
  have e10 := S10_ok (st := s3) K9.e5 K9.e9 l10 K9.e20 hm b1 hk
  have e11 := S11_ok (st := s3) (k := k) K9.e5 K9.e9 hm
  have K11 := K9.set 11 (some (.int (shN m (ptN m y1) : Nat))) (by decide)
  have l11 : (n9.set 11 (some (.int (shN m (ptN m y1) : Nat))))[11]? = some (some (.int (shN m (ptN m y1) : Nat))) := set_eq (by rw [K9.len]; decide)
  generalize n9.set 11 (some (.int (shN m (ptN m y1) : Nat))) = n11 at e11 K11 l11
  have e12 := S12_ok (st := s3) K11.e5 K11.e9 l11 K11.e20 hm b1
  obtain ⟨e, s13, e13, he, T13⟩ := S13_ok K11.e1 K11.e5 hm P3.tin (by omega)
  obtain ⟨cc, hcc⟩ : ∃ cc : Int, cc = (m : Int) * e := ⟨_, rfl⟩
  rw [← hcc] at e13
  have bc : -120 ≤ cc ∧ cc ≤ 120 := by
    rw [hcc]
    have n1 : ((m : Int) * e).natAbs = (m : Int).natAbs * e.natAbs := Int.natAbs_mul _ _
    have n2 : (m : Int).natAbs * e.natAbs ≤ 60 * 2 := Nat.mul_le_mul (by omega) (by omega)
    omega
  have K13 := K11.set 12 (some (.int cc)) (by decide)
  have l12 : (n11.set 12 (some (.int cc)))[12]? = some (some (.int cc)) := set_eq (by rw [K11.len]; decide)
  generalize n11.set 12 (some (.int cc)) = n13 at e13 K13 l12
  obtain ⟨d, s14, e14, hd, hg, T14⟩ := S14_ok K13.e1 l12 (by omega) K13.len T13 (by omega)
  have K14 := K13.set 13 (some (.int d)) (by decide)
  have m12 : (n13.set 13 (some (.int d)))[12]? = some (some (.int cc)) := set_ne l12 (by decide)
  have m13 : (n13.set 13 (some (.int d)))[13]? = some (some (.int d)) := set_eq (by rw [K13.len]; decide)
  generalize n13.set 13 (some (.int d)) = n14 at e14 K14 m12 m13
  have e15 := S15_ok (st := s14) m12 m13 (by omega) hd K14.len
  have K15 := K14.set 14 (some (.lst (intsL (alL cc d)))) (by decide)
  have o12 : (n14.set 14 (some (.lst (intsL (alL cc d)))))[12]? = some (some (.int cc)) := set_ne m12 (by decide)
  have o13 : (n14.set 14 (some (.lst (intsL (alL cc d)))))[13]? = some (some (.int d)) := set_ne m13 (by decide)
  have o14 : (n14.set 14 (some (.lst (intsL (alL cc d)))))[14]? = some (some (.lst (intsL (alL cc d)))) := set_eq (by rw [K14.len]; decide)
  generalize n14.set 14 (some (.lst (intsL (alL cc d)))) = n15 at e15 K15 o12 o13 o14
  have e16 := S16_ok (st := s14) o12 o13
  have K16 := K15.set 13 (some (.int (if cc = 0 then 1 else d))) (by decide)
  have p12 : (n15.set 13 (some (.int (if cc = 0 then 1 else d))))[12]? = some (some (.int cc)) := set_ne o12 (by decide)
  have p13 : (n15.set 13 (some (.int (if cc = 0 then 1 else d))))[13]? = some (some (.int (if cc = 0 then 1 else d))) := set_eq (by rw [K15.len]; decide)
  have p14 : (n15.set 13 (some (.int (if cc = 0 then 1 else d))))[14]? = some (some (.lst (intsL (alL cc d)))) := set_ne o14 (by decide)
  generalize n15.set 13 (some (.int (if cc = 0 then 1 else d))) = n16 at e16 K16 p12 p13 p14
  obtain ⟨a, b, s17, e17, tb, ix, T17⟩ := S17_ok (m := m) K16.e1 p12 p13 p14 bc ⟨e, hcc⟩ hd hg T14 (by omega)
  have K17 := K16.set 15 (some (.int b)) (by decide)
  have r12 : (n16.set 15 (some (.int b)))[12]? = some (some (.int cc)) := set_ne p12 (by decide)
  have r13 : (n16.set 15 (some (.int b)))[13]? = some (some (.int (if cc = 0 then 1 else d))) := set_ne p13 (by decide)
  have r14 : (n16.set 15 (some (.int b)))[14]? = some (some (.lst (intsL (alL cc d)))) := set_ne p14 (by decide)
  have r15 : (n16.set 15 (some (.int b)))[15]? = some (some (.int b)) := set_eq (by rw [K16.len]; decide)
  generalize n16.set 15 (some (.int b)) = n17 at e17 K17 r12 r13 r14 r15
  generalize (if cc = 0 then 1 else d) = dd at *
  have e18 := S18_ok (st := s17) (m := m) r12 r13 r14 r15 K17.e20 ix hm tb b1
  obtain ⟨_, _, hV, hB1, hB2, sb⟩ := led_ok hm tb b1
  have e19' := fun (env : Env) h12 h13 h14 h15 h20 => S19_ok (st := s17) (env := env) (m := m) (a := a) (b := b) (c := cc) (d := dd) (x := x1) (y := y1) (al := alL cc d) h12 h13 h14 h15 h20 ix hm tb b1
  generalize (loE (a * x1 + b * y1) (cc * x1 + dd * y1)).1 = X at *
  generalize (loE (a * x1 + b * y1) (cc * x1 + dd * y1)).2 = Y at *
  have K18 := K17.set 16 (some (ED X Y)) (by decide)
  have e19 := e19' (n17.set 16 (some (ED X Y))) (set_ne r12 (by decide)) (set_ne r13 (by decide)) (set_ne r14 (by decide)) (set_ne r15 (by decide)) K18.e20
  have t16 : (n17.set 16 (some (ED X Y)))[16]? = some (some (ED X Y)) := set_eq (by rw [K17.len]; decide)
  generalize n17.set 16 (some (ED X Y)) = n18 at e18 K18 e19 t16
  have K19 := K18.set 17 (some (ED X Y)) (by decide)
  have u16 : (n18.set 17 (some (ED X Y)))[16]? = some (some (ED X Y)) := set_ne t16 (by decide)
  have u17 : (n18.set 17 (some (ED X Y)))[17]? = some (some (ED X Y)) := set_eq (by rw [K18.len]; decide)
  generalize n18.set 17 (some (ED X Y)) = n19 at e19 K19 u16 u17
  have e20 := S20_ok (st := s17) K19.e5 K19.e9 u16 u17 K19.e20 hm b1 hk hV hB1 hB2 sb
  obtain ⟨n20, e21, l21, h21⟩ := tail_ok (st := s17) K19.len K19.e1 K19.e5 hm
  exact ⟨n20, s17, step e1 (step e2 (step e3 (step e4 (step e5 (step e6 (step e7 (step e8 (step e9 (step e10 (step e11 (step e12 (step e13 (step e14 (step e15 (step e16 (step e17 (step e18 (step e19 (step e20 e21))))))))))))))))))), l21, h21, T17.mono (by omega)⟩
theorem laps {t : Nat} : ∀ (ds : List D) (c : Int) (env : Env) (st : Store), PL t c env st → c + 20 * ds.length + 2000 < 800000 → 0 ≤ c →
    ∃ env' st', forL [] (fun d env st => (evG (C 16) (.v 2) d env st).st env fun env st => evSs (C 16) lapB env st) ds env st = .next env' st' ∧ PL t (c + 20 * ds.length) env' st'
  | [], c, env, st, P, _, _ => ⟨env, st, by simp [forL], by simpa using P⟩
  | d :: r, c, env, st, P, h, h0 => by
    simp only [List.length_cons] at h
    have P' : PL t c (env.set 2 (some d)) st := ⟨by simp [P.len], set_ne P.e1 (by decide), P.tin⟩
    obtain ⟨env1, st1, e1, P1⟩ := lap_ok P' (by omega)
    obtain ⟨env2, st2, e2, P2⟩ := laps r (c + 20) env1 st1 P1 (by omega) (by omega)
    refine ⟨env2, st2, ?_, P2.len, P2.e1, P2.tin.mono (by simp only [List.length_cons]; omega)⟩
    simp only [forL, guards_nil, if_true, evG_1, st_ok, e1]
    exact e2
theorem go0 (ns : List Int) (h : ns.length ≤ 63) : CL 17 34 [.fl (ns.map .int)] [] = .ok (.bl true) [] := by
  obtain ⟨i, st0, cc, E0', h0, hc⟩ := cells_ok 15 ns h
  obtain ⟨t, st1, E1, h1, tin1⟩ := box_ok 15 st0 i cc h0 hc
  replace E0' : CL 16 2 [.fl (ns.map .int), .int 1] [] = .ok (.ref i) st0 := E0'
  replace E1 : CL 16 0 [.ref i, .int 0] st0 = .ok (.ref t) st1 := E1
  show runF (C 16) f34 _ _ = _
  have s0 : evS (C 16) T0 (startE f34.N [.fl (ns.map .int)]) [] = .next ((startE f34.N [.fl (ns.map .int)]).set 1 (some (.ref t))) st1 := by
    have k0 : (startE f34.N [.fl (ns.map .int)])[0]? = some (some (.fl (ns.map .int))) := rfl
    simp only [T0, evS_1, evE_21, evAs_1, evAs_2, evE_3, evE_5, k0, Option.join_some, ofO_some, bind_ok, E0', E1, st_ok, evG_1]
  have P : PL t 0 ((startE f34.N [.fl (ns.map .int)]).set 1 (some (.ref t))) st1 := ⟨rfl, rfl, tin1⟩
  obtain ⟨env', st', e, P'⟩ := laps (rngD 0 1 5) 0 _ st1 P (by decide) (by decide)
  have s1 : evS (C 16) T1 ((startE f34.N [.fl (ns.map .int)]).set 1 (some (.ref t))) st1 = .next env' st' := by
    refine forS (src := ⟨rngD 0 1 5, []⟩) ?_ e
    have r := rngOf_nat 5 (by decide)
    have r' : rngOf [.int 5] = some ⟨rngD 0 1 5, []⟩ := r
    simp only [evI_1, evAs_1, evAs_2, evE_3, bind_ok, r', ofO_some]
  obtain ⟨a0, a1, a2, a3, a4, a5, a6, a7, a8, a9, a10, a11, a12, a13, a14, a15, a16, a17, a18, a19, a20, a21, a22, a23, rfl⟩ := env24 env' P'.len
  have q := ret_fr (.any st') (OrOk.none (J := 0)) gpure fin_end 4 [a0, a1, a2, a3, a4, a5, a6, a7, a8, a9, a10, a11, a12, a13, a14, a15, a16, a17, a18, a19, a20, a21, a22, a23]
  have r : evSs (C 16) f34.ir (startE f34.N [.fl (ns.map .int)]) [] = .ret (.bl true) st' := by
    rw [f34_ir]
    exact step s0 (step s1 q)
  rw [runF_ret r]
  rfl
theorem goMain (ns : List Int) (h : ns.length ≤ 63) : ∃ fuel, callL FF gg fuel 2 17 34 [.fl (ns.map .int)] [] = .ok (.bl true) [] := ⟨FU, go0 ns h⟩
end Law

namespace Law
open PySem PySem.Spec PyProof.Rows L2 Ev
theorem go (ns : List Int) (h : ns.length ≤ 63) : ∃ fuel, callL (ds.map (·.fi)) (consts.map fun q => q.2.d) fuel exc.length 17 34 [.fl (ns.map .int)] [] = .ok (.bl true) [] := goMain ns h
end Law
open PySem PySem.W PySem.Calls PyProof.Rows
set_option maxHeartbeats 0 in
theorem PySem.Challenge.cw_thetarows_k33_main_edges_of_levels_holds : PySem.Challenge.rw_thetarows_k33_main_edges_of_levels.Holds := by
  w_on; o_law
  refine HandSHeadRun.head_any (r := OpenLaw.row PySem.Challenge.rw_thetarows_k33_main_edges_of_levels) (q := view (OpenLaw.row PySem.Challenge.rw_thetarows_k33_main_edges_of_levels).prog [45]) (H := Law.hk) (ob := Law.ob) (M := 4000) (loose := Law.loose) (d := HandSHeadRun.topDef (OpenLaw.row PySem.Challenge.rw_thetarows_k33_main_edges_of_levels).prog 45) (kwd := []) Law.ob_eq
    (by kernel_rfl) (fun s => by kernel_rfl) Law.run (by kernel_rfl) (by kernel_rfl) (by kernel_rfl) (by rfl) (by first | assumption | decide +kernel) (by decide +kernel) ⟨rfl, rfl, rfl, rfl, rfl, by decide +kernel⟩ ?hw ?hc
  case hw => w_witness2
  case hc =>
    refine L2.walk_ofE (l := PySem.Challenge.rw_thetarows_k33_main_edges_of_levels) (n := 63) (k := 17) (x := "script") (CX := L2.CX0) rfl (by decide) (by kernel_rfl) ⟨rfl, by decide, by decide⟩ ?F (fun _ _ _ _ z => z)
    intro w mg fa h Y G hmg0
    obtain ⟨K, KX, c⟩ := Y
    have hmg : mg ("law" : PySem.Str) = some (.ref fa) := by
      have e : (HandSHeadRun.topDef (OpenLaw.row PySem.Challenge.rw_thetarows_k33_main_edges_of_levels).prog 45).name = ("law" : PySem.Str) := by kernel_rfl
      rw [← e]
      exact hmg0
    obtain ⟨fd, sp, h1, h2, h3⟩ := Ev.law_done (P := (PySem.Challenge.rw_thetarows_k33_main_edges_of_levels).prog) (w := w) (j := 16) (most := 63) c.t.d KX G Law.checks Law.binds Law.kws c.more (by decide +kernel) (f := 34) (q := Law.l34) rfl rfl rfl hmg Law.go
    exact ⟨K, fd, sp, KX, h1, h2, h3⟩
