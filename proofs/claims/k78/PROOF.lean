import PyProof.Rows.All
import Wide.All
import OpenK.AllK
import Wide.FinOn
import HandS.ForMost
import HandS.Exc
import HandS.ExcOwn
import HandS.WordsExc
import HandS.IsInst
import HandS.Wide
import KE.GoesZip
import KE.GoesMore
import HandS.Iter
import HandS.Text
import HandS.More
import HandS.Codes
import PySem.Challenge.RW_pyhold_k78_references
set_option Elab.async false
set_option linter.all false
set_option maxRecDepth 100000
set_option maxHeartbeats 4000000
/-! Q3, the base: data by value, a store of mutable objects, how they lie in the abstract heap. -/
namespace Q3
open PySem L2

/-- a value: tuples and read-only lists by value; a mutable object by its index in the store -/
inductive D where
  | non | bl (b : Bool) | int (i : Int) | str (x : Str)
  | tup (ds : List D) | ro (ds : List D) | rk (ds : List D) | ref (i : Nat) | vv (v : V)
/-- what an expression gives: a value, or a new list that no one holds yet -/
inductive T where
  | s (d : D) | l (ds : List D)
/-- a mutable object -/
inductive SO where
  | lst (ds : List D) | dct (kvs : List (Key × D)) | set (S : Int → Bool) (n : Nat) | ins (C : Addr) (fs : List (Str × D))
abbrev Store := List SO
abbrev DS := List (Option D)
/-- an exception: its class, its fields -/
structure Exn where
  cls : Value
  fs : List (Str × D)
inductive R (α : Type) where
  | ok (a : α) (st : Store) | exc (x : Exn) (st : Store) | bad
inductive RS where
  | nx (σ : DS) (st : Store) | rt (t : T) (st : Store) | bk (σ : DS) (st : Store) | ct (σ : DS) (st : Store) | exc (x : Exn) (σ : DS) (st : Store) | bad
abbrev ME := DS → Store → R T
abbrev MT := DS → Store → R Bool
abbrev MA := DS → Store → R (List D)
abbrev MS := DS → Store → RS
abbrev Fn := List D → Store → R T
def R.bind {α β : Type} : R α → (α → Store → R β) → R β
  | .ok a st, k => k a st
  | .exc x st, _ => .exc x st
  | .bad, _ => .bad
def R.toS : R T → DS → (T → Store → RS) → RS
  | .ok a st, _, k => k a st
  | .exc x st, σ, _ => .exc x σ st
  | .bad, _, _ => .bad

/-- where the store's objects stand; which lists are read only -/
structure Wd where
  phi : List Addr
  R : Addr → Prop

def RkL (K : PySem.W.Frag) (H : Hp) (a : Addr) (xs : List V) : Prop :=
  (∃ o, H a = some (.frz o (.lst xs))) ∨
    ∃ (o : Obj) (its : Array Value) (n : Nat), K.lookup a = some o ∧ o.cls = .type "list" ∧ o.dict = none ∧ o.data = .seq its n ∧ its.size ≤ sizeLine ∧ Vals xs its.toList
mutual
def RelD (K : PySem.W.Frag) (w : Wd) (H : Hp) : D → V → Prop
  | .non, v => v = .non
  | .bl b, v => v = .bl b
  | .int i, v => v = .int i
  | .str x, v => v = .str x
  | .tup ds, v => ∃ a vs, v = .ref a ∧ SqT K H a vs ∧ RelDs K w H ds vs
  | .ro ds, v => ∃ a vs, v = .ref a ∧ w.R a ∧ H a = some (.lst vs) ∧ RelDs K w H ds vs
  | .rk ds, v => ∃ a vs, v = .ref a ∧ RkL K H a vs ∧ RelDs K w H ds vs
  | .ref i, v => ∃ a, v = .ref a ∧ w.phi[i]? = some a
  | .vv u, v => v = u
def RelDs (K : PySem.W.Frag) (w : Wd) (H : Hp) : List D → List V → Prop
  | [], vs => vs = []
  | d :: ds, vs => ∃ v r, vs = v :: r ∧ RelD K w H d v ∧ RelDs K w H ds r
end
/-- H0: the heap ahead of the expression that made the list -/
def RelT (K : PySem.W.Frag) (H0 : Hp) (w : Wd) (H : Hp) : T → V → Prop
  | .s d, v => RelD K w H d v
  | .l ds, v => ∃ a vs, v = .ref a ∧ a ∉ w.phi ∧ ¬ w.R a ∧ H0 a = none ∧ H a = some (.lst vs) ∧ RelDs K w H ds vs
def RelKV (K : PySem.W.Frag) (w : Wd) (H : Hp) {κ : Type} (kvs : List (κ × D)) (kus : List (κ × V)) : Prop := kvs.map (·.1) = kus.map (·.1) ∧ RelDs K w H (kvs.map (·.2)) (kus.map (·.2))
def RelSO (K : PySem.W.Frag) (w : Wd) (H : Hp) (a : Addr) : SO → Prop
  | .lst ds => ∃ vs, H a = some (.lst vs) ∧ RelDs K w H ds vs
  | .dct kvs => ∃ kus, H a = some (.dK kus) ∧ RelKV K w H kvs kus
  | .set S n => H a = some (.set S n)
  | .ins C fs => ∃ dx gs, H a = some (.ins C dx gs) ∧ RelKV K w H fs gs
/-- the store lies in the heap -/
structure WOk (K : PySem.W.Frag) (H : Hp) (w : Wd) (st : Store) : Prop where
  len : w.phi.length = st.length
  nd : w.phi.Nodup
  sep : ∀ a ∈ w.phi, ¬ w.R a
  rt : ∀ a, w.R a → ∃ vs, H a = some (.lst vs)
  obj : ∀ (i : Nat) (so : SO) (a : Addr), st[i]? = some so → w.phi[i]? = some a → RelSO K w H a so
/-- later -/
structure Ext (w : Wd) (H : Hp) (w' : Wd) (H' : Hp) : Prop where
  ph : ∃ more, w'.phi = w.phi ++ more ∧ ∀ a ∈ more, H a = none
  r1 : ∀ a, w.R a → w'.R a
  r2 : ∀ a, w'.R a → w.R a ∨ H a = none
  kp : ∀ a o, a ∉ w.phi → H a = some o → H' a = some o
  al : ∀ a o, H a = some o → ∃ o', H' a = some o'

section
variable {K : PySem.W.Frag} {w w' w1 w2 w0 : Wd} {H H' H1 H2 H0 : Hp} {st st' : Store}
theorem Ext.refl (w : Wd) (H : Hp) : Ext w H w H := ⟨⟨[], by simp, by simp⟩, fun _ h => h, fun _ h => .inl h, fun _ _ _ h => h, fun _ o h => ⟨o, h⟩⟩
theorem Ext.back (e : Ext w H w' H') {a : Addr} (h : H' a = none) : H a = none := by
  cases q : H a with
  | none => rfl
  | some o =>
    obtain ⟨o', z⟩ := e.al a o q
    rw [h] at z
    cases z
theorem Ext.trans (e : Ext w H w1 H1) (f : Ext w1 H1 w2 H2) : Ext w H w2 H2 := by
  obtain ⟨m1, p1, q1⟩ := e.ph
  obtain ⟨m2, p2, q2⟩ := f.ph
  refine ⟨⟨m1 ++ m2, by rw [p2, p1, List.append_assoc], fun a ha => ?_⟩, fun a h => f.r1 a (e.r1 a h), fun a h => ?_, fun a o n h => ?_, fun a o h => ?_⟩
  · rcases List.mem_append.mp ha with h | h
    · exact q1 a h
    · exact e.back (q2 a h)
  · rcases f.r2 a h with h | h
    · exact e.r2 a h
    · exact .inr (e.back h)
  · refine f.kp a o (fun hm => ?_) (e.kp a o n h)
    rw [p1] at hm
    rcases List.mem_append.mp hm with z | z
    · exact n z
    · rw [q1 a z] at h
      cases h
  · obtain ⟨o1, h1⟩ := e.al a o h
    exact f.al a o1 h1
theorem SqT.mono (e : Ext w H w' H') (ok : WOk K H w st) {a : Addr} {vs : List V} (h : SqT K H a vs) : SqT K H' a vs := by
  have nphi : ∀ u, H a = some u → (∀ xs, u ≠ .lst xs) → (∀ xs, u ≠ .dK xs) → (∀ S n, u ≠ .set S n) → (∀ C dx fs, u ≠ .ins C dx fs) → a ∉ w.phi := fun u hu n1 n2 n3 n4 hm => by
    obtain ⟨i, hi⟩ := List.getElem?_of_mem hm
    have hlt : i < w.phi.length := (List.getElem?_eq_some_iff.mp hi).1
    have hs : i < st.length := by rw [← ok.len]; exact hlt
    have q := ok.obj i _ a (List.getElem?_eq_getElem hs) hi
    generalize st[i] = so at q
    cases so with
    | lst ds =>
      obtain ⟨xs, z, _⟩ := q
      rw [hu] at z
      exact n1 _ (Option.some.inj z)
    | dct ds =>
      obtain ⟨xs, z, _⟩ := q
      rw [hu] at z
      exact n2 _ (Option.some.inj z)
    | set S n =>
      have z : H a = some (.set S n) := q
      rw [hu] at z
      exact n3 _ _ (Option.some.inj z)
    | ins C fs =>
      obtain ⟨dx, gs, z, _⟩ := q
      rw [hu] at z
      exact n4 _ _ _ (Option.some.inj z)
  rcases h with (h | ⟨o, h⟩) | h
  · exact .inl (.inl (e.kp a _ (nphi _ h (fun _ z => by cases z) (fun _ z => by cases z) (fun _ _ z => by cases z) (fun _ _ _ z => by cases z)) h))
  · exact .inl (.inr ⟨o, e.kp a _ (nphi _ h (fun _ z => by cases z) (fun _ z => by cases z) (fun _ _ z => by cases z) (fun _ _ _ z => by cases z)) h⟩)
  · exact .inr h
theorem WOk.nfrz (ok : WOk K H w st) {a : Addr} {o : Obj} {u : HO} (h : H a = some (.frz o u)) : a ∉ w.phi := fun hm => by
  obtain ⟨i, hi⟩ := List.getElem?_of_mem hm
  have hlt : i < w.phi.length := (List.getElem?_eq_some_iff.mp hi).1
  have hs : i < st.length := by rw [← ok.len]; exact hlt
  have q := ok.obj i _ a (List.getElem?_eq_getElem hs) hi
  generalize st[i] = so at q
  cases so with
  | lst ds =>
    obtain ⟨xs, z, _⟩ := q
    rw [h] at z; cases z
  | dct ds =>
    obtain ⟨xs, z, _⟩ := q
    rw [h] at z; cases z
  | set S n =>
    have z : H a = some (.set S n) := q
    rw [h] at z; cases z
  | ins C fs =>
    obtain ⟨dx, gs, z, _⟩ := q
    rw [h] at z; cases z
theorem RkL.mono (e : Ext w H w' H') (ok : WOk K H w st) {a : Addr} {vs : List V} (h : RkL K H a vs) : RkL K H' a vs := by
  rcases h with ⟨o, h⟩ | h
  · exact .inl ⟨o, e.kp a _ (ok.nfrz h) h⟩
  · exact .inr h
theorem ro_nphi (ok : WOk K H w st) {a : Addr} (h : w.R a) : a ∉ w.phi := fun hm => ok.sep a hm h
/-- what a relation of data leans on -/
structure Up (K : PySem.W.Frag) (w : Wd) (H : Hp) (w' : Wd) (H' : Hp) : Prop where
  t : ∀ a vs, SqT K H a vs → SqT K H' a vs
  k : ∀ a vs, RkL K H a vs → RkL K H' a vs
  r : ∀ a vs, w.R a → H a = some (.lst vs) → w'.R a ∧ H' a = some (.lst vs)
  p : ∀ (i : Nat) (a : Addr), w.phi[i]? = some a → w'.phi[i]? = some a
mutual
theorem RelD.up (e : Up K w H w' H') : ∀ (d : D) (v : V), RelD K w H d v → RelD K w' H' d v
  | .non, v, h => h
  | .bl b, v, h => h
  | .int i, v, h => h
  | .str x, v, h => h
  | .vv u, v, h => h
  | .tup ds, v, h => by
    obtain ⟨a, vs, rfl, h1, h2⟩ := h
    exact ⟨a, vs, rfl, e.t _ _ h1, RelDs.up e ds vs h2⟩
  | .ro ds, v, h => by
    obtain ⟨a, vs, rfl, h1, h2, h3⟩ := h
    exact ⟨a, vs, rfl, (e.r _ _ h1 h2).1, (e.r _ _ h1 h2).2, RelDs.up e ds vs h3⟩
  | .rk ds, v, h => by
    obtain ⟨a, vs, rfl, h1, h2⟩ := h
    exact ⟨a, vs, rfl, e.k _ _ h1, RelDs.up e ds vs h2⟩
  | .ref i, v, h => by
    obtain ⟨a, rfl, h1⟩ := h
    exact ⟨a, rfl, e.p _ _ h1⟩
theorem RelDs.up (e : Up K w H w' H') : ∀ (ds : List D) (vs : List V), RelDs K w H ds vs → RelDs K w' H' ds vs
  | [], vs, h => h
  | d :: ds, vs, h => by
    obtain ⟨v, r, rfl, h1, h2⟩ := h
    exact ⟨v, r, rfl, RelD.up e d v h1, RelDs.up e ds r h2⟩
end
theorem Up.trans (a : Up K w H w1 H1) (b : Up K w1 H1 w2 H2) : Up K w H w2 H2 :=
  ⟨fun x vs h => b.t _ _ (a.t _ _ h), fun x vs h => b.k _ _ (a.k _ _ h), fun x vs h1 h2 => b.r _ _ (a.r _ _ h1 h2).1 (a.r _ _ h1 h2).2, fun i x h => b.p _ _ (a.p _ _ h)⟩
theorem Up.refl (w : Wd) (H : Hp) : Up K w H w H := ⟨fun _ _ h => h, fun _ _ h => h, fun _ _ h1 h2 => ⟨h1, h2⟩, fun _ _ h => h⟩
theorem Ext.up (e : Ext w H w' H') (ok : WOk K H w st) : Up K w H w' H' := by
  refine ⟨fun a vs h => SqT.mono e ok h, fun a vs h => RkL.mono e ok h, fun a vs h1 h2 => ⟨e.r1 a h1, e.kp a _ (ro_nphi ok h1) h2⟩, fun i a h => ?_⟩
  obtain ⟨more, p, _⟩ := e.ph
  rw [p, List.getElem?_append_left (List.getElem?_eq_some_iff.mp h).1]
  exact h
theorem RelD.mono (e : Ext w H w' H') (ok : WOk K H w st) (d : D) (v : V) (h : RelD K w H d v) : RelD K w' H' d v := RelD.up (e.up ok) d v h
theorem RelDs.mono (e : Ext w H w' H') (ok : WOk K H w st) (ds : List D) (vs : List V) (h : RelDs K w H ds vs) : RelDs K w' H' ds vs := RelDs.up (e.up ok) ds vs h
theorem RelT.mono (e : Ext w H w' H') (ok : WOk K H w st) {t : T} {v : V} (h : RelT K H0 w H t v) : RelT K H0 w' H' t v := by
  cases t with
  | s d => exact RelD.mono e ok d v h
  | l ds =>
    obtain ⟨a, vs, rfl, h1, h2, h3, h4, h5⟩ := h
    obtain ⟨more, p, q⟩ := e.ph
    refine ⟨a, vs, rfl, fun hm => ?_, fun hr => ?_, h3, e.kp a _ h1 h4, RelDs.mono e ok ds vs h5⟩
    · rw [p] at hm
      rcases List.mem_append.mp hm with z | z
      · exact h1 z
      · rw [q a z] at h4
        cases h4
    · rcases e.r2 a hr with z | z
      · exact h2 z
      · rw [z] at h4
        cases h4
/-- the made list was not there ahead of what came before, too -/
theorem RelT.base (e : Ext w0 H0 w1 H1) {t : T} {v : V} (h : RelT K H1 w H t v) : RelT K H0 w H t v := by
  cases t with
  | s d => exact h
  | l ds =>
    obtain ⟨a, vs, rfl, h1, h2, h3, h4, h5⟩ := h
    exact ⟨a, vs, rfl, h1, h2, e.back h3, h4, h5⟩
theorem RelDs.length : ∀ {ds : List D} {vs : List V}, RelDs K w H ds vs → ds.length = vs.length
  | [], vs, h => by
    have e : vs = [] := h
    rw [e]
    rfl
  | d :: ds, vs, h => by
    obtain ⟨v, r, rfl, _, h2⟩ := h
    show ds.length + 1 = r.length + 1
    rw [RelDs.length h2]
theorem RelDs.get : ∀ {ds : List D} {vs : List V} {i : Nat} {d : D}, RelDs K w H ds vs → ds[i]? = some d → ∃ v, vs[i]? = some v ∧ RelD K w H d v
  | [], vs, i, d, h, e => by simp at e
  | d :: ds, vs, 0, d', h, e => by
    obtain ⟨v, r, rfl, h1, _⟩ := h
    simp at e
    subst e
    exact ⟨v, rfl, h1⟩
  | d :: ds, vs, i + 1, d', h, e => by
    obtain ⟨v, r, rfl, _, h2⟩ := h
    obtain ⟨u, h3, h4⟩ := RelDs.get (i := i) h2 (by simpa using e)
    exact ⟨u, by simpa using h3, h4⟩
theorem RelDs.append : ∀ {ds es : List D} {vs us : List V}, RelDs K w H ds vs → RelDs K w H es us → RelDs K w H (ds ++ es) (vs ++ us)
  | [], es, vs, us, h, g => by
    have e : vs = [] := h
    subst e
    exact g
  | d :: ds, es, vs, us, h, g => by
    obtain ⟨v, r, rfl, h1, h2⟩ := h
    exact ⟨v, r ++ us, rfl, h1, RelDs.append h2 g⟩
theorem RelDs.one {d : D} {v : V} (h : RelD K w H d v) : RelDs K w H [d] [v] := ⟨v, [], rfl, h, rfl⟩
theorem RelDs.take : ∀ {ds : List D} {vs : List V} (n : Nat), RelDs K w H ds vs → RelDs K w H (ds.take n) (vs.take n)
  | _, _, 0, _ => rfl
  | [], vs, _ + 1, h => by
    have e : vs = [] := h
    subst e
    rfl
  | d :: ds, vs, n + 1, h => by
    obtain ⟨v, r, rfl, h1, h2⟩ := h
    exact ⟨v, r.take n, rfl, h1, RelDs.take n h2⟩
theorem RelDs.drop : ∀ {ds : List D} {vs : List V} (n : Nat), RelDs K w H ds vs → RelDs K w H (ds.drop n) (vs.drop n)
  | _, _, 0, h => h
  | [], vs, _ + 1, h => by
    have e : vs = [] := h
    subst e
    rfl
  | d :: ds, vs, n + 1, h => by
    obtain ⟨v, r, rfl, h1, h2⟩ := h
    exact RelDs.drop n h2
theorem RelDs.set {d : D} {v : V} (hd : RelD K w H d v) : ∀ {ds : List D} {vs : List V} (n : Nat), RelDs K w H ds vs → RelDs K w H (ds.set n d) (vs.set n v)
  | [], vs, _, h => by
    have e : vs = [] := h
    subst e
    exact rfl
  | d' :: ds, vs, 0, h => by
    obtain ⟨v', r, rfl, h1, h2⟩ := h
    exact ⟨v, r, rfl, hd, h2⟩
  | d' :: ds, vs, n + 1, h => by
    obtain ⟨v', r, rfl, h1, h2⟩ := h
    exact ⟨v', r.set n v, rfl, h1, RelDs.set hd n h2⟩
theorem RelDs.rep {ds : List D} {vs : List V} (h : RelDs K w H ds vs) : ∀ k : Nat, RelDs K w H (List.replicate k ds).flatten (List.replicate k vs).flatten
  | 0 => rfl
  | k + 1 => by
    rw [List.replicate_succ, List.replicate_succ, List.flatten_cons, List.flatten_cons]
    exact h.append (RelDs.rep h k)
theorem RelDs.dropLast : ∀ {ds : List D} {vs : List V}, RelDs K w H ds vs → RelDs K w H ds.dropLast vs.dropLast := fun {ds vs} h => by
  rw [List.dropLast_eq_take, List.dropLast_eq_take, h.length]
  exact h.take _
theorem WOk.at (ok : WOk K H w st) {i : Nat} {a : Addr} (h : w.phi[i]? = some a) : ∃ so, st[i]? = some so ∧ RelSO K w H a so := by
  have hlt : i < w.phi.length := (List.getElem?_eq_some_iff.mp h).1
  have hs : i < st.length := by rw [← ok.len]; exact hlt
  exact ⟨_, List.getElem?_eq_getElem hs, ok.obj i _ a (List.getElem?_eq_getElem hs) h⟩
theorem WOk.addr (ok : WOk K H w st) {i : Nat} {so : SO} (h : st[i]? = some so) : ∃ a, w.phi[i]? = some a ∧ RelSO K w H a so := by
  have hlt : i < st.length := (List.getElem?_eq_some_iff.mp h).1
  have hs : i < w.phi.length := by rw [ok.len]; exact hlt
  exact ⟨_, List.getElem?_eq_getElem hs, ok.obj i _ _ h (List.getElem?_eq_getElem hs)⟩
theorem RelSO.there {a : Addr} {so : SO} (h : RelSO K w H a so) : ∃ o, H a = some o := by
  cases so with
  | lst ds => obtain ⟨vs, h, _⟩ := h; exact ⟨_, h⟩
  | dct ds => obtain ⟨vs, h, _⟩ := h; exact ⟨_, h⟩
  | set S n => exact ⟨_, h⟩
  | ins C fs => obtain ⟨dx, gs, h, _⟩ := h; exact ⟨_, h⟩
theorem WOk.there (ok : WOk K H w st) {a : Addr} (h : a ∈ w.phi) : ∃ o, H a = some o := by
  obtain ⟨i, hi⟩ := List.getElem?_of_mem h
  obtain ⟨so, _, r⟩ := ok.at hi
  exact r.there
theorem WOk.new_phi (ok : WOk K H w st) {p : Addr} (h : H p = none) : p ∉ w.phi := fun hm => by
  obtain ⟨o, e⟩ := ok.there hm
  rw [h] at e
  cases e
theorem WOk.new_R (ok : WOk K H w st) {p : Addr} (h : H p = none) : ¬ w.R p := fun hr => by
  obtain ⟨o, e⟩ := ok.rt p hr
  rw [h] at e
  cases e
/-- what the heap does beyond the store's own objects does not matter -/
theorem WOk.keep (ok : WOk K H w st) (e : Ext w H w H') (hp : ∀ a ∈ w.phi, H' a = H a) : WOk K H' w st := by
  refine ⟨ok.len, ok.nd, ok.sep, fun a hr => ?_, fun i so a h1 h2 => ?_⟩
  · obtain ⟨vs, h⟩ := ok.rt a hr
    exact ⟨vs, e.kp a _ (ro_nphi ok hr) h⟩
  · have q := ok.obj i so a h1 h2
    have ea := hp a (List.mem_of_getElem? h2)
    cases so with
    | lst ds =>
      obtain ⟨vs, h, r⟩ := q
      exact ⟨vs, by rw [ea]; exact h, RelDs.mono e ok _ _ r⟩
    | dct ds =>
      obtain ⟨vs, h, r⟩ := q
      exact ⟨vs, by rw [ea]; exact h, r.1, RelDs.mono e ok _ _ r.2⟩
    | set S n =>
      show H' a = _
      rw [ea]
      exact q
    | ins C fs =>
      obtain ⟨dx, gs, h, r⟩ := q
      exact ⟨dx, gs, by rw [ea]; exact h, r.1, RelDs.mono e ok _ _ r.2⟩
theorem Ext.upd_new {p : Addr} {o : HO} (h : H p = none) : Ext w H w (upd H p o) := by
  refine ⟨⟨[], by simp, by simp⟩, fun _ h => h, fun _ h => .inl h, fun a u _ hu => ?_, fun a u hu => ?_⟩
  · rw [upd_ne (ne_of_none hu h)]; exact hu
  · exact ⟨u, by rw [upd_ne (ne_of_none hu h)]; exact hu⟩
/-- a new object that the store does not know -/
theorem WOk.upd_new (ok : WOk K H w st) {p : Addr} {o : HO} (h : H p = none) : WOk K (upd H p o) w st :=
  ok.keep (Ext.upd_new h) fun a ha => by
    obtain ⟨u, e⟩ := ok.there ha
    exact upd_ne (ne_of_none e h)
/-- a store's object changes -/
theorem Ext.upd_phi {a : Addr} {o : HO} (h : a ∈ w.phi) : Ext w H w (upd H a o) := by
  refine ⟨⟨[], by simp, by simp⟩, fun _ h => h, fun _ h => .inl h, fun b u n hu => ?_, fun b u hu => ?_⟩
  · rw [upd_ne (fun e => n (by rw [e]; exact h))]; exact hu
  · by_cases e : b = a
    · exact ⟨o, by rw [e]; exact upd_same⟩
    · exact ⟨u, by rw [upd_ne e]; exact hu⟩
theorem nodup_get {α : Type} : ∀ {l : List α} {i j : Nat} {x : α}, l.Nodup → l[i]? = some x → l[j]? = some x → i = j
  | [], i, j, x, _, h1, _ => by simp at h1
  | y :: l, 0, 0, x, _, _, _ => rfl
  | y :: l, 0, j + 1, x, h, h1, h2 => by
    simp at h1 h2
    subst h1
    exact absurd (List.mem_of_getElem? h2) (List.nodup_cons.mp h).1
  | y :: l, i + 1, 0, x, h, h1, h2 => by
    simp at h1 h2
    subst h2
    exact absurd (List.mem_of_getElem? h1) (List.nodup_cons.mp h).1
  | y :: l, i + 1, j + 1, x, h, h1, h2 => by
    simp at h1 h2
    rw [nodup_get (List.nodup_cons.mp h).2 h1 h2]
theorem WOk.upd_phi (ok : WOk K H w st) {i : Nat} {a : Addr} {o : HO} {so : SO} (h : w.phi[i]? = some a) (hn : RelSO K w (upd H a o) a so) : WOk K (upd H a o) w (st.set i so) := by
  have hm := List.mem_of_getElem? h
  have e : Ext w H w (upd H a o) := Ext.upd_phi hm
  refine ⟨by rw [List.length_set]; exact ok.len, ok.nd, ok.sep, fun b hr => ?_, fun j so' b h1 h2 => ?_⟩
  · obtain ⟨vs, h⟩ := ok.rt b hr
    exact ⟨vs, e.kp b _ (ro_nphi ok hr) h⟩
  · by_cases hij : j = i
    · subst hij
      have hs : j < st.length := by rw [← ok.len]; exact (List.getElem?_eq_some_iff.mp h).1
      rw [List.getElem?_set_self hs] at h1
      rw [h] at h2
      cases h1
      cases h2
      exact hn
    · rw [List.getElem?_set_ne (Ne.symm hij)] at h1
      have hb : b ≠ a := fun z => hij (nodup_get ok.nd h2 (by rw [z]; exact h))
      have q := ok.obj j so' b h1 h2
      cases so' with
      | lst ds =>
        obtain ⟨vs, h, r⟩ := q
        exact ⟨vs, by rw [upd_ne hb]; exact h, RelDs.mono e ok _ _ r⟩
      | dct ds =>
        obtain ⟨vs, h, r⟩ := q
        exact ⟨vs, by rw [upd_ne hb]; exact h, r.1, RelDs.mono e ok _ _ r.2⟩
      | set S n =>
        show upd H a o b = _
        rw [upd_ne hb]
        exact q
      | ins C fs =>
        obtain ⟨dx, gs, h, r⟩ := q
        exact ⟨dx, gs, by rw [upd_ne hb]; exact h, r.1, RelDs.mono e ok _ _ r.2⟩
theorem RelSO.up (e : Up K w H w' H) {a : Addr} {so : SO} (h : RelSO K w H a so) : RelSO K w' H a so := by
  cases so with
  | lst ds => obtain ⟨vs, h, r⟩ := h; exact ⟨vs, h, RelDs.up e _ _ r⟩
  | dct ds => obtain ⟨vs, h, r⟩ := h; exact ⟨vs, h, r.1, RelDs.up e _ _ r.2⟩
  | set S n => exact h
  | ins C fs => obtain ⟨dx, gs, h, r⟩ := h; exact ⟨dx, gs, h, r.1, RelDs.up e _ _ r.2⟩
/-- a made list is kept to be read -/
theorem freeze (ok : WOk K H w st) (e : Ext w0 H0 w H) {ds : List D} {v : V} (h : RelT K H0 w H (.l ds) v) :
    ∃ w', Ext w0 H0 w' H ∧ WOk K H w' st ∧ RelD K w' H (.ro ds) v ∧ Up K w H w' H := by
  obtain ⟨a, vs, rfl, h1, h2, h3, h4, h5⟩ := h
  have up : Up K w H ⟨w.phi, fun b => w.R b ∨ b = a⟩ H := ⟨fun _ _ h => h, fun _ _ h => h, fun _ _ h1 h2 => ⟨.inl h1, h2⟩, fun _ _ h => h⟩
  refine ⟨⟨w.phi, fun b => w.R b ∨ b = a⟩, ⟨e.ph, fun b q => .inl (e.r1 b q), fun b q => ?_, e.kp, e.al⟩, ⟨ok.len, ok.nd, fun b hb q => ?_, fun b q => ?_, fun i so b i1 i2 => (ok.obj i so b i1 i2).up up⟩, ⟨a, vs, rfl, .inr rfl, h4, RelDs.up up _ _ h5⟩, up⟩
  · rcases q with q | rfl
    · exact e.r2 b q
    · exact .inr h3
  · rcases q with q | rfl
    · exact ok.sep b hb q
    · exact h1 hb
  · rcases q with q | rfl
    · exact ok.rt b q
    · exact ⟨vs, h4⟩
/-- a made list becomes an object of the store -/
theorem keepList (ok : WOk K H w st) (e : Ext w0 H0 w H) {ds : List D} {v : V} (h : RelT K H0 w H (.l ds) v) :
    ∃ w', Ext w0 H0 w' H ∧ WOk K H w' (st ++ [.lst ds]) ∧ RelD K w' H (.ref st.length) v ∧ Up K w H w' H := by
  obtain ⟨a, vs, rfl, h1, h2, h3, h4, h5⟩ := h
  have up : Up K w H ⟨w.phi ++ [a], w.R⟩ H := ⟨fun _ _ h => h, fun _ _ h => h, fun _ _ h1 h2 => ⟨h1, h2⟩, fun i b h => by
    show (w.phi ++ [a])[i]? = some b
    rw [List.getElem?_append_left (List.getElem?_eq_some_iff.mp h).1]
    exact h⟩
  have last : (w.phi ++ [a])[st.length]? = some a := by rw [← ok.len]; simp
  refine ⟨⟨w.phi ++ [a], w.R⟩, ⟨?_, e.r1, e.r2, e.kp, e.al⟩, ⟨by simp [ok.len], ?_, fun b hb q => ?_, ok.rt, fun i so b i1 i2 => ?_⟩, ⟨a, rfl, last⟩, up⟩
  · obtain ⟨more, p, q⟩ := e.ph
    refine ⟨more ++ [a], by rw [p, List.append_assoc], fun b hb => ?_⟩
    rcases List.mem_append.mp hb with z | z
    · exact q b z
    · obtain rfl := List.mem_singleton.mp z
      exact h3
  · refine List.nodup_append.mpr ⟨ok.nd, by simp, fun x hx y hy => ?_⟩
    obtain rfl := List.mem_singleton.mp hy
    exact fun z => h1 (z ▸ hx)
  · rcases List.mem_append.mp hb with z | z
    · exact ok.sep b z q
    · obtain rfl := List.mem_singleton.mp z
      exact h2 q
  · by_cases hlt : i < st.length
    · rw [List.getElem?_append_left hlt] at i1
      have i2 : (w.phi ++ [a])[i]? = some b := i2
      rw [List.getElem?_append_left (by rw [ok.len]; exact hlt)] at i2
      exact (ok.obj i so b i1 i2).up up
    · have hi : i = st.length := by
        have := (List.getElem?_eq_some_iff.mp i1).1
        simp at this
        omega
      subst hi
      have i2 : (w.phi ++ [a])[st.length]? = some b := i2
      rw [last] at i2
      cases i2
      simp at i1
      subst i1
      exact ⟨vs, h4, RelDs.up up _ _ h5⟩
theorem RelKV.mono {κ : Type} (e : Ext w H w' H') (ok : WOk K H w st) {kvs : List (κ × D)} {kus : List (κ × V)} (h : RelKV K w H kvs kus) : RelKV K w' H' kvs kus := ⟨h.1, RelDs.mono e ok _ _ h.2⟩
end
end Q3

/-! Q3: what a piece of syntax does to data and store: expressions, tests, arguments, statements. -/
namespace Q3
open PySem L2

def T.d : T → D
  | .s d => d
  | .l ds => .ro ds
def XRel (K : PySem.W.Frag) (w : Wd) (H : Hp) (x : Exn) (cls : Value) (dd : Option Addr) : Prop :=
  cls = x.cls ∧ match x.fs with
    | [] => dd = none
    | f :: r => ∃ (d : Addr) (gs : List (Str × V)), dd = some d ∧ H d = some (.xd gs) ∧ RelKV K w H (f :: r) gs
def Post {α β : Type} (Rl : Wd → Hp → α → β → Prop) (K : PySem.W.Frag) (w0 : Wd) (H0 : Hp) (r : R α) (Q : β → Hp → Prop) (E : XK) : Prop :=
  match r with
  | .ok a st' => ∀ w' H' b, Ext w0 H0 w' H' → WOk K H' w' st' → Rl w' H' a b → Q b H'
  | .exc x st' => ∀ w' H' cls dd, Ext w0 H0 w' H' → WOk K H' w' st' → XRel K w' H' x cls dd → E cls dd H'
  | .bad => False
abbrev PostE (K : PySem.W.Frag) (w0 : Wd) (H0 : Hp) (r : R T) (Q : VK) (E : XK) : Prop := Post (fun w' H' t v => RelT K H0 w' H' t v) K w0 H0 r Q E
abbrev PostD (K : PySem.W.Frag) (w0 : Wd) (H0 : Hp) (r : R T) (Q : VK) (E : XK) : Prop := Post (fun w' H' t v => RelD K w' H' t.d v) K w0 H0 r Q E
abbrev PostB (K : PySem.W.Frag) (w0 : Wd) (H0 : Hp) (r : R Bool) (Q : Bool → Hp → Prop) (E : XK) : Prop := Post (fun _ _ (a b : Bool) => a = b) K w0 H0 r Q E
abbrev PostA (K : PySem.W.Frag) (w0 : Wd) (H0 : Hp) (r : R (List D)) (Q : List V → Hp → Prop) (E : XK) : Prop := Post (fun w' H' ds vs => RelDs K w' H' ds vs) K w0 H0 r Q E
section
variable {K : PySem.W.Frag} {w w0 w1 : Wd} {H H0 H1 : Hp} {Q : VK} {E : XK}
theorem PostE.of_d {r : R T} (h : PostD K w0 H0 r Q E) : PostE K w0 H0 r Q E := by
  cases r with
  | ok t st' =>
    intro w' H' v e ok rl
    cases t with
    | s d => exact h w' H' v e ok rl
    | l ds =>
      obtain ⟨w2, e2, ok2, rd, _⟩ := freeze ok e rl
      exact h w2 H' v e2 ok2 rd
  | exc x st' => exact h
  | bad => exact h
theorem Post.shift {α β : Type} {Rl Rl' : Wd → Hp → α → β → Prop} {r : R α} {Q : β → Hp → Prop} (e : Ext w0 H0 w1 H1) (hr : ∀ w H a b, Rl' w H a b → Rl w H a b) (h : Post Rl K w0 H0 r Q E) : Post Rl' K w1 H1 r Q E := by
  cases r with
  | ok t st' => exact fun w' H' v f ok rl => h w' H' v (e.trans f) ok (hr _ _ _ _ rl)
  | exc x st' => exact fun w' H' cls dd f ok rl => h w' H' cls dd (e.trans f) ok rl
  | bad => exact h
theorem PostE.shift {r : R T} (e : Ext w0 H0 w1 H1) (h : PostE K w0 H0 r Q E) : PostE K w1 H1 r Q E := Post.shift e (fun _ _ _ _ rl => rl.base e) h
end

def RelSl (K : PySem.W.Frag) (w : Wd) (H : Hp) (σd : DS) (σ : St) : Prop :=
  σd.length = σ.length ∧ ∀ (i : Nat) (d : D), σd[i]? = some (some d) → ∃ v, σ[i]? = some (some v) ∧ RelD K w H d v
theorem RelSl.up {K : PySem.W.Frag} {w w' : Wd} {H H' : Hp} {σd : DS} {σ : St} (u : Up K w H w' H') (h : RelSl K w H σd σ) : RelSl K w' H' σd σ :=
  ⟨h.1, fun i d e => let ⟨v, a, b⟩ := h.2 i d e; ⟨v, a, RelD.up u d v b⟩⟩
theorem RelSl.mono {K : PySem.W.Frag} {w w' : Wd} {H H' : Hp} {st : Store} {σd : DS} {σ : St} (e : Ext w H w' H') (ok : WOk K H w st) (h : RelSl K w H σd σ) : RelSl K w' H' σd σ := h.up (e.up ok)
theorem RelSl.set {K : PySem.W.Frag} {w : Wd} {H : Hp} {σd : DS} {σ : St} {d : D} {v : V} (h : RelSl K w H σd σ) (hd : RelD K w H d v) (i : Nat) : RelSl K w H (σd.set i (some d)) (σ.set i (some v)) := by
  refine ⟨by rw [List.length_set, List.length_set]; exact h.1, fun j d' e => ?_⟩
  by_cases hj : j = i
  · subst hj
    have hlt : j < σd.length := by
      have := (List.getElem?_eq_some_iff.mp e).1
      rwa [List.length_set] at this
    rw [List.getElem?_set_self hlt] at e
    cases e
    exact ⟨v, List.getElem?_set_self (by rw [← h.1]; exact hlt), hd⟩
  · rw [List.getElem?_set_ne (Ne.symm hj)] at e
    obtain ⟨u, a, b⟩ := h.2 j d' e
    exact ⟨u, by rw [List.getElem?_set_ne (Ne.symm hj)]; exact a, b⟩
theorem RelSl.kill {K : PySem.W.Frag} {w : Wd} {H : Hp} {σd : DS} {σ : St} (h : RelSl K w H σd σ) (i : Nat) : RelSl K w H (σd.set i none) σ := by
  refine ⟨by rw [List.length_set]; exact h.1, fun j d' e => ?_⟩
  by_cases hj : j = i
  · subst hj
    have hlt : j < σd.length := by
      have := (List.getElem?_eq_some_iff.mp e).1
      rwa [List.length_set] at this
    rw [List.getElem?_set_self hlt] at e
    cases e
  · rw [List.getElem?_set_ne (Ne.symm hj)] at e
    exact h.2 j d' e

/-- W: what is wished of an exception, at the slots -/
def LE (K : PySem.W.Frag) (W : WX) (t : TE) (f : ME) : Prop := ∀ w H σ σd st Q, WOk K H w st → RelSl K w H σd σ → PostE K w H (f σd st) Q (fun c d H' => W c d σ H') → t σ H Q
def LT (K : PySem.W.Frag) (W : WX) (t : TT) (f : MT) : Prop := ∀ w H σ σd st Q, WOk K H w st → RelSl K w H σd σ → PostB K w H (f σd st) Q (fun c d H' => W c d σ H') → t σ H Q
def LA (K : PySem.W.Frag) (W : WX) (t : TA) (f : MA) : Prop := ∀ w H σ σd st Q, WOk K H w st → RelSl K w H σd σ → PostA K w H (f σd st) Q (fun c d H' => W c d σ H') → t σ H Q
def PostS (K : PySem.W.Frag) (w0 : Wd) (H0 : Hp) (r : RS) (D : Ends) (W : WX) : Prop :=
  match r with
  | .nx σd st' => ∀ w' H' σ', Ext w0 H0 w' H' → WOk K H' w' st' → RelSl K w' H' σd σ' → D.nx σ' H'
  | .rt t st' => ∀ w' H' v, Ext w0 H0 w' H' → WOk K H' w' st' → RelT K H0 w' H' t v → D.rt v H'
  | .bk σd st' => ∀ w' H' σ', Ext w0 H0 w' H' → WOk K H' w' st' → RelSl K w' H' σd σ' → D.bk σ' H'
  | .ct σd st' => ∀ w' H' σ', Ext w0 H0 w' H' → WOk K H' w' st' → RelSl K w' H' σd σ' → D.ct σ' H'
  | .exc x σd st' => ∀ w' H' σ' cls dd, Ext w0 H0 w' H' → WOk K H' w' st' → RelSl K w' H' σd σ' → XRel K w' H' x cls dd → W cls dd σ' H'
  | .bad => False
def LS (K : PySem.W.Frag) (W : WX) (t : TS) (f : MS) : Prop := ∀ w H σ σd st D, WOk K H w st → RelSl K w H σd σ → PostS K w H (f σd st) D W → t D σ H
theorem PostS.shift {K : PySem.W.Frag} {w0 w1 : Wd} {H0 H1 : Hp} {r : RS} {D : Ends} {W : WX} (e : Ext w0 H0 w1 H1) (h : PostS K w0 H0 r D W) : PostS K w1 H1 r D W := by
  cases r with
  | nx σ st => exact fun w' H' σ' f => h w' H' σ' (e.trans f)
  | rt t st => exact fun w' H' v f ok rl => h w' H' v (e.trans f) ok (rl.base e)
  | bk σ st => exact fun w' H' σ' f => h w' H' σ' (e.trans f)
  | ct σ st => exact fun w' H' σ' f => h w' H' σ' (e.trans f)
  | exc x σ st => exact fun w' H' σ' c d f => h w' H' σ' c d (e.trans f)
  | bad => exact h

structure EvE (X : Cx) (W : WX) (e : Expr) (t : TE) (f : ME) : Prop where
  pe : PE X e t
  le : LE X.K W t f
structure EvT (X : Cx) (W : WX) (e : Expr) (t : TT) (f : MT) : Prop where
  pt : PT X e t
  le : LT X.K W t f
structure EvA (X : Cx) (W : WX) (es : List Expr) (t : TA) (f : MA) : Prop where
  pa : PA X es t
  le : LA X.K W t f
structure EvS (X : Cx) (W : WX) (st : Stmt) (t : TS) (f : MS) : Prop where
  ps : PS X st t
  le : LS X.K W t f
structure EvSs (X : Cx) (W : WX) (st : List Stmt) (t : TS) (f : MS) : Prop where
  pss : PSs X st t
  le : LS X.K W t f

/-! ### the meanings -/
def fVar (i : Nat) : ME := fun σ st => match σ[i]? with
  | some (some d) => .ok (.s d) st
  | _ => .bad
def fC (d : D) : ME := fun _ st => .ok (.s d) st
/-- the list is kept as an object of the store -/
def fMat (f : ME) : ME := fun σ st => (f σ st).bind fun t st1 => match t with
  | .s d => .ok (.s d) st1
  | .l ds => .ok (.s (.ref st1.length)) (st1 ++ [.lst ds])
def fBin (op : D → D → Store → R T) (fa fb : ME) : ME := fun σ st => (fa σ st).bind fun x st1 => (fb σ st1).bind fun y st2 => op x.d y.d st2
def fUn (op : D → Store → R T) (fa : ME) : ME := fun σ st => (fa σ st).bind fun x st1 => op x.d st1
def fNil : MA := fun _ st => .ok [] st
def fCons (fe : ME) (fr : MA) : MA := fun σ st => (fe σ st).bind fun x st1 => (fr σ st1).bind fun xs st2 => .ok (x.d :: xs) st2
def fArgs (c : List D → Store → R T) (fa : MA) : ME := fun σ st => (fa σ st).bind fun xs st1 => c xs st1
def R.pure0 : R T → R T
  | .exc _ _ => .bad
  | r => r
def fCall0 (c : Fn) (fa : MA) : ME := fArgs (fun xs st => (c xs st).pure0) fa
def fIf (ft : MT) (fa fb : ME) : ME := fun σ st => (ft σ st).bind fun c st1 => if c = true then fa σ st1 else fb σ st1
def tVal (fa : ME) : MT := fun σ st => (fa σ st).bind fun x st1 => match x.d with
  | .bl b => .ok b st1
  | _ => .bad
def tAndF (a b : MT) : MT := fun σ st => (a σ st).bind fun c st1 => if c = true then b σ st1 else .ok false st1
def tOrF (a b : MT) : MT := fun σ st => (a σ st).bind fun c st1 => if c = true then .ok true st1 else b σ st1
def tNotF (a : MT) : MT := fun σ st => (a σ st).bind fun c st1 => .ok (!c) st1
def fNotV (a : ME) : ME := fun σ st => (a σ st).bind fun x st1 => match x.d with
  | .bl b => .ok (.s (.bl (!b))) st1
  | _ => .bad
def fAndV (a b : ME) : ME := fun σ st => (a σ st).bind fun x st1 => match x.d with
  | .bl c => if c = true then b σ st1 else .ok (.s (.bl false)) st1
  | _ => .bad
def fOrV (a b : ME) : ME := fun σ st => (a σ st).bind fun x st1 => match x.d with
  | .bl c => if c = true then .ok (.s (.bl true)) st1 else b σ st1
  | _ => .bad
/-- statements -/
def mNil : MS := fun σ st => .nx σ st
def mSeq (a b : MS) : MS := fun σ st => match a σ st with
  | .nx σ1 st1 => b σ1 st1
  | r => r
def mSet (i : Nat) (fe : ME) : MS := fun σ st => (fe σ st).toS σ fun x st1 => .nx (σ.set i (some x.d)) st1
def mExpr (fe : ME) : MS := fun σ st => (fe σ st).toS σ fun _ st1 => .nx σ st1
def mRet (fe : ME) : MS := fun σ st => (fe σ st).toS σ fun x st1 => .rt x st1
def mRetN : MS := fun _ st => .rt (.s .non) st
def mIf (ft : MT) (a b : MS) : MS := fun σ st => match ft σ st with
  | .ok c st1 => if c = true then a σ st1 else b σ st1
  | .exc x st1 => .exc x σ st1
  | .bad => .bad
def mBreak : MS := fun σ st => .bk σ st
def mCont : MS := fun σ st => .ct σ st
/-- forget a slot -/
def mKill (i : Nat) (a : MS) : MS := fun σ st => match a σ st with
  | .nx σ1 st1 => .nx (σ1.set i none) st1
  | r => r

section
variable {K : PySem.W.Frag} {W : WX} {ta tb te : TE} {fa fb fe : ME}
/-- the frozen value of an expression -/
theorem LE.d (h : LE K W te fe) {w : Wd} {H : Hp} {σ : St} {σd : DS} {st : Store} {Q : VK} (ok : WOk K H w st) (sl : RelSl K w H σd σ) (p : PostD K w H (fe σd st) Q (fun c d H' => W c d σ H')) : te σ H Q :=
  h w H σ σd st Q ok sl (PostE.of_d p)
theorem le_var {i : Nat} : LE K W (tVar i) (fVar i) := by
  intro w H σ σd st Q ok sl p
  unfold fVar at p
  split at p
  · rename_i d e
    obtain ⟨v, h1, h2⟩ := sl.2 i d e
    exact ⟨v, h1, p w H v (Ext.refl _ _) ok h2⟩
  · exact p.elim
theorem le_c {d : D} {v : V} (h : ∀ w H, RelD K w H d v) : LE K W (tC v) (fC d) := fun w H σ σd st Q ok sl p => p w H v (Ext.refl _ _) ok (h w H)
theorem le_mat (h : LE K W te fe) : LE K W te (fMat fe) := by
  intro w H σ σd st Q ok sl p
  refine h w H σ σd st Q ok sl ?_
  unfold fMat at p
  cases e : fe σd st with
  | ok t st1 =>
    rw [e] at p
    intro w1 H1 v e1 ok1 r1
    cases t with
    | s d => exact p w1 H1 v e1 ok1 r1
    | l ds =>
      obtain ⟨w2, e2, ok2, rd, _⟩ := keepList ok1 e1 r1
      exact p w2 H1 v e2 ok2 rd
  | exc x st1 =>
    rw [e] at p
    exact p
  | bad =>
    rw [e] at p
    exact p
def OpOk (K : PySem.W.Frag) (r : R2) (op : D → D → Store → R T) : Prop := ∀ w H st x y vx vy Q E, WOk K H w st → RelD K w H x vx → RelD K w H y vy → PostE K w H (op x y st) Q E → r vx vy H Q
def UnOk (K : PySem.W.Frag) (r : V → Hp → VK → Prop) (op : D → Store → R T) : Prop := ∀ w H st x vx Q E, WOk K H w st → RelD K w H x vx → PostE K w H (op x st) Q E → r vx H Q
def CallOk (K : PySem.W.Frag) (r : List V → Hp → VK → Prop) (op : List D → Store → R T) : Prop := ∀ w H st xs vs Q E, WOk K H w st → RelDs K w H xs vs → PostE K w H (op xs st) Q E → r vs H Q
theorem le_bin {r : R2} {op : D → D → Store → R T} (ha : LE K W ta fa) (hb : LE K W tb fb) (ho : OpOk K r op) : LE K W (tOp r ta tb) (fBin op fa fb) := by
  intro w H σ σd st Q ok sl p
  refine ha.d ok sl ?_
  unfold fBin at p
  cases e : fa σd st with
  | ok x st1 =>
    rw [e] at p
    intro w1 H1 v e1 ok1 r1
    refine hb.d ok1 (sl.mono e1 ok) ?_
    have p : PostE K w H ((fb σd st1).bind fun y st2 => op x.d y.d st2) Q _ := p
    cases e' : fb σd st1 with
    | ok y st2 =>
      rw [e'] at p
      intro w2 H2 u e2 ok2 r2
      exact ho w2 H2 st2 _ _ v u Q _ ok2 (RelD.mono e2 ok1 _ _ r1) r2 (PostE.shift (e1.trans e2) p)
    | exc x2 st2 =>
      rw [e'] at p
      exact fun w' H' cls dd f => p w' H' cls dd (e1.trans f)
    | bad => rw [e'] at p; exact p
  | exc x st1 => rw [e] at p; exact p
  | bad => rw [e] at p; exact p
theorem le_un {r : V → Hp → VK → Prop} {op : D → Store → R T} (ha : LE K W ta fa) (ho : UnOk K r op) : LE K W (tUn r ta) (fUn op fa) := by
  intro w H σ σd st Q ok sl p
  refine ha.d ok sl ?_
  unfold fUn at p
  cases e : fa σd st with
  | ok x st1 =>
    rw [e] at p
    intro w1 H1 v e1 ok1 r1
    exact ho w1 H1 st1 _ v Q _ ok1 r1 (PostE.shift e1 p)
  | exc x st1 => rw [e] at p; exact p
  | bad => rw [e] at p; exact p
theorem la_nil : LA K W tNil fNil := fun w H σ σd st Q ok sl p => p w H [] (Ext.refl _ _) ok rfl
theorem la_cons {t : TA} {fr : MA} (he : LE K W te fe) (hr : LA K W t fr) : LA K W (tCons te t) (fCons fe fr) := by
  intro w H σ σd st Q ok sl p
  refine he.d ok sl ?_
  unfold fCons at p
  cases e : fe σd st with
  | ok x st1 =>
    rw [e] at p
    intro w1 H1 v e1 ok1 r1
    refine hr w1 H1 σ σd st1 _ ok1 (sl.mono e1 ok) ?_
    have p : PostA K w H ((fr σd st1).bind fun xs st2 => .ok (x.d :: xs) st2) Q _ := p
    cases e' : fr σd st1 with
    | ok y st2 =>
      rw [e'] at p
      intro w2 H2 u e2 ok2 r2
      exact p w2 H2 (v :: u) (e1.trans e2) ok2 ⟨v, u, rfl, RelD.mono e2 ok1 _ _ r1, r2⟩
    | exc x2 st2 =>
      rw [e'] at p
      exact fun w' H' cls dd f => p w' H' cls dd (e1.trans f)
    | bad => rw [e'] at p; exact p
  | exc x st1 => rw [e] at p; exact p
  | bad => rw [e] at p; exact p
theorem le_args {t : TA} {fr : MA} {r : List V → Hp → VK → Prop} {op : List D → Store → R T} (ha : LA K W t fr) (ho : CallOk K r op) : LE K W (tCB r t) (fArgs op fr) := by
  intro w H σ σd st Q ok sl p
  refine ha w H σ σd st _ ok sl ?_
  unfold fArgs at p
  cases e : fr σd st with
  | ok x st1 =>
    rw [e] at p
    intro w1 H1 v e1 ok1 r1
    exact ho w1 H1 st1 _ v Q _ ok1 r1 (PostE.shift e1 p)
  | exc x st1 => rw [e] at p; exact p
  | bad => rw [e] at p; exact p
/-- what a def promises by its meaning -/
def spOf (K : PySem.W.Frag) (n : Nat) (c : Fn) : Sp := fun vs H Q E => vs.length = n ∧ ∃ w args st, WOk K H w st ∧ RelDs K w H args vs ∧ PostE K w H (c args st) Q E
theorem le_call0 {t : TA} {fr : MA} {c : Fn} {n : Nat} (ha : LA K W t fr) (hn : ∀ σ st xs st', fr σ st = .ok xs st' → xs.length = n) : LE K W (tCall (spOf K n c) [] E0 t) (fCall0 c fr) := by
  intro w H σ σd st Q ok sl p
  refine ha w H σ σd st _ ok sl ?_
  unfold fCall0 fArgs at p
  cases e : fr σd st with
  | ok x st1 =>
    rw [e] at p
    intro w1 H1 v e1 ok1 r1
    refine ⟨by rw [List.append_nil, ← r1.length]; exact hn _ _ _ _ e, w1, x, st1, ok1, by rw [List.append_nil]; exact r1, ?_⟩
    have p : PostE K w1 H1 (c x st1).pure0 Q _ := PostE.shift e1 p
    cases q : c x st1 with
    | ok a b => rw [q] at p; exact p
    | exc a b => rw [q] at p; exact p.elim
    | bad => rw [q] at p; exact p.elim
  | exc x st1 => rw [e] at p; exact p
  | bad => rw [e] at p; exact p
theorem le_callX {t : TA} {fr : MA} {c : Fn} {n : Nat} (ha : LA K W t fr) (hn : ∀ σ st xs st', fr σ st = .ok xs st' → xs.length = n) : LE K W (tCallS (spOf K n c) (WE W) t) (fArgs c fr) := by
  intro w H σ σd st Q ok sl p
  refine ha w H σ σd st _ ok sl ?_
  unfold fArgs at p
  cases e : fr σd st with
  | ok x st1 =>
    rw [e] at p
    intro w1 H1 v e1 ok1 r1
    exact ⟨by rw [← r1.length]; exact hn _ _ _ _ e, w1, x, st1, ok1, r1, PostE.shift e1 p⟩
  | exc x st1 => rw [e] at p; exact p
  | bad => rw [e] at p; exact p
theorem le_if {tt : TT} {ft : MT} (ht : LT K W tt ft) (ha : LE K W ta fa) (hb : LE K W tb fb) : LE K W (tIf tt ta tb) (fIf ft fa fb) := by
  intro w H σ σd st Q ok sl p
  refine ht w H σ σd st _ ok sl ?_
  unfold fIf at p
  cases e : ft σd st with
  | ok c st1 =>
    rw [e] at p
    intro w1 H1 b e1 ok1 r1
    have r1 : c = b := r1
    subst r1
    have p : PostE K w H (if c = true then fa σd st1 else fb σd st1) Q _ := p
    cases c with
    | true => exact ha w1 H1 σ σd st1 Q ok1 (sl.mono e1 ok) (PostE.shift e1 p)
    | false => exact hb w1 H1 σ σd st1 Q ok1 (sl.mono e1 ok) (PostE.shift e1 p)
  | exc x st1 => rw [e] at p; exact p
  | bad => rw [e] at p; exact p
theorem RelD.bl_of {w : Wd} {H : Hp} {b : Bool} {v : V} (h : RelD K w H (.bl b) v) : v = .bl b := h
/-- a value that is a bool, as a test (tB and tTest are the same) -/
theorem lt_val (ha : LE K W ta fa) : LT K W (tB ta) (tVal fa) := by
  intro w H σ σd st Q ok sl p
  refine ha.d ok sl ?_
  unfold tVal at p
  cases e : fa σd st with
  | ok x st1 =>
    rw [e] at p
    intro w1 H1 v e1 ok1 r1
    have p : PostB K w H (match x.d with | .bl b => .ok b st1 | _ => .bad) Q _ := p
    generalize x.d = d at p r1
    cases d with
    | bl b => exact ⟨b, r1, p w1 H1 b e1 ok1 rfl⟩
    | _ => exact p.elim
  | exc x st1 => rw [e] at p; exact p
  | bad => rw [e] at p; exact p
theorem lt_test (ha : LE K W ta fa) : LT K W (tTest ta) (tVal fa) := lt_val ha
theorem lt_and {a b : TT} {f g : MT} (ha : LT K W a f) (hb : LT K W b g) : LT K W (tAnd a b) (tAndF f g) := by
  intro w H σ σd st Q ok sl p
  refine ha w H σ σd st _ ok sl ?_
  unfold tAndF at p
  cases e : f σd st with
  | ok c st1 =>
    rw [e] at p
    intro w1 H1 b' e1 ok1 r1
    have r1 : c = b' := r1
    subst r1
    have p : PostB K w H (if c = true then g σd st1 else .ok false st1) Q _ := p
    cases c with
    | true => exact hb w1 H1 σ σd st1 Q ok1 (sl.mono e1 ok) (Post.shift e1 (fun _ _ _ _ h => h) p)
    | false => exact p w1 H1 false e1 ok1 rfl
  | exc x st1 => rw [e] at p; exact p
  | bad => rw [e] at p; exact p
theorem lt_or {a b : TT} {f g : MT} (ha : LT K W a f) (hb : LT K W b g) : LT K W (tOr a b) (tOrF f g) := by
  intro w H σ σd st Q ok sl p
  refine ha w H σ σd st _ ok sl ?_
  unfold tOrF at p
  cases e : f σd st with
  | ok c st1 =>
    rw [e] at p
    intro w1 H1 b' e1 ok1 r1
    have r1 : c = b' := r1
    subst r1
    have p : PostB K w H (if c = true then .ok true st1 else g σd st1) Q _ := p
    cases c with
    | false => exact hb w1 H1 σ σd st1 Q ok1 (sl.mono e1 ok) (Post.shift e1 (fun _ _ _ _ h => h) p)
    | true => exact p w1 H1 true e1 ok1 rfl
  | exc x st1 => rw [e] at p; exact p
  | bad => rw [e] at p; exact p
theorem lt_not {a : TT} {f : MT} (ha : LT K W a f) : LT K W (tNot a) (tNotF f) := by
  intro w H σ σd st Q ok sl p
  refine ha w H σ σd st _ ok sl ?_
  unfold tNotF at p
  cases e : f σd st with
  | ok c st1 =>
    rw [e] at p
    intro w1 H1 b' e1 ok1 r1
    have r1 : c = b' := r1
    subst r1
    exact p w1 H1 (!c) e1 ok1 rfl
  | exc x st1 => rw [e] at p; exact p
  | bad => rw [e] at p; exact p
theorem le_notV (ha : LE K W ta fa) : LE K W (tNotV ta) (fNotV fa) := by
  intro w H σ σd st Q ok sl p
  refine ha.d ok sl ?_
  unfold fNotV at p
  cases e : fa σd st with
  | ok x st1 =>
    rw [e] at p
    intro w1 H1 v e1 ok1 r1
    have p : PostE K w H (match x.d with | .bl b => .ok (.s (.bl (!b))) st1 | _ => .bad) Q _ := p
    generalize x.d = d at p r1
    cases d with
    | bl b => exact ⟨b, r1, p w1 H1 _ e1 ok1 rfl⟩
    | _ => exact p.elim
  | exc x st1 => rw [e] at p; exact p
  | bad => rw [e] at p; exact p
theorem le_andV (ha : LE K W ta fa) (hb : LE K W tb fb) : LE K W (tAndV ta tb) (fAndV fa fb) := by
  intro w H σ σd st Q ok sl p
  refine ha.d ok sl ?_
  unfold fAndV at p
  cases e : fa σd st with
  | ok x st1 =>
    rw [e] at p
    intro w1 H1 v e1 ok1 r1
    have p : PostE K w H (match x.d with | .bl c => if c = true then fb σd st1 else .ok (.s (.bl false)) st1 | _ => .bad) Q _ := p
    generalize x.d = d at p r1
    cases d with
    | bl b =>
      refine ⟨b, r1, ?_⟩
      cases b with
      | true => exact hb w1 H1 σ σd st1 Q ok1 (sl.mono e1 ok) (PostE.shift e1 p)
      | false => exact p w1 H1 _ e1 ok1 rfl
    | _ => exact p.elim
  | exc x st1 => rw [e] at p; exact p
  | bad => rw [e] at p; exact p
theorem le_orV (ha : LE K W ta fa) (hb : LE K W tb fb) : LE K W (tOrV ta tb) (fOrV fa fb) := by
  intro w H σ σd st Q ok sl p
  refine ha.d ok sl ?_
  unfold fOrV at p
  cases e : fa σd st with
  | ok x st1 =>
    rw [e] at p
    intro w1 H1 v e1 ok1 r1
    have p : PostE K w H (match x.d with | .bl c => if c = true then .ok (.s (.bl true)) st1 else fb σd st1 | _ => .bad) Q _ := p
    generalize x.d = d at p r1
    cases d with
    | bl b =>
      refine ⟨b, r1, ?_⟩
      cases b with
      | false => exact hb w1 H1 σ σd st1 Q ok1 (sl.mono e1 ok) (PostE.shift e1 p)
      | true => exact p w1 H1 _ e1 ok1 rfl
    | _ => exact p.elim
  | exc x st1 => rw [e] at p; exact p
  | bad => rw [e] at p; exact p
/-! statements -/
theorem ls_nil : LS K W tNext mNil := fun w H σ σd st D ok sl p => p w H σ (Ext.refl _ _) ok sl
theorem ls_seq {t u : TS} {f g : MS} (h1 : LS K W t f) (h2 : LS K W u g) : LS K W (tSeq t u) (mSeq f g) := by
  intro w H σ σd st D ok sl p
  refine h1 w H σ σd st _ ok sl ?_
  unfold mSeq at p
  cases e : f σd st with
  | nx σ1 st1 =>
    rw [e] at p
    intro w1 H1 σ' e1 ok1 sl1
    exact h2 w1 H1 σ' σ1 st1 D ok1 sl1 (PostS.shift e1 p)
  | rt t st1 => rw [e] at p; exact p
  | bk σ1 st1 => rw [e] at p; exact p
  | ct σ1 st1 => rw [e] at p; exact p
  | exc x σ1 st1 => rw [e] at p; exact p
  | bad => rw [e] at p; exact p
theorem ls_kill {t : TS} {f : MS} {i : Nat} (h : LS K W t f) : LS K W t (mKill i f) := by
  intro w H σ σd st D ok sl p
  refine h w H σ σd st _ ok sl ?_
  unfold mKill at p
  cases e : f σd st with
  | nx σ1 st1 =>
    rw [e] at p
    intro w1 H1 σ' e1 ok1 sl1
    exact p w1 H1 σ' e1 ok1 (sl1.kill i)
  | rt t st1 => rw [e] at p; exact p
  | bk σ1 st1 => rw [e] at p; exact p
  | ct σ1 st1 => rw [e] at p; exact p
  | exc x σ1 st1 => rw [e] at p; exact p
  | bad => rw [e] at p; exact p
theorem ls_set {i : Nat} (he : LE K W te fe) : LS K W (tAsg te (gName i)) (mSet i fe) := by
  intro w H σ σd st D ok sl p
  refine he.d ok sl ?_
  unfold mSet at p
  cases e : fe σd st with
  | ok x st1 =>
    rw [e] at p
    intro w1 H1 v e1 ok1 r1
    exact p w1 H1 _ e1 ok1 ((sl.mono e1 ok).set r1 i)
  | exc x st1 =>
    rw [e] at p
    exact fun w1 H1 cls dd e1 ok1 r1 => p w1 H1 σ cls dd e1 ok1 (sl.mono e1 ok) r1
  | bad => rw [e] at p; exact p
theorem ls_expr (he : LE K W te fe) : LS K W (tDrop te) (mExpr fe) := by
  intro w H σ σd st D ok sl p
  refine he w H σ σd st _ ok sl ?_
  unfold mExpr at p
  cases e : fe σd st with
  | ok x st1 =>
    rw [e] at p
    intro w1 H1 v e1 ok1 r1
    exact p w1 H1 _ e1 ok1 (sl.mono e1 ok)
  | exc x st1 =>
    rw [e] at p
    exact fun w1 H1 cls dd e1 ok1 r1 => p w1 H1 σ cls dd e1 ok1 (sl.mono e1 ok) r1
  | bad => rw [e] at p; exact p
theorem ls_ret (he : LE K W te fe) : LS K W (tRet te) (mRet fe) := by
  intro w H σ σd st D ok sl p
  refine he w H σ σd st _ ok sl ?_
  unfold mRet at p
  cases e : fe σd st with
  | ok x st1 => rw [e] at p; exact p
  | exc x st1 =>
    rw [e] at p
    exact fun w1 H1 cls dd e1 ok1 r1 => p w1 H1 σ cls dd e1 ok1 (sl.mono e1 ok) r1
  | bad => rw [e] at p; exact p
theorem ls_retN : LS K W tRetN mRetN := fun w H σ σd st D ok sl p => p w H .non (Ext.refl _ _) ok rfl
theorem ls_break : LS K W tBreak mBreak := fun w H σ σd st D ok sl p => p w H σ (Ext.refl _ _) ok sl
theorem ls_cont : LS K W tCont mCont := fun w H σ σd st D ok sl p => p w H σ (Ext.refl _ _) ok sl
theorem ls_if {tt : TT} {ft : MT} {t u : TS} {f g : MS} (ht : LT K W tt ft) (h1 : LS K W t f) (h2 : LS K W u g) : LS K W (tIfS tt t u) (mIf ft f g) := by
  intro w H σ σd st D ok sl p
  refine ht w H σ σd st _ ok sl ?_
  unfold mIf at p
  cases e : ft σd st with
  | ok c st1 =>
    rw [e] at p
    intro w1 H1 b e1 ok1 r1
    have r1 : c = b := r1
    subst r1
    have p : PostS K w H (if c = true then f σd st1 else g σd st1) D W := p
    cases c with
    | true => exact h1 w1 H1 σ σd st1 D ok1 (sl.mono e1 ok) (PostS.shift e1 p)
    | false => exact h2 w1 H1 σ σd st1 D ok1 (sl.mono e1 ok) (PostS.shift e1 p)
  | exc x st1 =>
    rw [e] at p
    exact fun w1 H1 cls dd e1 ok1 r1 => p w1 H1 σ cls dd e1 ok1 (sl.mono e1 ok) r1
  | bad => rw [e] at p; exact p
end
end Q3

/-! Q3: loops, comprehensions, defs, what is forgotten behind a call. -/
namespace Q3
open PySem L2

/-! ### what is walked -/
inductive Src where
  | val (xs : List D) | live (k : Nat) (xs : List D)
def Src.items : Src → List D
  | .val xs => xs
  | .live _ xs => xs
def Src.okAt : Src → Store → Prop
  | .val _, _ => True
  | .live k xs, st => st[k]? = some (.lst xs)
def Deliver (K : PySem.W.Frag) (w0 : Wd) (H0 : Hp) (J : It) (src : Src) : Prop := ∀ w H st, Up K w0 H0 w H → WOk K H w st → src.okAt st →
  (∀ i d, src.items[i]? = some d → J.go i H ∧ ∀ x H', J.yld i H x H' → Ext w H w H' ∧ WOk K H' w st ∧ RelD K w H' d x) ∧ J.stop src.items.length H
abbrev MI := DS → Store → R Src
abbrev PostI (K : PySem.W.Frag) (w0 : Wd) (H0 : Hp) (r : R Src) (Q : It → Hp → Prop) (E : XK) : Prop := Post (fun w' H' src J => Deliver K w' H' J src) K w0 H0 r Q E
def LI (K : PySem.W.Frag) (W : WX) (wi : TI) (f : MI) : Prop := ∀ w H σ σd st R, WOk K H w st → RelSl K w H σd σ → PostI K w H (f σd st) R (fun c d H' => W c d σ H') → wi σ H R
structure EvI (X : Cx) (W : WX) (tg e : Expr) (wi : TI) (f : MI) : Prop where
  pi : PI X tg e wi
  le : LI X.K W wi f
abbrev MG := D → DS → Store → Option DS
/-- is: the slots that the target sets -/
def LG (K : PySem.W.Frag) (g : TG) (f : MG) (is : List Nat) : Prop := ∀ w H σ σd st d v (Q : St → Hp → Prop), WOk K H w st → RelSl K w H σd σ → RelD K w H d v →
  (∃ σd', f d σd st = some σd' ∧ ∀ σ', RelSl K w H σd' σ' → σ'.length = σ.length → (∀ j, j ∉ is → σ'[j]? = σ[j]?) → Q σ' H) → g v σ H Q
structure EvG (X : Cx) (tg : Expr) (g : TG) (f : MG) (is : List Nat) : Prop where
  pg : PG X tg g
  le : LG X.K g f is
def gdName (i : Nat) : MG := fun d σ _ => some (σ.set i (some d))
theorem lg_name {K : PySem.W.Frag} {i : Nat} : LG K (gName i) (gdName i) [i] := by
  intro w H σ σd st d v Q ok sl rd h
  obtain ⟨σd', e, q⟩ := h
  cases e
  exact q _ (sl.set rd i) (List.length_set) fun j hj => List.getElem?_set_ne fun z => hj (by rw [z]; exact List.mem_singleton_self _)
abbrev MGs := List D → DS → Store → Option DS
def LGs (K : PySem.W.Frag) (g : TGs) (f : MGs) (is : List Nat) : Prop := ∀ w H σ σd st ds vs (Q : St → Hp → Prop), WOk K H w st → RelSl K w H σd σ → RelDs K w H ds vs →
  (∃ σd', f ds σd st = some σd' ∧ ∀ σ', RelSl K w H σd' σ' → σ'.length = σ.length → (∀ j, j ∉ is → σ'[j]? = σ[j]?) → Q σ' H) → g vs σ H Q
structure EvGs (X : Cx) (ts : List Expr) (g : TGs) (f : MGs) (is : List Nat) : Prop where
  pgs : PGs X ts g
  le : LGs X.K g f is
def gdNil : MGs := fun ds σ _ => match ds with
  | [] => some σ
  | _ => none
def gdCons (f : MG) (g : MGs) : MGs := fun ds σ st => match ds with
  | d :: r => (f d σ st).bind fun σ1 => g r σ1 st
  | [] => none
def gdTup (n : Nat) (g : MGs) : MG := fun d σ st => match d with
  | .tup ds => if ds.length = n then g ds σ st else none
  | _ => none
theorem lgs_nil {K : PySem.W.Frag} : LGs K gNil gdNil [] := by
  intro w H σ σd st ds vs Q ok sl rd h
  obtain ⟨σd', e, q⟩ := h
  cases ds with
  | nil =>
    cases e
    have ev : vs = [] := rd
    exact ⟨ev, q σ sl rfl fun _ _ => rfl⟩
  | cons d r => cases e
theorem lgs_cons {K : PySem.W.Frag} {t : TG} {u : TGs} {f : MG} {g : MGs} {is js : List Nat} (h1 : LG K t f is) (h2 : LGs K u g js) : LGs K (gCons t u) (gdCons f g) (is ++ js) := by
  intro w H σ σd st ds vs Q ok sl rd h
  obtain ⟨σd', e, q⟩ := h
  cases ds with
  | nil => cases e
  | cons d r =>
    obtain ⟨v, us, rfl, r1, r2⟩ := rd
    have e : (f d σd st).bind (fun σ1 => g r σ1 st) = some σd' := e
    cases e1 : f d σd st with
    | none => rw [e1] at e; cases e
    | some σ1 =>
      rw [e1] at e
      refine ⟨v, us, rfl, h1 w H σ σd st d v _ ok sl r1 ⟨σ1, e1, fun σ' sl' hl hj => ?_⟩⟩
      refine h2 w H σ' σ1 st r us _ ok sl' r2 ⟨σd', e, fun σ'' sl'' hl' hj' => q σ'' sl'' (hl'.trans hl) fun j hn => ?_⟩
      rw [hj' j fun z => hn (List.mem_append_right _ z), hj j fun z => hn (List.mem_append_left _ z)]
theorem lg_tup {K : PySem.W.Frag} {n : Nat} {t : TGs} {g : MGs} {is : List Nat} (h : LGs K t g is) : LG K (gTup K n t) (gdTup n g) is := by
  intro w H σ σd st d v Q ok sl rd hh
  obtain ⟨σd', e, q⟩ := hh
  cases d with
  | tup ds =>
    obtain ⟨a, vs, rfl, h1, h2⟩ := rd
    have e : (if ds.length = n then g ds σd st else none) = some σd' := e
    by_cases hn : ds.length = n
    · rw [if_pos hn] at e
      exact ⟨a, vs, rfl, h1, by rw [← h2.length]; exact hn, h w H σ σd st ds vs Q ok sl h2 ⟨σd', e, q⟩⟩
    · rw [if_neg hn] at e
      cases e
  | _ => cases e

/-! ### for -/
open Classical in
noncomputable def forL (src : Src) (tg : MG) (b : MS) : List D → DS → Store → RS
  | [], σ, st => if src.okAt st then .nx σ st else .bad
  | d :: r, σ, st => if src.okAt st then (match tg d σ st with
      | none => .bad
      | some σ1 => match b σ1 st with
        | .nx σ2 st2 => forL src tg b r σ2 st2
        | .ct σ2 st2 => forL src tg b r σ2 st2
        | .bk σ2 st2 => .nx σ2 st2
        | .rt t st2 => .rt t st2
        | .exc x σ2 st2 => .exc x σ2 st2
        | .bad => .bad) else .bad
noncomputable def mFor (fi : MI) (tg : MG) (b : MS) : MS := fun σ st => match fi σ st with
  | .ok src st1 => forL src tg b src.items σ st1
  | .exc x st1 => .exc x σ st1
  | .bad => .bad
theorem drop_get {α : Type} : ∀ {l : List α} {i : Nat} {x : α}, l[i]? = some x → l.drop i = x :: l.drop (i + 1)
  | [], _, _, h => by simp at h
  | y :: l, 0, x, h => by
    simp at h
    subst h
    rfl
  | y :: l, i + 1, x, h => drop_get (l := l) (i := i) (by simpa using h)
section
variable {K : PySem.W.Frag} {W : WX} {ta tb te : TE} {fa fb fe : ME}
theorem ls_for {wi : TI} {fi : MI} {g : TG} {tg : MG} {is : List Nat} {t : TS} {b : MS} (hi : LI K W wi fi) (hg : LG K g tg is) (hb : LS K W t b) : LS K W (tFor wi g t) (mFor fi tg b) := by
  intro w H σ σd st D ok sl p
  refine hi w H σ σd st _ ok sl ?_
  unfold mFor at p
  cases e : fi σd st with
  | exc x st1 =>
    rw [e] at p
    exact fun w1 H1 cls dd e1 ok1 r1 => p w1 H1 σ cls dd e1 ok1 (sl.mono e1 ok) r1
  | bad => rw [e] at p; exact p
  | ok src st1 =>
    rw [e] at p
    have p : PostS K w H (forL src tg b src.items σd st1) D W := p
    intro w1 H1 J e1 ok1 dl
    refine ⟨fun i m σ' H' => (m = src.items.length - i ∧ i ≤ src.items.length) ∧ ∃ w' σd' st', Ext w1 H1 w' H' ∧ WOk K H' w' st' ∧ RelSl K w' H' σd' σ' ∧ PostS K w1 H1 (forL src tg b (src.items.drop i) σd' st') D W,
      ⟨_, ⟨rfl, Nat.zero_le _⟩, w1, σd, st1, Ext.refl _ _, ok1, sl.mono e1 ok, PostS.shift e1 p⟩, ?_⟩
    rintro i m σ2 H2 ⟨⟨rfl, hil⟩, w2, σd2, st2, e2, ok2, sl2, p2⟩
    cases hd : src.items[i]? with
    | none =>
      have hle : src.items.length ≤ i := List.getElem?_eq_none_iff.mp hd
      have hie : i = src.items.length := Nat.le_antisymm hil hle
      rw [List.drop_eq_nil_of_le hle] at p2
      unfold forL at p2
      by_cases hs : src.okAt st2
      · rw [if_pos hs] at p2
        exact .inl ⟨by rw [hie]; exact (dl w2 H2 st2 (e2.up ok1) ok2 hs).2, p2 w2 H2 σ2 e2 ok2 sl2⟩
      · rw [if_neg hs] at p2
        exact p2.elim
    | some d =>
      rw [drop_get hd] at p2
      unfold forL at p2
      by_cases hs : src.okAt st2
      · rw [if_pos hs] at p2
        obtain ⟨go, ys⟩ := (dl w2 H2 st2 (e2.up ok1) ok2 hs).1 i d hd
        have hlt : i < src.items.length := (List.getElem?_eq_some_iff.mp hd).1
        refine .inr ⟨go, fun σ' H' => ∃ w' σd' st', Ext w1 H1 w' H' ∧ WOk K H' w' st' ∧ RelSl K w' H' σd' σ' ∧ PostS K w1 H1 (forL src tg b (src.items.drop (i + 1)) σd' st') D W,
          fun σ' H' n => ⟨_, by omega, ⟨rfl, hlt⟩, n⟩, fun x H3 y => ?_⟩
        obtain ⟨e3, ok3, rd⟩ := ys x H3 y
        cases ht : tg d σd2 st2 with
        | none =>
          rw [ht] at p2
          exact p2.elim
        | some σ3 =>
          rw [ht] at p2
          refine hg w2 H3 σ2 σd2 st2 d x _ ok3 (sl2.mono e3 ok2) rd ⟨σ3, ht, fun σ' sl' _ _ => ?_⟩
          refine hb w2 H3 σ' σ3 st2 _ ok3 sl' ?_
          cases eb : b σ3 st2 with
          | nx σ4 st4 =>
            simp only [eb] at p2
            exact fun w' H' σ'' e4 ok4 sl4 => ⟨w', σ4, st4, (e2.trans e3).trans e4, ok4, sl4, p2⟩
          | ct σ4 st4 =>
            simp only [eb] at p2
            exact fun w' H' σ'' e4 ok4 sl4 => ⟨w', σ4, st4, (e2.trans e3).trans e4, ok4, sl4, p2⟩
          | bk σ4 st4 =>
            simp only [eb] at p2
            exact fun w' H' σ'' e4 ok4 sl4 => p2 w' H' σ'' ((e2.trans e3).trans e4) ok4 sl4
          | rt t st4 =>
            simp only [eb] at p2
            exact fun w' H' v e4 ok4 rl => p2 w' H' v ((e2.trans e3).trans e4) ok4 (rl.base (e2.trans e3))
          | exc x σ4 st4 =>
            simp only [eb] at p2
            exact fun w' H' σ'' c dd e4 ok4 sl4 xr => p2 w' H' σ'' c dd ((e2.trans e3).trans e4) ok4 sl4 xr
          | bad =>
            simp only [eb] at p2
            exact p2.elim
      · rw [if_neg hs] at p2
        exact p2.elim

/-! ### while -/
def whileN (c : MT) (b : MS) : Nat → DS → Store → RS
  | 0, _, _ => .bad
  | n + 1, σ, st => match c σ st with
    | .ok k st1 => if k = true then (match b σ st1 with
        | .nx σ2 st2 => whileN c b n σ2 st2
        | .ct σ2 st2 => whileN c b n σ2 st2
        | .bk σ2 st2 => .nx σ2 st2
        | .rt t st2 => .rt t st2
        | .exc x σ2 st2 => .exc x σ2 st2
        | .bad => .bad) else .nx σ st1
    | .exc x st1 => .exc x σ st1
    | .bad => .bad
open Classical in
noncomputable def mWhile (c : MT) (b : MS) : MS := fun σ st => if h : ∃ n, whileN c b n σ st ≠ .bad then whileN c b (Classical.choose h) σ st else .bad
theorem whileN_mono {c : MT} {b : MS} : ∀ (n k : Nat) (σ : DS) (st : Store), whileN c b n σ st ≠ .bad → whileN c b (n + k) σ st = whileN c b n σ st
  | 0, k, σ, st, h => absurd rfl h
  | n + 1, k, σ, st, h => by
    rw [Nat.add_right_comm]
    unfold whileN at h ⊢
    cases e : c σ st with
    | ok q st1 =>
      simp only [e] at h ⊢
      cases q with
      | false => rfl
      | true =>
        simp only [if_true] at h ⊢
        cases eb : b σ st1 with
        | nx σ2 st2 =>
          simp only [eb] at h ⊢
          exact whileN_mono n k σ2 st2 h
        | ct σ2 st2 =>
          simp only [eb] at h ⊢
          exact whileN_mono n k σ2 st2 h
        | _ => rfl
    | exc x st1 => rfl
    | bad => rfl
theorem while_of {c : MT} {b : MS} {n : Nat} {σ : DS} {st : Store} (h : whileN c b n σ st ≠ .bad) : mWhile c b σ st = whileN c b n σ st := by
  have hx : ∃ n, whileN c b n σ st ≠ .bad := ⟨n, h⟩
  unfold mWhile
  rw [dif_pos hx]
  have h2 := Classical.choose_spec hx
  have e1 := whileN_mono _ n σ st h2
  have e2 := whileN_mono _ (Classical.choose hx) σ st h
  rw [← e1, Nat.add_comm, e2]
theorem while_bad {c : MT} {b : MS} {σ : DS} {st : Store} (h : ¬ ∃ n, whileN c b n σ st ≠ .bad) : mWhile c b σ st = .bad := by
  unfold mWhile
  rw [dif_neg h]
theorem while_n {c : MT} {b : MS} {σ : DS} {st : Store} (h : mWhile c b σ st ≠ .bad) : ∃ n, whileN c b n σ st = mWhile c b σ st := by
  by_cases hx : ∃ n, whileN c b n σ st ≠ .bad
  · obtain ⟨n, hn⟩ := hx
    exact ⟨n, (while_of hn).symm⟩
  · exact absurd (while_bad hx) h
/-- one turn -/
noncomputable def whileStep (c : MT) (b : MS) (σ : DS) (st : Store) : RS := match c σ st with
    | .ok k st1 => if k = true then (match b σ st1 with
        | .nx σ2 st2 => mWhile c b σ2 st2
        | .ct σ2 st2 => mWhile c b σ2 st2
        | .bk σ2 st2 => .nx σ2 st2
        | .rt t st2 => .rt t st2
        | .exc x σ2 st2 => .exc x σ2 st2
        | .bad => .bad) else .nx σ st1
    | .exc x st1 => .exc x σ st1
    | .bad => .bad
theorem while_step (c : MT) (b : MS) (σ : DS) (st : Store) : mWhile c b σ st = whileStep c b σ st := by
  have stepN : ∀ n, (∀ σ2 st2, whileN c b n σ2 st2 = mWhile c b σ2 st2 ∨ True) := fun _ _ _ => .inr trivial
  by_cases hx : ∃ n, whileN c b n σ st ≠ .bad
  · obtain ⟨n, hn⟩ := hx
    rw [while_of hn]
    cases n with
    | zero => exact absurd rfl hn
    | succ n =>
      unfold whileN at hn
      unfold whileN whileStep
      cases e : c σ st with
      | ok q st1 =>
        simp only [e] at hn ⊢
        cases q with
        | false => rfl
        | true =>
          simp only [if_true] at hn ⊢
          cases eb : b σ st1 with
          | nx σ2 st2 =>
            simp only [eb] at hn ⊢
            exact (while_of hn).symm
          | ct σ2 st2 =>
            simp only [eb] at hn ⊢
            exact (while_of hn).symm
          | _ => rfl
      | exc x st1 => rfl
      | bad => rfl
  · rw [while_bad hx]
    unfold whileStep
    have hall : ∀ n, whileN c b n σ st = .bad := fun n => Classical.byContradiction fun z => hx ⟨n, z⟩
    have sub : ∀ (σ2 : DS) (st2 : Store), (∀ n, whileN c b n σ2 st2 = .bad) → mWhile c b σ2 st2 = .bad := fun σ2 st2 hz => while_bad fun ⟨n, hn⟩ => hn (hz n)
    cases e : c σ st with
    | ok q st1 =>
      have hall1 := hall
      cases q with
      | false =>
        have := hall 1
        unfold whileN at this
        simp only [e] at this
        exact this.symm
      | true =>
        simp only [if_true]
        cases eb : b σ st1 with
        | nx σ2 st2 =>
          simp only []
          refine (sub σ2 st2 fun n => ?_).symm
          have := hall (n + 1)
          unfold whileN at this
          simpa only [e, if_true, eb] using this
        | ct σ2 st2 =>
          simp only []
          refine (sub σ2 st2 fun n => ?_).symm
          have := hall (n + 1)
          unfold whileN at this
          simpa only [e, if_true, eb] using this
        | bk σ2 st2 =>
          have := hall 1
          unfold whileN at this
          simp only [e, if_true, eb] at this
          exact this.symm
        | rt t st2 =>
          have := hall 1
          unfold whileN at this
          simp only [e, if_true, eb] at this
          exact this.symm
        | exc x σ2 st2 =>
          have := hall 1
          unfold whileN at this
          simp only [e, if_true, eb] at this
          exact this.symm
        | bad => rfl
    | exc x st1 =>
      have := hall 1
      unfold whileN at this
      simp only [e] at this
      exact this.symm
    | bad => rfl
theorem ls_while {tc : TT} {c : MT} {t : TS} {b : MS} (hc : LT K W tc c) (hb : LS K W t b) : LS K W (tWhile tc t) (mWhile c b) := by
  intro w H σ σd st D ok sl p
  have hne : mWhile c b σd st ≠ .bad := fun z => by
    rw [z] at p
    exact p
  obtain ⟨n0, hn0⟩ := while_n hne
  rw [← hn0] at p
  refine ⟨fun m σ' H' => ∃ w' σd' st', Ext w H w' H' ∧ WOk K H' w' st' ∧ RelSl K w' H' σd' σ' ∧ PostS K w H (whileN c b m σd' st') D W, ⟨n0, w, σd, st, Ext.refl _ _, ok, sl, p⟩, ?_⟩
  rintro m σ1 H1 ⟨w1, σd1, st1, e1, ok1, sl1, p1⟩
  cases m with
  | zero => exact p1.elim
  | succ m =>
    unfold whileN at p1
    refine hc w1 H1 σ1 σd1 st1 _ ok1 sl1 ?_
    cases e : c σd1 st1 with
    | ok k st2 =>
      simp only [e] at p1
      intro w2 H2 k' e2 ok2 rk
      have rk : k = k' := rk
      subst rk
      cases k with
      | false =>
        rw [if_neg Bool.false_ne_true]
        exact p1 w2 H2 σ1 (e1.trans e2) ok2 (sl1.mono e2 ok1)
      | true =>
        rw [if_pos rfl]
        simp only [if_true] at p1
        refine ⟨fun σ' H' => ∃ w' σd' st', Ext w H w' H' ∧ WOk K H' w' st' ∧ RelSl K w' H' σd' σ' ∧ PostS K w H (whileN c b m σd' st') D W, fun σ' H' n => ⟨m, Nat.lt_succ_self m, n⟩, ?_⟩
        refine hb w2 H2 σ1 σd1 st2 _ ok2 (sl1.mono e2 ok1) ?_
        cases eb : b σd1 st2 with
        | nx σ4 st4 =>
          simp only [eb] at p1
          exact fun w' H' σ'' e4 ok4 sl4 => ⟨w', σ4, st4, (e1.trans e2).trans e4, ok4, sl4, p1⟩
        | ct σ4 st4 =>
          simp only [eb] at p1
          exact fun w' H' σ'' e4 ok4 sl4 => ⟨w', σ4, st4, (e1.trans e2).trans e4, ok4, sl4, p1⟩
        | bk σ4 st4 =>
          simp only [eb] at p1
          exact fun w' H' σ'' e4 ok4 sl4 => p1 w' H' σ'' ((e1.trans e2).trans e4) ok4 sl4
        | rt t st4 =>
          simp only [eb] at p1
          exact fun w' H' v e4 ok4 rl => p1 w' H' v ((e1.trans e2).trans e4) ok4 (rl.base (e1.trans e2))
        | exc x σ4 st4 =>
          simp only [eb] at p1
          exact fun w' H' σ'' c dd e4 ok4 sl4 xr => p1 w' H' σ'' c dd ((e1.trans e2).trans e4) ok4 sl4 xr
        | bad =>
          simp only [eb] at p1
          exact p1.elim
    | exc x st2 =>
      simp only [e] at p1
      exact fun w2 H2 cls dd e2 ok2 r2 => p1 w2 H2 σ1 cls dd (e1.trans e2) ok2 (sl1.mono e2 ok1) r2
    | bad =>
      simp only [e] at p1
      exact p1.elim

/-! ### a list comprehension with one for -/
def wipeD (σ : DS) : List Nat → DS
  | [] => σ
  | i :: r => (wipeD σ r).set i none
open Classical in
noncomputable def lcL (src : Src) (tg : MG) (ft : MT) (fe : ME) (σ : DS) : List D → List D → Store → R T
  | [], acc, st => if src.okAt st then .ok (.l acc) st else .bad
  | d :: r, acc, st => if src.okAt st then (match tg d σ st with
      | none => .bad
      | some σ1 => match ft σ1 st with
        | .ok k st1 => if k = true then (match fe σ1 st1 with
            | .ok x st2 => if acc.length < sizeLine then lcL src tg ft fe σ r (acc ++ [x.d]) st2 else .bad
            | _ => .bad) else lcL src tg ft fe σ r acc st1
        | _ => .bad) else .bad
noncomputable def fLc (fi : MI) (tg : MG) (ft : MT) (fe : ME) (vs : List Nat) : ME := fun σ st => (fi σ st).bind fun src st1 => lcL src tg ft fe (wipeD σ vs) src.items [] st1
theorem RelSl.wipe {w : Wd} {H : Hp} {σd : DS} {σ : St} (h : RelSl K w H σd σ) : ∀ vs : List Nat, RelSl K w H (wipeD σd vs) (L2.wipe σ vs)
  | [] => h
  | i :: r => by
    have ih := RelSl.wipe h r
    refine ⟨by show ((wipeD σd r).set i none).length = ((L2.wipe σ r).set i none).length; rw [List.length_set, List.length_set]; exact ih.1, fun j d e => ?_⟩
    have e : ((wipeD σd r).set i none)[j]? = some (some d) := e
    by_cases hj : j = i
    · subst hj
      have hlt : j < (wipeD σd r).length := by
        have := (List.getElem?_eq_some_iff.mp e).1
        rwa [List.length_set] at this
      rw [List.getElem?_set_self hlt] at e
      cases e
    · rw [List.getElem?_set_ne (Ne.symm hj)] at e
      obtain ⟨v, a, b⟩ := ih.2 j d e
      refine ⟨v, ?_, b⟩
      show ((L2.wipe σ r).set i none)[j]? = _
      rw [List.getElem?_set_ne (Ne.symm hj)]
      exact a
theorem wipe_mem {σ : St} : ∀ {vs : List Nat} {j : Nat}, j ∈ vs → j < σ.length → (L2.wipe σ vs)[j]? = some none
  | i :: r, j, h, hl => by
    show ((L2.wipe σ r).set i none)[j]? = _
    by_cases hj : j = i
    · subst hj
      rw [List.getElem?_set_self (by rw [wipe_length]; exact hl)]
    · rw [List.getElem?_set_ne (Ne.symm hj)]
      exact wipe_mem ((List.mem_cons.mp h).resolve_left hj) hl
theorem wipe_eq {σ σ2 : St} {vs is : List Nat} (hsub : ∀ j ∈ is, j ∈ vs) (hl : σ2.length = (L2.wipe σ vs).length) (hj : ∀ j, j ∉ is → σ2[j]? = (L2.wipe σ vs)[j]?) : L2.wipe σ2 vs = L2.wipe σ vs := by
  have hl2 : σ2.length = σ.length := by rw [hl, wipe_length]
  apply List.ext_getElem?
  intro j
  by_cases hm : j ∈ vs
  · by_cases hlt : j < σ.length
    · rw [wipe_mem hm (by rw [hl2]; exact hlt), wipe_mem hm hlt]
    · rw [List.getElem?_eq_none (by rw [wipe_length, hl2]; omega), List.getElem?_eq_none (by rw [wipe_length]; omega)]
  · rw [L2.wipe_out hm, hj j fun z => hm (hsub j z)]
theorem Ext.upd_out {w0 w : Wd} {H0 H : Hp} {D : Addr} {o : HO} (e : Ext w0 H0 w H) (h : H0 D = none) : Ext w0 H0 w (upd H D o) := by
  refine ⟨e.ph, e.r1, e.r2, fun a u n hu => ?_, fun a u hu => ?_⟩
  · rw [upd_ne (ne_of_none hu h)]
    exact e.kp a u n hu
  · rw [upd_ne (ne_of_none hu h)]
    exact e.al a u hu
/-- a list that no one knows changes -/
theorem Up.out {w : Wd} {H : Hp} {D : Addr} {o : HO} {vs : List V} (h : H D = some (.lst vs)) (hr : ¬ w.R D) : Up K w H w (upd H D o) := by
  have ne : ∀ a u, H a = some u → u ≠ .lst vs → a ≠ D := fun a u hu n z => by
    rw [z, h] at hu
    exact n (Option.some.inj hu).symm
  refine ⟨fun a us q => ?_, fun a us q => ?_, fun a us q1 q2 => ⟨q1, ?_⟩, fun _ _ q => q⟩
  · rcases q with (q | ⟨o', q⟩) | q
    · exact .inl (.inl (by rw [upd_ne (ne a _ q fun z => by cases z)]; exact q))
    · exact .inl (.inr ⟨o', by rw [upd_ne (ne a _ q fun z => by cases z)]; exact q⟩)
    · exact .inr q
  · rcases q with ⟨o', q⟩ | q
    · exact .inl ⟨o', by rw [upd_ne (ne a _ q fun z => by cases z)]; exact q⟩
    · exact .inr q
  · rw [upd_ne fun z => hr (by rw [← z]; exact q1)]
    exact q2
theorem WOk.out {w : Wd} {H : Hp} {st : Store} {D : Addr} {o : HO} {vs : List V} (ok : WOk K H w st) (h : H D = some (.lst vs)) (hr : ¬ w.R D) (hp : D ∉ w.phi) : WOk K (upd H D o) w st := by
  have up : Up K w H w (upd H D o) := Up.out h hr
  refine ⟨ok.len, ok.nd, ok.sep, fun a q => ?_, fun i so a h1 h2 => ?_⟩
  · obtain ⟨us, e⟩ := ok.rt a q
    exact ⟨us, by rw [upd_ne fun z => hr (by rw [← z]; exact q)]; exact e⟩
  · have na : a ≠ D := fun z => hp (by rw [← z]; exact List.mem_of_getElem? h2)
    have q := ok.obj i so a h1 h2
    cases so with
    | lst ds => obtain ⟨us, e, r⟩ := q; exact ⟨us, by rw [upd_ne na]; exact e, RelDs.up up _ _ r⟩
    | dct ds => obtain ⟨us, e, r⟩ := q; exact ⟨us, by rw [upd_ne na]; exact e, r.1, RelDs.up up _ _ r.2⟩
    | set S n =>
      show upd H D o a = _
      rw [upd_ne na]
      exact q
    | ins C fs => obtain ⟨dx, gs, e, r⟩ := q; exact ⟨dx, gs, by rw [upd_ne na]; exact e, r.1, RelDs.up up _ _ r.2⟩
theorem Ext.phi_out {w w' : Wd} {H H' : Hp} (e : Ext w H w' H') {a : Addr} {o : HO} (h : H a = some o) (n : a ∉ w.phi) : a ∉ w'.phi := fun hm => by
  obtain ⟨more, p, q⟩ := e.ph
  rw [p] at hm
  rcases List.mem_append.mp hm with z | z
  · exact n z
  · rw [q a z] at h
    cases h
theorem Ext.R_out {w w' : Wd} {H H' : Hp} (e : Ext w H w' H') {a : Addr} {o : HO} (h : H a = some o) (n : ¬ w.R a) : ¬ w'.R a := fun hm => by
  rcases e.r2 a hm with z | z
  · exact n z
  · rw [z] at h
    cases h
abbrev W0 : WX := fun _ _ _ _ => False
theorem le_lc {wi : TI} {fi : MI} {g : TG} {tg : MG} {is vs : List Nat} {tt : TT} {ft : MT} (hi : LI K W wi fi) (hg : LG K g tg is) (hsub : ∀ j ∈ is, j ∈ vs) (ht : LT K W0 tt ft) (he : LE K W0 te fe) : LE K W (tLc wi g tt te vs) (fLc fi tg ft fe vs) := by
  intro w H σ σd st Q ok sl p
  refine hi w H σ σd st _ ok sl ?_
  unfold fLc at p
  cases e : fi σd st with
  | exc x st1 => rw [e] at p; exact p
  | bad => rw [e] at p; exact p
  | ok src st1 =>
    rw [e] at p
    have p : PostE K w H (lcL src tg ft fe (wipeD σd vs) src.items [] st1) Q _ := p
    intro w1 H1 J e1 ok1 dl L hL
    have slw := (sl.mono e1 ok).wipe vs
    have p := PostE.shift e1 p
    refine ⟨fun i m H' => (m = src.items.length - i ∧ i ≤ src.items.length) ∧ ∃ w' st' acc us, Ext w1 H1 w' H' ∧ WOk K H' w' st' ∧ H' L = some (.lst us) ∧ L ∉ w'.phi ∧ ¬ w'.R L ∧ RelDs K w' H' acc us ∧ RelSl K w' H' (wipeD σd vs) (L2.wipe σ vs) ∧
        PostE K w1 H1 (lcL src tg ft fe (wipeD σd vs) (src.items.drop i) acc st') Q (fun c d H' => W c d σ H'),
      ⟨_, ⟨rfl, Nat.zero_le _⟩, w1, st1, [], [], Ext.upd_new hL, ok1.upd_new hL, upd_same, ok1.new_phi hL, ok1.new_R hL, rfl, slw.up ((Ext.upd_new hL).up ok1), p⟩, ?_⟩
    rintro i m H2 ⟨⟨rfl, hil⟩, w2, st2, acc, us, e2, ok2, hD, nphi, nR, racc, sl2, p2⟩
    cases hd : src.items[i]? with
    | none =>
      have hle : src.items.length ≤ i := List.getElem?_eq_none_iff.mp hd
      have hie : i = src.items.length := Nat.le_antisymm hil hle
      rw [List.drop_eq_nil_of_le hle] at p2
      unfold lcL at p2
      by_cases hs : src.okAt st2
      · rw [if_pos hs] at p2
        exact .inl ⟨by rw [hie]; exact (dl w2 H2 st2 (e2.up ok1) ok2 hs).2, p2 w2 H2 (.ref L) e2 ok2 ⟨L, us, rfl, nphi, nR, hL, hD, racc⟩⟩
      · rw [if_neg hs] at p2
        exact p2.elim
    | some d =>
      rw [drop_get hd] at p2
      unfold lcL at p2
      by_cases hs : src.okAt st2
      · rw [if_pos hs] at p2
        obtain ⟨go, ys⟩ := (dl w2 H2 st2 (e2.up ok1) ok2 hs).1 i d hd
        have hlt : i < src.items.length := (List.getElem?_eq_some_iff.mp hd).1
        refine .inr ⟨go, fun H' => ∃ w' st' acc us, Ext w1 H1 w' H' ∧ WOk K H' w' st' ∧ H' L = some (.lst us) ∧ L ∉ w'.phi ∧ ¬ w'.R L ∧ RelDs K w' H' acc us ∧ RelSl K w' H' (wipeD σd vs) (L2.wipe σ vs) ∧
            PostE K w1 H1 (lcL src tg ft fe (wipeD σd vs) (src.items.drop (i + 1)) acc st') Q (fun c d H' => W c d σ H'),
          fun H' n => ⟨_, by omega, ⟨rfl, hlt⟩, n⟩, fun x H3 y => ?_⟩
        obtain ⟨e3, ok3, rd⟩ := ys x H3 y
        have hD3 := e3.kp L _ nphi hD
        cases htg : tg d (wipeD σd vs) st2 with
        | none =>
          rw [htg] at p2
          exact p2.elim
        | some σ3 =>
          rw [htg] at p2
          refine hg w2 H3 _ _ st2 d x _ ok3 (sl2.mono e3 ok2) rd ⟨σ3, htg, fun σ' sl' hl' hj' => ⟨wipe_eq hsub hl' hj', ?_⟩⟩
          refine ht w2 H3 σ' σ3 st2 _ ok3 sl' ?_
          cases et : ft σ3 st2 with
          | ok k st3 =>
            simp only [et] at p2
            intro w4 H4 k' e4 ok4 rk
            have rk : k = k' := rk
            subst rk
            have hD4 := e4.kp L _ nphi hD3
            have np4 := e4.phi_out hD3 nphi
            have nR4 := e4.R_out hD3 nR
            cases k with
            | false =>
              simp only [Bool.false_eq_true, if_false] at p2 ⊢
              exact ⟨w4, st3, acc, us, (e2.trans e3).trans e4, ok4, hD4, np4, nR4, RelDs.mono (e3.trans e4) ok2 _ _ racc, sl2.mono (e3.trans e4) ok2, p2⟩
            | true =>
              simp only [if_true] at p2 ⊢
              refine he.d ok4 (sl'.mono e4 ok3) ?_
              cases ee : fe σ3 st3 with
              | ok z st4 =>
                simp only [ee] at p2
                intro w5 H5 v e5 ok5 rv
                have hD5 := e5.kp L _ np4 hD4
                have np5 := e5.phi_out hD4 np4
                have nR5 := e5.R_out hD4 nR4
                by_cases hsz : acc.length < sizeLine
                · rw [if_pos hsz] at p2
                  have e15 := ((e2.trans e3).trans e4).trans e5
                  have e25 := (e3.trans e4).trans e5
                  have racc5 := RelDs.mono e25 ok2 _ _ racc
                  have up : Up K w5 H5 w5 (upd H5 L (.lst (us ++ [v]))) := Up.out hD5 nR5
                  refine ⟨us, hD5, by rw [← racc.length]; exact hsz, w5, st4, acc ++ [z.d], us ++ [v], e15.upd_out hL, ok5.out hD5 nR5 np5, upd_same, np5, nR5, RelDs.up up _ _ (racc5.append (RelDs.one rv)), (sl2.mono e25 ok2).up up, p2⟩
                · rw [if_neg hsz] at p2
                  exact p2.elim
              | exc x2 st4 =>
                simp only [ee] at p2
                exact p2.elim
              | bad =>
                simp only [ee] at p2
                exact p2.elim
          | exc x2 st3 =>
            simp only [et] at p2
            exact p2.elim
          | bad =>
            simp only [et] at p2
            exact p2.elim
      · rw [if_neg hs] at p2
        exact p2.elim
end
end Q3

/-! Q3: defs, and what is forgotten behind a call. -/
namespace Q3
open PySem PySem.Spec PyProof.Rows L2

/-- a def's meaning from its body's; N: how many slots -/
def mFn (N : Nat) (b : MS) : Fn := fun args st => match b (args.map some ++ List.replicate (N - args.length) none) st with
  | .nx _ st' => .ok (.s .non) st'
  | .rt t st' => .ok t st'
  | .exc x _ st' => .exc x st'
  | _ => .bad
def mFn0 (N : Nat) (b : MS) : Fn := fun args st => (mFn N b args st).pure0
theorem RelSl.start {K : PySem.W.Frag} {w : Wd} {H : Hp} {N : List Str} {args : List D} {vs : List V} (r : RelDs K w H args vs) : RelSl K w H (args.map some ++ List.replicate (N.length - args.length) none) (L2.start N vs) := by
  have hl := r.length
  refine ⟨by unfold L2.start; simp [hl], fun i d e => ?_⟩
  unfold L2.start
  by_cases hi : i < args.length
  · rw [List.getElem?_append_left (by simpa using hi)] at e
    rw [List.getElem?_map] at e
    cases q : args[i]? with
    | none => rw [q] at e; cases e
    | some d' =>
      rw [q] at e
      cases e
      obtain ⟨v, h1, h2⟩ := r.get q
      refine ⟨v, ?_, h2⟩
      rw [List.getElem?_append_left (by rw [List.length_map, ← hl]; exact hi), List.getElem?_map, h1]
      rfl
  · rw [List.getElem?_append_right (by simpa using hi)] at e
    rw [List.getElem?_replicate] at e
    split at e <;> cases e
/-- the def at f does what c says; nothing is raised -/
abbrev FnEv (P : Program) (w : World) (K : PySem.W.Frag) (mg : Str → Option Value) (base : Heap) (k : Nat) (f : Addr) (fd : FuncData) (ps : List Str) (c : Fn) : Prop := FnOk P w K mg base CX0 k f fd ps (spOf K ps.length c)
/-- the same of a def that may raise -/
abbrev FnEvX (P : Program) (w : World) (K : PySem.W.Frag) (mg : Str → Option Value) (base : Heap) (k : Nat) (f : Addr) (fd : FuncData) (ps : List Str) (c : Fn) : Prop := FnOk P w K mg base (L2.CX P w) k f fd ps (spOf K ps.length c)
section
variable {P : Program} {w : World} {K : PySem.W.Frag} {mg : Str → Option Value} {base : Heap} {x qual : Str} {st : Stmt} {f : Addr} {fd : FuncData} {N ps : List Str} {k : Nat}
theorem post_fn {wd : Wd} {H : Hp} {Q : VK} {E : XK} {args : List D} {s : Store} {n : Nat} {b : MS} (p : PostE K wd H (mFn n b args s) Q E) :
    PostS K wd H (b (args.map some ++ List.replicate (n - args.length) none) s) { nx := fun _ H' => Q .non H', rt := Q } (fun c d _ H' => E c d H') := by
  unfold mFn at p
  cases e : b (args.map some ++ List.replicate (n - args.length) none) s with
  | nx σ st' =>
    simp only [e] at p
    exact fun w' H' σ' e1 ok1 _ => p w' H' .non e1 ok1 rfl
  | rt t st' =>
    simp only [e] at p
    exact p
  | exc x σ st' =>
    simp only [e] at p
    exact fun w' H' σ' c d e1 ok1 _ xr => p w' H' c d e1 ok1 xr
  | bk σ st' =>
    simp only [e] at p
    exact p.elim
  | ct σ st' =>
    simp only [e] at p
    exact p.elim
  | bad =>
    simp only [e] at p
    exact p.elim
theorem fn_ev {b : MS} (F : Fun K x qual st f fd) (S : FnScope N ps (defScope st))
    (body : ∀ (cdv : Value) (A : Around) (outer : List Env) (s : Shared) (H : Hp) (E : XK), Room k (A.deeper (envOfC qual (defScope st) s.heap.objs.size f cdv)) → ∃ t, EvSs (cxOf CX0 P w K mg base N qual (defScope st) f cdv A outer s H E).nox W0 (defBody st) t b) :
    FnEv P w K mg base (k + 1) f fd ps (mFn0 N.length b) := by
  refine F.ok S (fun vs H Q E h => h.1) fun cdv A outer s H vs Q E hr h => ?_
  obtain ⟨t, ev⟩ := body cdv A outer s H E hr
  refine ⟨t, ev.pss, ?_⟩
  obtain ⟨hl, wd, args, sto, ok, rel, p⟩ := h
  refine ev.le wd H _ _ sto _ ok (RelSl.start rel) ?_
  unfold mFn0 at p
  have q : PostE K wd H (mFn N.length b args sto) Q (fun _ _ _ => False) := by
    cases e : mFn N.length b args sto with
    | ok t st' => rw [e] at p; exact p
    | exc x st' => rw [e] at p; exact p.elim
    | bad => rw [e] at p; exact p.elim
  exact post_fn q
theorem fn_evX {b : MS} (F : Fun K x qual st f fd) (S : FnScope N ps (defScope st))
    (body : ∀ (cdv : Value) (A : Around) (outer : List Env) (s : Shared) (H : Hp) (E : XK), Room k (A.deeper (envOfC qual (defScope st) s.heap.objs.size f cdv)) →
      ∃ t, EvSs (cxOf (L2.CX P w) P w K mg base N qual (defScope st) f cdv A outer s H E) (fun c d _ H' => E c d H') (defBody st) t b) :
    FnEvX P w K mg base (k + 1) f fd ps (mFn N.length b) := by
  refine F.okX S (fun vs H Q E h => h.1) fun cdv A outer s H vs Q E hr h => ?_
  obtain ⟨t, ev⟩ := body cdv A outer s H E hr
  refine ⟨t, ev.pss, ?_⟩
  obtain ⟨hl, wd, args, sto, ok, rel, p⟩ := h
  exact ev.le wd H _ _ sto _ ok (RelSl.start rel) (post_fn p)
end

/-! ### what is forgotten -/
mutual
def D.lt (n : Nat) : D → Bool
  | .tup ds => D.lts n ds
  | .ro ds => D.lts n ds
  | .rk ds => D.lts n ds
  | .ref i => decide (i < n)
  | _ => true
def D.lts (n : Nat) : List D → Bool
  | [] => true
  | d :: ds => D.lt n d && D.lts n ds
end
def SO.lt (n : Nat) : SO → Bool
  | .lst ds => D.lts n ds
  | .dct kvs => D.lts n (kvs.map (·.2))
  | .set _ _ => true
  | .ins _ fs => D.lts n (fs.map (·.2))
def Store.lt (n : Nat) (st : Store) : Bool := st.all (SO.lt n)
section
variable {K : PySem.W.Frag} {w w' : Wd} {H : Hp} {st : Store} {n : Nat}
mutual
theorem RelD.lt : ∀ (d : D) (v : V), RelD K w H d v → D.lt w.phi.length d = true
  | .non, v, h => rfl
  | .bl b, v, h => rfl
  | .int i, v, h => rfl
  | .str x, v, h => rfl
  | .vv u, v, h => rfl
  | .tup ds, v, h => by
    obtain ⟨a, vs, rfl, _, h2⟩ := h
    exact RelDs.lts ds vs h2
  | .ro ds, v, h => by
    obtain ⟨a, vs, rfl, _, _, h3⟩ := h
    exact RelDs.lts ds vs h3
  | .rk ds, v, h => by
    obtain ⟨a, vs, rfl, _, h2⟩ := h
    exact RelDs.lts ds vs h2
  | .ref i, v, h => by
    obtain ⟨a, rfl, h1⟩ := h
    exact decide_eq_true (List.getElem?_eq_some_iff.mp h1).1
theorem RelDs.lts : ∀ (ds : List D) (vs : List V), RelDs K w H ds vs → D.lts w.phi.length ds = true
  | [], vs, h => rfl
  | d :: ds, vs, h => by
    obtain ⟨v, r, rfl, h1, h2⟩ := h
    show (D.lt _ d && D.lts _ ds) = true
    rw [RelD.lt d v h1, RelDs.lts ds r h2]
    rfl
end
theorem WOk.lt (ok : WOk K H w st) : Store.lt st.length st = true := by
  unfold Store.lt
  rw [List.all_eq_true]
  intro so hm
  obtain ⟨i, hi⟩ := List.getElem?_of_mem hm
  obtain ⟨a, _, r⟩ := ok.addr hi
  rw [← ok.len]
  cases so with
  | lst ds => obtain ⟨vs, _, r⟩ := r; exact RelDs.lts _ _ r
  | dct kvs => obtain ⟨vs, _, r⟩ := r; exact RelDs.lts _ _ r.2
  | set S n => rfl
  | ins C fs => obtain ⟨dx, gs, _, r⟩ := r; exact RelDs.lts _ _ r.2
mutual
theorem RelD.cut : ∀ (d : D) (v : V), RelD K w H d v → D.lt n d = true → RelD K ⟨w.phi.take n, w.R⟩ H d v
  | .non, v, h, _ => h
  | .bl b, v, h, _ => h
  | .int i, v, h, _ => h
  | .str x, v, h, _ => h
  | .vv u, v, h, _ => h
  | .tup ds, v, h, l => by
    obtain ⟨a, vs, rfl, h1, h2⟩ := h
    exact ⟨a, vs, rfl, h1, RelDs.cut ds vs h2 l⟩
  | .ro ds, v, h, l => by
    obtain ⟨a, vs, rfl, h1, h2, h3⟩ := h
    exact ⟨a, vs, rfl, h1, h2, RelDs.cut ds vs h3 l⟩
  | .rk ds, v, h, l => by
    obtain ⟨a, vs, rfl, h1, h2⟩ := h
    exact ⟨a, vs, rfl, h1, RelDs.cut ds vs h2 l⟩
  | .ref i, v, h, l => by
    obtain ⟨a, rfl, h1⟩ := h
    refine ⟨a, rfl, ?_⟩
    show (w.phi.take n)[i]? = some a
    rw [List.getElem?_take_of_lt (of_decide_eq_true l)]
    exact h1
theorem RelDs.cut : ∀ (ds : List D) (vs : List V), RelDs K w H ds vs → D.lts n ds = true → RelDs K ⟨w.phi.take n, w.R⟩ H ds vs
  | [], vs, h, _ => h
  | d :: ds, vs, h, l => by
    obtain ⟨v, r, rfl, h1, h2⟩ := h
    have l : (D.lt n d && D.lts n ds) = true := l
    rw [Bool.and_eq_true] at l
    exact ⟨v, r, rfl, RelD.cut d v h1 l.1, RelDs.cut ds r h2 l.2⟩
end
theorem WOk.cut (ok : WOk K H w st) (hc : Store.lt n (st.take n) = true) : WOk K H ⟨w.phi.take n, w.R⟩ (st.take n) := by
  refine ⟨by rw [List.length_take, List.length_take, ok.len], ok.nd.sublist (List.take_sublist _ _), fun a h => ok.sep a (List.mem_of_mem_take h), ok.rt, fun i so a h1 h2 => ?_⟩
  have hi : i < n := by
    have := (List.getElem?_eq_some_iff.mp h1).1
    rw [List.length_take] at this
    omega
  have h2 : (w.phi.take n)[i]? = some a := h2
  have hm := List.mem_of_getElem? h1
  unfold Store.lt at hc
  have hl := List.all_eq_true.mp hc so hm
  rw [List.getElem?_take_of_lt hi] at h1 h2
  have q := ok.obj i so a h1 h2
  cases so with
  | lst ds => obtain ⟨vs, e, r⟩ := q; exact ⟨vs, e, RelDs.cut _ _ r hl⟩
  | dct kvs => obtain ⟨vs, e, r⟩ := q; exact ⟨vs, e, r.1, RelDs.cut _ _ r.2 hl⟩
  | set S n => exact q
  | ins C fs => obtain ⟨dx, gs, e, r⟩ := q; exact ⟨dx, gs, e, r.1, RelDs.cut _ _ r.2 hl⟩
/-- what a call's result may be taken for: n objects were there ahead of it -/
inductive Gc (n : Nat) : R T → R T → Prop where
  | refl (r : R T) : Gc n r r
  | val {d : D} {st : Store} (h1 : Store.lt n (st.take n) = true) (h2 : D.lt n d = true) : Gc n (.ok (.s d) st) (.ok (.s d) (st.take n))
  | tmp {ds : List D} {st : Store} (h1 : Store.lt n (st.take n) = true) (h2 : D.lts n ds = true) : Gc n (.ok (.l ds) st) (.ok (.l ds) (st.take n))
  | lst {k : Nat} {ds : List D} {st : Store} (h1 : Store.lt n (st.take n) = true) (h2 : D.lts n ds = true) (hk : n ≤ k) (hs : st[k]? = some (.lst ds)) : Gc n (.ok (.s (.ref k)) st) (.ok (.l ds) (st.take n))
  | exc {x : Exn} {st : Store} (h1 : Store.lt n (st.take n) = true) (h2 : D.lts n (x.fs.map (·.2)) = true) : Gc n (.exc x st) (.exc x (st.take n))
theorem Ext.cut {w0 : Wd} {H0 : Hp} (e : Ext w0 H0 w H) (hn : w0.phi.length = n) : Ext w0 H0 ⟨w.phi.take n, w.R⟩ H := by
  obtain ⟨more, p, q⟩ := e.ph
  refine ⟨⟨[], ?_, by simp⟩, e.r1, e.r2, e.kp, e.al⟩
  show w.phi.take n = w0.phi ++ []
  rw [p, ← hn, List.append_nil, List.take_left']
  rfl
theorem post_gc {w0 : Wd} {H0 : Hp} {r r' : R T} {Q : VK} {E : XK} (g : Gc n r r') (hn : w0.phi.length = n) (p : PostE K w0 H0 r' Q E) : PostE K w0 H0 r Q E := by
  cases g with
  | refl => exact p
  | val h1 h2 => exact fun w1 H1 v e ok rl => p _ H1 v (e.cut hn) (ok.cut h1) (RelD.cut _ _ rl h2)
  | tmp h1 h2 =>
    intro w1 H1 v e ok rl
    obtain ⟨a, vs, rfl, q1, q2, q3, q4, q5⟩ := rl
    exact p _ H1 _ (e.cut hn) (ok.cut h1) ⟨a, vs, rfl, fun z => q1 (List.mem_of_mem_take z), q2, q3, q4, RelDs.cut _ _ q5 h2⟩
  | lst h1 h2 hk hs =>
    intro w1 H1 v e ok rl
    obtain ⟨a, rfl, ha⟩ := rl
    obtain ⟨so, es, ro⟩ := ok.at ha
    rw [hs] at es
    cases es
    obtain ⟨vs, e4, e5⟩ := ro
    refine p _ H1 _ (e.cut hn) (ok.cut h1) ⟨a, vs, rfl, fun z => ?_, ok.sep a (List.mem_of_getElem? ha), ?_, e4, RelDs.cut _ _ e5 h2⟩
    · obtain ⟨j, hj⟩ := List.getElem?_of_mem z
      have hlt : j < n := by
        have := (List.getElem?_eq_some_iff.mp hj).1
        rw [List.length_take] at this
        omega
      rw [List.getElem?_take_of_lt hlt] at hj
      have := nodup_get ok.nd hj ha
      omega
    · obtain ⟨more, p1, q1⟩ := e.ph
      refine q1 a ?_
      rw [p1, List.getElem?_append_right (by omega)] at ha
      exact List.mem_of_getElem? ha
  | @exc x st h1 h2 =>
    intro w1 H1 c dd e ok xr
    refine p _ H1 c dd (e.cut hn) (ok.cut h1) ⟨xr.1, ?_⟩
    have q := xr.2
    cases hx : x.fs with
    | nil =>
      rw [hx] at q
      exact q
    | cons f r =>
      rw [hx] at q h2
      obtain ⟨d, gs, e1, e2, r1, r2⟩ := q
      exact ⟨d, gs, e1, e2, r1, RelDs.cut _ _ r2 h2⟩
/-- a def's meaning may be told anew -/
theorem spOf.gc {n : Nat} {c c' : Fn} {vs : List V} {Q : VK} {E : XK} (h : ∀ args st, args.length = n → Store.lt st.length st = true → D.lts st.length args = true → c' args st ≠ .bad → Gc st.length (c args st) (c' args st)) (p : spOf K n c' vs H Q E) : spOf K n c vs H Q E := by
  obtain ⟨hl, w1, args, s1, ok, rel, p⟩ := p
  refine ⟨hl, w1, args, s1, ok, rel, ?_⟩
  have hne : c' args s1 ≠ .bad := fun z => by
    rw [z] at p
    exact p
  exact post_gc (h args s1 (by rw [rel.length]; exact hl) ok.lt (by rw [← ok.len]; exact rel.lts) hne) ok.len p
end
section
variable {P : Program} {w : World} {K : PySem.W.Frag} {mg : Str → Option Value} {base : Heap} {CX : CXT} {f : Addr} {fd : FuncData} {ps : List Str} {k : Nat} {c c' : Fn}
theorem ev_gc (h : ∀ args st, args.length = ps.length → Store.lt st.length st = true → D.lts st.length args = true → c' args st ≠ .bad → Gc st.length (c args st) (c' args st)) (F : FnOk P w K mg base CX k f fd ps (spOf K ps.length c)) :
    FnOk P w K mg base CX k f fd ps (spOf K ps.length c') := F.imp fun _ _ _ _ q => spOf.gc h q
end
end Q3

/-! Q3: operators, displays, items, calls of built-ins. -/
namespace Q3
open PySem L2

abbrev okS (d : D) (st : Store) : R T := .ok (.s d) st
def lstR (st : Store) : D → Option (List D)
  | .ro ds => some ds
  | .rk ds => some ds
  | .ref k => match st[k]? with
    | some (.lst ds) => some ds
    | _ => none
  | _ => none
def lstW (st : Store) : D → Option (List D)
  | .ro ds => some ds
  | .ref k => match st[k]? with
    | some (.lst ds) => some ds
    | _ => none
  | _ => none
section
variable {K : PySem.W.Frag} {W : WX} {w : Wd} {H : Hp} {st : Store} {Q : VK} {E : XK}
theorem RkL.sq {a : Addr} {vs : List V} (h : RkL K H a vs) : SqL K H a vs := by
  rcases h with ⟨o, h⟩ | h
  · exact .inl (.inr ⟨o, h⟩)
  · exact .inr h
theorem lstW_ok (ok : WOk K H w st) {d : D} {v : V} {ds : List D} (r : RelD K w H d v) (e : lstW st d = some ds) : ∃ a vs, v = .ref a ∧ H a = some (.lst vs) ∧ RelDs K w H ds vs := by
  cases d with
  | ro es =>
    cases e
    obtain ⟨a, vs, rfl, _, h2, h3⟩ := r
    exact ⟨a, vs, rfl, h2, h3⟩
  | ref k =>
    obtain ⟨a, rfl, ha⟩ := r
    obtain ⟨so, es, ro⟩ := ok.at ha
    simp only [lstW, es] at e
    cases so with
    | lst ds' =>
      cases e
      obtain ⟨vs, h, r⟩ := ro
      exact ⟨a, vs, rfl, h, r⟩
    | _ => cases e
  | _ => cases e
theorem lstR_ok (ok : WOk K H w st) {d : D} {v : V} {ds : List D} (r : RelD K w H d v) (e : lstR st d = some ds) : ∃ a vs, v = .ref a ∧ SqL K H a vs ∧ RelDs K w H ds vs := by
  cases d with
  | rk es =>
    cases e
    obtain ⟨a, vs, rfl, h2, h3⟩ := r
    exact ⟨a, vs, rfl, h2.sq, h3⟩
  | ro es =>
    obtain ⟨a, vs, h1, h2, h3⟩ := lstW_ok ok r (show lstW st (.ro es) = some ds from e)
    exact ⟨a, vs, h1, .inl (.inl h2), h3⟩
  | ref k =>
    obtain ⟨a, vs, h1, h2, h3⟩ := lstW_ok ok r (show lstW st (.ref k) = some ds from e)
    exact ⟨a, vs, h1, .inl (.inl h2), h3⟩
  | _ => cases e
theorem post_newL (ok : WOk K H w st) {ds : List D} {vs : List V} (r : RelDs K w H ds vs) (p : PostE K w H (.ok (.l ds) st) Q E) : ∀ q, H q = none → Q (.ref q) (upd H q (.lst vs)) := fun q hq =>
  p w _ (.ref q) (Ext.upd_new hq) (ok.upd_new hq) ⟨q, vs, rfl, ok.new_phi hq, ok.new_R hq, hq, upd_same, RelDs.mono (Ext.upd_new hq) ok _ _ r⟩
theorem post_newT (ok : WOk K H w st) {ds : List D} {vs : List V} (r : RelDs K w H ds vs) (p : PostE K w H (okS (.tup ds) st) Q E) : ∀ q, H q = none → Q (.ref q) (upd H q (.tup vs)) := fun q hq =>
  p w _ (.ref q) (Ext.upd_new hq) (ok.upd_new hq) ⟨q, vs, rfl, .inl (.inl upd_same), RelDs.mono (Ext.upd_new hq) ok _ _ r⟩
theorem post_s {d : D} {v : V} (p : PostE K w H (okS d st) Q E) (ok : WOk K H w st) (r : RelD K w H d v) : Q v H := p w H v (Ext.refl _ _) ok r

/-! ### arithmetic -/
def opAdd (x y : D) (st : Store) : R T := match x, y with
  | .int i, .int j => okS (.int (i + j)) st
  | .str a, .str b => if a.length + b.length ≤ sizeLine then okS (.str (a ++ b)) st else .bad
  | .tup xs, .tup ys => if xs.isEmpty = false ∧ xs.length + ys.length ≤ sizeLine then okS (.tup (xs ++ ys)) st else .bad
  | x, y => match lstW st x, lstW st y with
    | some xs, some ys => if xs.length + ys.length ≤ sizeLine then .ok (.l (xs ++ ys)) st else .bad
    | _, _ => .bad
def rAddQ (K : PySem.W.Frag) : R2 := fun x y H Q => rI0 (fun i j => .int (i + j)) x y H Q ∨ (∃ i j, x = .str i ∧ y = .str j ∧ i.length + j.length ≤ sizeLine ∧ Q (.str (i ++ j)) H) ∨ rCatT K x y H Q ∨ rCat x y H Q
theorem op_addQ {X : Cx} : OpR X (binaryOp .Add) (rAddQ X.K) := op_add.or (op_add_str.or (op_catT.or op_cat))
theorem isEmpty_rel {ds : List D} {vs : List V} (r : RelDs K w H ds vs) (h : ds.isEmpty = false) : vs ≠ [] := fun z => by
  rw [z] at r
  have := r.length
  cases ds with
  | nil => cases h
  | cons a b => cases this
theorem addQ_lists (x y : D) (st : Store) (vx vy : V) (ok : WOk K H w st) (rx : RelD K w H x vx) (ry : RelD K w H y vy)
    (p : PostE K w H (match lstW st x, lstW st y with | some xs, some ys => if xs.length + ys.length ≤ sizeLine then .ok (.l (xs ++ ys)) st else .bad | _, _ => .bad) Q E) : rAddQ K vx vy H Q := by
  cases hx : lstW st x with
  | none => rw [hx] at p; exact p.elim
  | some xs =>
    cases hy : lstW st y with
    | none => rw [hx, hy] at p; exact p.elim
    | some ys =>
      rw [hx, hy] at p
      obtain ⟨a, vs, rfl, h1, h2⟩ := lstW_ok ok rx hx
      obtain ⟨b, us, rfl, h3, h4⟩ := lstW_ok ok ry hy
      have p : PostE K w H (if xs.length + ys.length ≤ sizeLine then .ok (.l (xs ++ ys)) st else .bad) Q E := p
      split at p
      · rename_i hz
        exact .inr (.inr (.inr ⟨a, b, vs, us, rfl, rfl, h1, h3, by rw [← h2.length, ← h4.length]; exact hz, post_newL ok (h2.append h4) p⟩))
      · exact p.elim
theorem opAdd_ok : OpOk K (rAddQ K) opAdd := by
  intro w H st x y vx vy Q E ok rx ry p
  unfold opAdd at p
  split at p
  · rename_i i j
    have ex : vx = .int i := rx
    have ey : vy = .int j := ry
    subst ex ey
    exact .inl ⟨i, j, rfl, rfl, post_s p ok rfl⟩
  · rename_i a b
    have ex : vx = .str a := rx
    have ey : vy = .str b := ry
    subst ex ey
    split at p
    · rename_i hz
      exact .inr (.inl ⟨a, b, rfl, rfl, hz, post_s p ok rfl⟩)
    · exact p.elim
  · rename_i xs ys
    split at p
    · rename_i hz
      obtain ⟨a, vs, rfl, h1, h2⟩ := rx
      obtain ⟨b, us, rfl, h3, h4⟩ := ry
      refine .inr (.inr (.inl ⟨a, b, vs, us, rfl, rfl, h1, h3, isEmpty_rel h2 hz.1, by rw [← h2.length, ← h4.length]; exact hz.2, fun z => ?_, fun _ => post_newT ok (h2.append h4) p⟩))
      subst z
      cases ys with
      | nil =>
        rw [List.append_nil] at p
        exact post_s p ok ⟨a, vs, rfl, h1, h2⟩
      | cons c d => exact absurd h4.length (by simp)
    · exact p.elim
  · exact addQ_lists _ _ st vx vy ok rx ry p
def opSub (x y : D) (st : Store) : R T := match x, y with
  | .int i, .int j => okS (.int (i - j)) st
  | _, _ => .bad
theorem opSub_ok : OpOk K (rI0 fun i j => .int (i - j)) opSub := by
  intro w H st x y vx vy Q E ok rx ry p
  unfold opSub at p
  split at p
  · rename_i i j
    exact ⟨i, j, rx, ry, post_s p ok rfl⟩
  · exact p.elim
def opMul (x y : D) (st : Store) : R T := match x, y with
  | .int i, .int j => if (-(2 ^ 64) < i ∧ i < 2 ^ 64) ∨ (-(2 ^ 64) < j ∧ j < 2 ^ 64) then okS (.int (i * j)) st else .bad
  | d, .int k => match lstW st d with
    | some xs => if -(2 ^ 63) ≤ k ∧ k < 2 ^ 63 ∧ xs.length * k.toNat ≤ sizeLine then .ok (.l (List.replicate k.toNat xs).flatten) st else .bad
    | none => .bad
  | _, _ => .bad
def rMulQ : R2 := fun x y H Q => rI CMul (fun i j => .int (i * j)) x y H Q ∨ rRep x y H Q
theorem op_mulQ {X : Cx} : OpR X (binaryOp .Mult) rMulQ := op_mul.or op_rep
theorem opMul_ok : OpOk K rMulQ opMul := by
  intro w H st x y vx vy Q E ok rx ry p
  unfold opMul at p
  split at p
  · rename_i i j
    split at p
    · rename_i hc
      exact .inl ⟨i, j, rx, ry, hc, post_s p ok rfl⟩
    · exact p.elim
  · rename_i k _
    have ey : vy = .int k := ry
    subst ey
    cases hx : lstW st x with
    | none => rw [hx] at p; exact p.elim
    | some xs =>
      rw [hx] at p
      obtain ⟨a, vs, rfl, h1, h2⟩ := lstW_ok ok rx hx
      have p : PostE K w H (if -(2 ^ 63) ≤ k ∧ k < 2 ^ 63 ∧ xs.length * k.toNat ≤ sizeLine then .ok (.l (List.replicate k.toNat xs).flatten) st else .bad) Q E := p
      split at p
      · rename_i hz
        exact .inr ⟨a, k, vs, rfl, rfl, h1, hz.1, hz.2.1, by rw [← h2.length]; exact hz.2.2, post_newL ok (h2.rep _) p⟩
      · exact p.elim
  · exact p.elim
def opFdiv (x y : D) (st : Store) : R T := match x, y with
  | .int i, .int j => if 0 < j ∧ j < 1073741824 then okS (.int (i / j)) st else .bad
  | _, _ => .bad
theorem opFdiv_ok : OpOk K (rI CDiv fun i j => .int (i / j)) opFdiv := by
  intro w H st x y vx vy Q E ok rx ry p
  unfold opFdiv at p
  split at p
  · rename_i i j
    split at p
    · rename_i hc
      exact ⟨i, j, rx, ry, hc, post_s p ok rfl⟩
    · exact p.elim
  · exact p.elim
def opMod (x y : D) (st : Store) : R T := match x, y with
  | .int i, .int j => if 0 < j then okS (.int (i % j)) st else .bad
  | _, _ => .bad
theorem opMod_ok : OpOk K (rI (fun _ j => 0 < j) fun i j => .int (i % j)) opMod := by
  intro w H st x y vx vy Q E ok rx ry p
  unfold opMod at p
  split at p
  · rename_i i j
    split at p
    · rename_i hc
      exact ⟨i, j, rx, ry, hc, post_s p ok rfl⟩
    · exact p.elim
  · exact p.elim
def CPowB (i j : Int) : Prop := 0 ≤ j ∧ (Builtin.Int.intBits i : Int) * j ≤ 2 ^ 27
theorem op_powB {X : Cx} : OpR X (binaryOp .Pow) (rI CPowB fun i j => .int (i ^ j.toNat)) := opI fun _ _ _ _ _ _ _ hc q => PyProof.Rows.pow_int hc.1 hc.2 q
def opPow (x y : D) (st : Store) : R T := match x, y with
  | .int i, .int j => if 0 ≤ j ∧ (Builtin.Int.intBits i : Int) * j ≤ 2 ^ 27 then okS (.int (i ^ j.toNat)) st else .bad
  | _, _ => .bad
theorem opPow_ok : OpOk K (rI CPowB fun i j => .int (i ^ j.toNat)) opPow := by
  intro w H st x y vx vy Q E ok rx ry p
  unfold opPow at p
  split at p
  · rename_i i j
    split at p
    · rename_i hc
      exact ⟨i, j, rx, ry, hc, post_s p ok rfl⟩
    · exact p.elim
  · exact p.elim
def unNeg (x : D) (st : Store) : R T := match x with
  | .int i => okS (.int (-i)) st
  | _ => .bad
theorem unNeg_ok : UnOk K (rU fun i => .int (-i)) unNeg := by
  intro w H st x vx Q E ok rx p
  unfold unNeg at p
  split at p
  · rename_i i
    exact ⟨i, rx, post_s p ok rfl⟩
  · exact p.elim

/-! ### order of ints -/
def opCmp (c : Int → Int → Bool) (x y : D) (st : Store) : R T := match x, y with
  | .int i, .int j => okS (.bl (c i j)) st
  | _, _ => .bad
theorem opCmp_ok {c : Int → Int → Bool} : OpOk K (rI0 fun i j => .bl (c i j)) (opCmp c) := by
  intro w H st x y vx vy Q E ok rx ry p
  unfold opCmp at p
  split at p
  · rename_i i j
    exact ⟨i, j, rx, ry, post_s p ok rfl⟩
  · exact p.elim
abbrev cLt : Int → Int → Bool := fun i j => decide (i < j)
abbrev cLe : Int → Int → Bool := fun i j => decide (i ≤ j)
abbrev cGt : Int → Int → Bool := fun i j => decide (j < i)
abbrev cGe : Int → Int → Bool := fun i j => decide (j ≤ i)

/-! ### equality -/
mutual
/-- data without objects of the store -/
def D.py : D → Option PyData
  | .non => some .none
  | .bl b => some (.bool b)
  | .int i => some (.int i)
  | .str x => some (.str x)
  | .tup ds => (D.pys ds).map .tuple
  | .ro ds => (D.pys ds).map .list
  | .rk ds => (D.pys ds).map .list
  | .ref _ => none
  | .vv _ => none
def D.pys : List D → Option (List PyData)
  | [] => some []
  | d :: ds => match D.py d, D.pys ds with
    | some a, some b => some (a :: b)
    | _, _ => none
end
mutual
theorem RelD.dp : ∀ (d : D) (v : V) (y : PyData), RelD K w H d v → D.py d = some y → Dp K H v y
  | .non, v, y, h, e => by
    cases e
    cases (show v = .non from h)
    exact .non
  | .bl b, v, y, h, e => by
    cases e
    cases (show v = .bl b from h)
    exact .bl b
  | .int i, v, y, h, e => by
    cases e
    cases (show v = .int i from h)
    exact .int i
  | .str x, v, y, h, e => by
    cases e
    cases (show v = .str x from h)
    exact .str x
  | .vv u, v, y, h, e => by cases e
  | .ref i, v, y, h, e => by cases e
  | .tup ds, v, y, h, e => by
    obtain ⟨a, vs, rfl, h1, h2⟩ := h
    have e : (D.pys ds).map PyData.tuple = some y := e
    cases q : D.pys ds with
    | none => rw [q] at e; cases e
    | some ys =>
      rw [q] at e
      cases e
      exact .tup h1 (RelDs.dp ds vs ys h2 q)
  | .ro ds, v, y, h, e => by
    obtain ⟨a, vs, rfl, _, h1, h2⟩ := h
    have e : (D.pys ds).map PyData.list = some y := e
    cases q : D.pys ds with
    | none => rw [q] at e; cases e
    | some ys =>
      rw [q] at e
      cases e
      exact .lst (.inl (.inl h1)) (RelDs.dp ds vs ys h2 q)
  | .rk ds, v, y, h, e => by
    obtain ⟨a, vs, rfl, h1, h2⟩ := h
    have e : (D.pys ds).map PyData.list = some y := e
    cases q : D.pys ds with
    | none => rw [q] at e; cases e
    | some ys =>
      rw [q] at e
      cases e
      exact .lst h1.sq (RelDs.dp ds vs ys h2 q)
theorem RelDs.dp : ∀ (ds : List D) (vs : List V) (ys : List PyData), RelDs K w H ds vs → D.pys ds = some ys → DpAll K H vs ys
  | [], vs, ys, h, e => by
    cases e
    cases (show vs = [] from h)
    exact .nil
  | d :: ds, vs, ys, h, e => by
    obtain ⟨v, r, rfl, h1, h2⟩ := h
    unfold D.pys at e
    cases q1 : D.py d with
    | none => rw [q1] at e; cases e
    | some a =>
      cases q2 : D.pys ds with
      | none => rw [q1, q2] at e; cases e
      | some b =>
        rw [q1, q2] at e
        cases e
        exact .cons (RelD.dp d v a h1 q1) (RelDs.dp ds r b h2 q2)
end
/-- data, a list of the store by its items -/
def D.pyT (st : Store) (d : D) : Option PyData := match d with
  | .ref k => match st[k]? with
    | some (.lst ds) => (D.pys ds).map .list
    | _ => none
  | d => D.py d
theorem RelD.dpT (ok : WOk K H w st) {d : D} {v : V} {y : PyData} (h : RelD K w H d v) (e : D.pyT st d = some y) : Dp K H v y := by
  cases d with
  | ref k =>
    obtain ⟨a, rfl, ha⟩ := h
    obtain ⟨so, es, ro⟩ := ok.at ha
    unfold D.pyT at e
    simp only [es] at e
    cases so with
    | lst ds =>
      obtain ⟨vs, h1, h2⟩ := ro
      have e : (D.pys ds).map PyData.list = some y := e
      cases q : D.pys ds with
      | none => rw [q] at e; cases e
      | some ys =>
        rw [q] at e
        cases e
        exact .lst (.inl (.inl h1)) (RelDs.dp ds vs ys h2 q)
    | _ => cases e
  | _ => exact RelD.dp _ v y h e
def opEq (x y : D) (st : Store) : R T := match x, y with
  | .int i, .int j => okS (.bl (decide (i = j))) st
  | .str i, .str j => okS (.bl (decide (i = j))) st
  | .bl i, .bl j => okS (.bl (decide (i = j))) st
  | x, y => match D.pyT st x, D.pyT st y with
    | some a, some b => if SeqAt.shaped a = true ∧ SeqAt.shaped b = true then okS (.bl (PyData.eqv a b)) st else .bad
    | _, _ => .bad
def opNe (x y : D) (st : Store) : R T := match x, y with
  | .int i, .int j => okS (.bl (!decide (i = j))) st
  | .str i, .str j => okS (.bl (!decide (i = j))) st
  | .bl i, .bl j => okS (.bl (!decide (i = j))) st
  | x, y => match D.pyT st x, D.pyT st y with
    | some a, some b => if SeqAt.shaped a = true ∧ SeqAt.shaped b = true then okS (.bl (!PyData.eqv a b)) st else .bad
    | _, _ => .bad
def rEqQ (K : PySem.W.Frag) : R2 := fun x y H Q => rEq x y H Q ∨ rEqD K x y H Q
def rNeQ (K : PySem.W.Frag) : R2 := fun x y H Q => rNe x y H Q ∨ rNeD K x y H Q
theorem op_eqQ {X : Cx} (hu : X.A.units + 64 < cLine) : OpR X (compareOp .Eq) (rEqQ X.K) := op_eq.or (op_eqD hu)
theorem op_neQ {X : Cx} (hu : X.A.units + 64 < cLine) : OpR X (compareOp .NotEq) (rNeQ X.K) := op_ne.or (op_neD hu)
theorem dI {i j : Int} : decide (V.int i = V.int j) = decide (i = j) := by simp
theorem dS {i j : Str} : decide (V.str i = V.str j) = decide (i = j) := by simp
theorem dB {i j : Bool} : decide (V.bl i = V.bl j) = decide (i = j) := by simp
theorem opEq_ok : OpOk K (rEqQ K) opEq := by
  intro w H st x y vx vy Q E ok rx ry p
  unfold opEq at p
  split at p
  · rename_i i j
    cases (show vx = .int i from rx)
    cases (show vy = .int j from ry)
    exact .inl ⟨rfl, by rw [dI]; exact post_s p ok rfl⟩
  · rename_i i j
    cases (show vx = .str i from rx)
    cases (show vy = .str j from ry)
    exact .inl ⟨rfl, by rw [dS]; exact post_s p ok rfl⟩
  · rename_i i j
    cases (show vx = .bl i from rx)
    cases (show vy = .bl j from ry)
    exact .inl ⟨rfl, by rw [dB]; exact post_s p ok rfl⟩
  · split at p
    · rename_i a b ea eb
      split at p
      · rename_i hs
        exact .inr ⟨a, b, rx.dpT ok ea, ry.dpT ok eb, hs.1, hs.2, post_s p ok rfl⟩
      · exact p.elim
    · exact p.elim
theorem opNe_ok : OpOk K (rNeQ K) opNe := by
  intro w H st x y vx vy Q E ok rx ry p
  unfold opNe at p
  split at p
  · rename_i i j
    cases (show vx = .int i from rx)
    cases (show vy = .int j from ry)
    exact .inl ⟨rfl, by rw [dI]; exact post_s p ok rfl⟩
  · rename_i i j
    cases (show vx = .str i from rx)
    cases (show vy = .str j from ry)
    exact .inl ⟨rfl, by rw [dS]; exact post_s p ok rfl⟩
  · rename_i i j
    cases (show vx = .bl i from rx)
    cases (show vy = .bl j from ry)
    exact .inl ⟨rfl, by rw [dB]; exact post_s p ok rfl⟩
  · split at p
    · rename_i a b ea eb
      split at p
      · rename_i hs
        exact .inr ⟨a, b, rx.dpT ok ea, ry.dpT ok eb, hs.1, hs.2, post_s p ok rfl⟩
      · exact p.elim
    · exact p.elim

/-! ### displays -/
/-- n parts always -/
def Len (n : Nat) (f : MA) : Prop := ∀ σ st xs st', f σ st = .ok xs st' → xs.length = n
theorem len_nil : Len 0 fNil := fun σ st xs st' h => by
  cases h
  rfl
theorem len_cons {n : Nat} {fe : ME} {f : MA} (h : Len n f) : Len (n + 1) (fCons fe f) := fun σ st xs st' e => by
  unfold fCons at e
  cases q : fe σ st with
  | ok x st1 =>
    rw [q] at e
    have e : (f σ st1).bind (fun xs st2 => .ok (x.d :: xs) st2) = .ok xs st' := e
    cases q2 : f σ st1 with
    | ok ys st2 =>
      rw [q2] at e
      cases e
      show ys.length + 1 = n + 1
      rw [h _ _ _ _ q2]
    | exc a b => rw [q2] at e; cases e
    | bad => rw [q2] at e; cases e
  | exc a b => rw [q] at e; cases e
  | bad => rw [q] at e; cases e
def fTup (fa : MA) : ME := fun σ st => (fa σ st).bind fun xs st1 => .ok (.s (.tup xs)) st1
def fLst (fa : MA) : ME := fun σ st => (fa σ st).bind fun xs st1 => .ok (.l xs) st1
theorem le_tup {t : TA} {fa : MA} {n : Nat} (ha : LA K W t fa) (hn : Len n fa) (hs : n ≤ sizeLine) : LE K W (tTup t) (fTup fa) := by
  intro w H σ σd st Q ok sl p
  refine ha w H σ σd st _ ok sl ?_
  unfold fTup at p
  cases e : fa σd st with
  | ok x st1 =>
    rw [e] at p
    intro w1 H1 v e1 ok1 r1
    exact ⟨by rw [← r1.length, hn _ _ _ _ e]; exact hs, post_newT ok1 r1 (PostE.shift e1 p)⟩
  | exc x st1 => rw [e] at p; exact p
  | bad => rw [e] at p; exact p
theorem le_lst {t : TA} {fa : MA} {n : Nat} (ha : LA K W t fa) (hn : Len n fa) (hs : n ≤ sizeLine) : LE K W (tLst t) (fLst fa) := by
  intro w H σ σd st Q ok sl p
  refine ha w H σ σd st _ ok sl ?_
  unfold fLst at p
  cases e : fa σd st with
  | ok x st1 =>
    rw [e] at p
    intro w1 H1 v e1 ok1 r1
    exact ⟨by rw [← r1.length, hn _ _ _ _ e]; exact hs, post_newL ok1 r1 (PostE.shift e1 p)⟩
  | exc x st1 => rw [e] at p; exact p
  | bad => rw [e] at p; exact p

/-! ### items -/
def opIx (x y : D) (st : Store) : R T := match x, y with
  | .tup ds, .int i => match atI ds i with
    | some d => okS d st
    | none => .bad
  | .str z, .int i => if z.length ≤ sizeLine then (match atI z.cps.toList i with
    | some c => okS (.str ⟨#[c]⟩) st
    | none => .bad) else .bad
  | x, .int i => match lstR st x with
    | some ds => (match atI ds i with
      | some d => okS d st
      | none => .bad)
    | none => .bad
  | _, _ => .bad
theorem RelDs.atI {ds : List D} {vs : List V} {i : Int} {d : D} (r : RelDs K w H ds vs) (e : L2.atI ds i = some d) : ∃ v, L2.atI vs i = some v ∧ RelD K w H d v := by
  unfold L2.atI at e ⊢
  rw [r.length] at e
  cases q : ixN vs.length i with
  | none => rw [q] at e; cases e
  | some j =>
    rw [q] at e
    obtain ⟨v, h1, h2⟩ := r.get (show ds[j]? = some d from e)
    exact ⟨v, h1, h2⟩
theorem opIx_ok : OpOk K (rIx K) opIx := by
  intro w H st x y vx vy Q E ok rx ry p
  unfold opIx at p
  split at p
  · rename_i ds i
    split at p
    · rename_i d ed
      obtain ⟨a, vs, rfl, h1, h2⟩ := rx
      obtain ⟨v, h3, h4⟩ := h2.atI ed
      exact .inr (.inl ⟨a, vs, i, v, rfl, ry, h1, h3, post_s p ok h4⟩)
    · exact p.elim
  · rename_i z i
    split at p
    · rename_i hz
      split at p
      · rename_i c ec
        exact .inr (.inr ⟨z, i, c, rx, ry, hz, ec, post_s p ok rfl⟩)
      · exact p.elim
    · exact p.elim
  · rename_i x i _ _
    split at p
    · rename_i ds eds
      split at p
      · rename_i d ed
        obtain ⟨a, vs, rfl, h1, h2⟩ := lstR_ok ok rx eds
        obtain ⟨v, h3, h4⟩ := h2.atI ed
        exact .inl ⟨a, vs, i, v, rfl, ry, h1, h3, post_s p ok h4⟩
      · exact p.elim
    · exact p.elim
  · exact p.elim
/-- slices -/
abbrev MO := DS → Store → R (Option Int)
def LO (K : PySem.W.Frag) (W : WX) (t : TO) (f : MO) : Prop := ∀ w H σ σd st Q, WOk K H w st → RelSl K w H σd σ → Post (fun _ _ (a b : Option Int) => a = b) K w H (f σd st) Q (fun c d H' => W c d σ H') → t σ H Q
structure EvO (X : Cx) (W : WX) (e : Option Expr) (t : TO) (f : MO) : Prop where
  po : PO X e t
  le : LO X.K W t f
def oNone : MO := fun _ st => .ok none st
def oSome (fe : ME) : MO := fun σ st => (fe σ st).bind fun x st1 => match x.d with
  | .int i => .ok (some i) st1
  | _ => .bad
theorem lo_none : LO K W tNoPart oNone := fun w H σ σd st Q ok sl p => p w H none (Ext.refl _ _) ok rfl
theorem lo_some {te : TE} {fe : ME} (he : LE K W te fe) : LO K W (tPart te) (oSome fe) := by
  intro w H σ σd st Q ok sl p
  refine he.d ok sl ?_
  unfold oSome at p
  cases e : fe σd st with
  | ok x st1 =>
    rw [e] at p
    intro w1 H1 v e1 ok1 r1
    have p : Post (fun _ _ (a b : Option Int) => a = b) K w H (match x.d with | .int i => .ok (some i) st1 | _ => .bad) Q _ := p
    generalize x.d = d at p r1
    cases d with
    | int i => exact ⟨i, r1, p w1 H1 _ e1 ok1 rfl⟩
    | _ => exact p.elim
  | exc x st1 => rw [e] at p; exact p
  | bad => rw [e] at p; exact p
def cutD (xs : List D) (lo hi : Option Int) : List D := (xs.drop (HT.sIx xs.length 0 lo)).take (HT.sIx xs.length xs.length hi - HT.sIx xs.length 0 lo)
def slD (st : Store) (lo hi : Option Int) : D → R T
  | .tup ds => if HT.sIx ds.length 0 lo = 0 ∧ HT.sIx ds.length ds.length hi = ds.length then .bad else okS (.tup (cutD ds lo hi)) st
  | x => match lstR st x with
    | some ds => .ok (.l (cutD ds lo hi)) st
    | none => .bad
def fSl (fe : ME) (fl fh : MO) : ME := fun σ st => (fe σ st).bind fun x st1 => (fl σ st1).bind fun l st2 => (fh σ st2).bind fun h st3 => slD st3 l h x.d
def rSlQ (K : PySem.W.Frag) : V → Option Int → Option Int → Hp → VK → Prop := fun x lo hi H Q => rSlT K x lo hi H Q ∨ rSlL K x lo hi H Q
theorem sl_Q {X : Cx} : SlR X (rSlQ X.K) := sl_tup.or sl_list
theorem RelDs.cutD {ds : List D} {vs : List V} (r : RelDs K w H ds vs) (lo hi : Option Int) : RelDs K w H (Q3.cutD ds lo hi) (cutV vs lo hi) := by
  unfold Q3.cutD cutV
  rw [r.length]
  exact (r.drop _).take _
theorem slD_ok (ok : WOk K H w st) {x : D} {v : V} {lo hi : Option Int} (rx : RelD K w H x v) (p : PostE K w H (slD st lo hi x) Q E) : rSlQ K v lo hi H Q := by
  unfold slD at p
  split at p
  · rename_i ds
    split at p
    · exact p.elim
    · rename_i hz
      obtain ⟨a, vs, rfl, h1, h2⟩ := rx
      rw [h2.length] at hz
      exact .inl ⟨a, vs, rfl, h1, hz, post_newT ok (h2.cutD lo hi) p⟩
  · split at p
    · rename_i ds eds
      obtain ⟨a, vs, rfl, h1, h2⟩ := lstR_ok ok rx eds
      exact .inr ⟨a, vs, rfl, h1, post_newL ok (h2.cutD lo hi) p⟩
    · exact p.elim
theorem le_sl {te : TE} {fe : ME} {tl th : TO} {fl fh : MO} (he : LE K W te fe) (hl : LO K W tl fl) (hh : LO K W th fh) : LE K W (tSl (rSlQ K) te tl th) (fSl fe fl fh) := by
  intro w H σ σd st Q ok sl p
  refine he.d ok sl ?_
  unfold fSl at p
  cases e : fe σd st with
  | ok x st1 =>
    rw [e] at p
    intro w1 H1 v e1 ok1 r1
    refine hl w1 H1 σ σd st1 _ ok1 (sl.mono e1 ok) ?_
    have p : PostE K w H ((fl σd st1).bind fun l st2 => (fh σd st2).bind fun h st3 => slD st3 l h x.d) Q _ := p
    cases el : fl σd st1 with
    | ok lo st2 =>
      rw [el] at p
      intro w2 H2 lo' e2 ok2 r2
      have r2 : lo = lo' := r2
      subst r2
      refine hh w2 H2 σ σd st2 _ ok2 ((sl.mono e1 ok).mono e2 ok1) ?_
      have p : PostE K w H ((fh σd st2).bind fun h st3 => slD st3 lo h x.d) Q _ := p
      cases eh : fh σd st2 with
      | ok hi st3 =>
        rw [eh] at p
        intro w3 H3 hi' e3 ok3 r3
        have r3 : hi = hi' := r3
        subst r3
        exact slD_ok ok3 (RelD.mono (e2.trans e3) ok1 _ _ r1) (PostE.shift ((e1.trans e2).trans e3) p)
      | exc x2 st3 =>
        rw [eh] at p
        exact fun w' H' cls dd f => p w' H' cls dd ((e1.trans e2).trans f)
      | bad => rw [eh] at p; exact p
    | exc x2 st2 =>
      rw [el] at p
      exact fun w' H' cls dd f => p w' H' cls dd (e1.trans f)
    | bad => rw [el] at p; exact p
  | exc x st1 => rw [e] at p; exact p
  | bad => rw [e] at p; exact p

/-! ### built-ins called -/
def cLen (xs : List D) (st : Store) : R T := match xs with
  | [.tup ds] => okS (.int ds.length) st
  | [.str z] => if z.length ≤ sizeLine then okS (.int z.length) st else .bad
  | [x] => match lstR st x with
    | some ds => okS (.int ds.length) st
    | none => .bad
  | _ => .bad
def rLenQ (K : PySem.W.Frag) : List V → Hp → VK → Prop := fun xs H Q => (∃ p ys, xs = [.ref p] ∧ (SqL K H p ys ∨ SqT K H p ys) ∧ Q (.int ys.length) H) ∨ (∃ z, xs = [.str z] ∧ z.length ≤ sizeLine ∧ Q (.int z.length) H)
theorem call_lenQ {X : Cx} : CallR X (.builtin "len") (rLenQ X.K) := call_len_seq.or call_len_str
theorem RelDs.one_of {d : D} {vs : List V} (r : RelDs K w H [d] vs) : ∃ v, vs = [v] ∧ RelD K w H d v := by
  obtain ⟨v, r', rfl, h1, h2⟩ := r
  have e : r' = [] := h2
  subst e
  exact ⟨v, rfl, h1⟩
theorem RelDs.two_of {d d' : D} {vs : List V} (r : RelDs K w H [d, d'] vs) : ∃ v v', vs = [v, v'] ∧ RelD K w H d v ∧ RelD K w H d' v' := by
  obtain ⟨v, r', rfl, h1, h2⟩ := r
  obtain ⟨v', rfl, h3⟩ := RelDs.one_of h2
  exact ⟨v, v', rfl, h1, h3⟩
theorem cLen_ok : CallOk K (rLenQ K) cLen := by
  intro w H st xs vs Q E ok r p
  unfold cLen at p
  split at p
  · rename_i ds
    obtain ⟨v, rfl, rv⟩ := RelDs.one_of r
    obtain ⟨a, us, rfl, h1, h2⟩ := rv
    refine .inl ⟨a, us, rfl, .inr h1, ?_⟩
    rw [← h2.length]
    exact post_s p ok rfl
  · rename_i z
    obtain ⟨v, rfl, rv⟩ := RelDs.one_of r
    cases (show v = .str z from rv)
    split at p
    · rename_i hz
      exact .inr ⟨z, rfl, hz, post_s p ok rfl⟩
    · exact p.elim
  · obtain ⟨v, rfl, rv⟩ := RelDs.one_of r
    split at p
    · rename_i ds eds
      obtain ⟨a, us, rfl, h1, h2⟩ := lstR_ok ok rv eds
      refine .inl ⟨a, us, rfl, .inl h1, ?_⟩
      rw [← h2.length]
      exact post_s p ok rfl
    · exact p.elim
  · exact p.elim
def cInt (xs : List D) (st : Store) : R T := match xs with
  | [.int i] => okS (.int i) st
  | [.bl b] => okS (.int (if b then 1 else 0)) st
  | _ => .bad
theorem cInt_ok : CallOk K (fun xs H Q => (∃ i, xs = [.int i] ∧ Q (.int i) H) ∨ ∃ k, xs = [.bl k] ∧ Q (.int (if k then 1 else 0)) H) cInt := by
  intro w H st xs vs Q E ok r p
  unfold cInt at p
  split at p
  · rename_i i
    obtain ⟨v, rfl, rv⟩ := RelDs.one_of r
    cases (show v = .int i from rv)
    exact .inl ⟨i, rfl, post_s p ok rfl⟩
  · rename_i i
    obtain ⟨v, rfl, rv⟩ := RelDs.one_of r
    cases (show v = .bl i from rv)
    exact .inr ⟨i, rfl, post_s p ok rfl⟩
  · exact p.elim
def cList (xs : List D) (st : Store) : R T := match xs with
  | [.tup ds] => .ok (.l ds) st
  | [x] => match lstR st x with
    | some ds => .ok (.l ds) st
    | none => .bad
  | _ => .bad
theorem cList_ok : CallOk K (fun xs H Q => ∃ p ys, xs = [.ref p] ∧ (SqL K H p ys ∨ SqT K H p ys) ∧ ∀ l, H l = none → Q (.ref l) (upd H l (.lst ys))) cList := by
  intro w H st xs vs Q E ok r p
  unfold cList at p
  split at p
  · rename_i ds
    obtain ⟨v, rfl, rv⟩ := RelDs.one_of r
    obtain ⟨a, us, rfl, h1, h2⟩ := rv
    exact ⟨a, us, rfl, .inr h1, post_newL ok h2 p⟩
  · obtain ⟨v, rfl, rv⟩ := RelDs.one_of r
    split at p
    · rename_i ds eds
      obtain ⟨a, us, rfl, h1, h2⟩ := lstR_ok ok rv eds
      exact ⟨a, us, rfl, .inl h1, post_newL ok h2 p⟩
    · exact p.elim
  · exact p.elim
def cTup (xs : List D) (st : Store) : R T := match xs with
  | [.tup ds] => okS (.tup ds) st
  | [x] => match lstR st x with
    | some ds => okS (.tup ds) st
    | none => .bad
  | _ => .bad
theorem cTup_ok : CallOk K (fun xs H Q => ∃ p ys, xs = [.ref p] ∧ ((SqL K H p ys ∧ ∀ l, H l = none → Q (.ref l) (upd H l (.tup ys))) ∨ (SqT K H p ys ∧ Q (.ref p) H))) cTup := by
  intro w H st xs vs Q E ok r p
  unfold cTup at p
  split at p
  · rename_i ds
    obtain ⟨v, rfl, rv⟩ := RelDs.one_of r
    obtain ⟨a, us, rfl, h1, h2⟩ := rv
    exact ⟨a, us, rfl, .inr ⟨h1, post_s p ok ⟨a, us, rfl, h1, h2⟩⟩⟩
  · obtain ⟨v, rfl, rv⟩ := RelDs.one_of r
    split at p
    · rename_i ds eds
      obtain ⟨a, us, rfl, h1, h2⟩ := lstR_ok ok rv eds
      exact ⟨a, us, rfl, .inl ⟨h1, post_newT ok h2 p⟩⟩
    · exact p.elim
  · exact p.elim
/-- a value's built-in type -/
def D.ty (st : Store) : D → Option String
  | .non => some "NoneType"
  | .bl _ => some "bool"
  | .int _ => some "int"
  | .str _ => some "str"
  | .tup _ => some "tuple"
  | .ro _ => some "list"
  | .rk _ => some "list"
  | .ref k => match st[k]? with
    | some (.lst _) => some "list"
    | some (.dct _) => some "dict"
    | some (.set _ _) => some "set"
    | _ => none
  | .vv _ => none
def cIsi (xs : List D) (st : Store) : R T := match xs with
  | [x, .vv (.ty n)] => match D.ty st x with
    | some m => (match kitB m n with
      | some b => okS (.bl b) st
      | none => .bad)
    | none => .bad
  | _ => .bad
theorem D.ty_ok (ok : WOk K H w st) {d : D} {v : V} {m : String} (r : RelD K w H d v) (e : D.ty st d = some m) : TyX K H v (.type m) := by
  cases d with
  | non => cases e; cases (show v = .non from r); exact .base .non
  | bl b => cases e; cases (show v = .bl b from r); exact .base (.bl b)
  | int b => cases e; cases (show v = .int b from r); exact .base (.int b)
  | str b => cases e; cases (show v = .str b from r); exact .base (.str b)
  | tup ds =>
    cases e
    obtain ⟨a, vs, rfl, h1, _⟩ := r
    rcases h1 with (h1 | ⟨o, h1⟩) | ⟨o, its, n, h1, h2, _⟩
    · exact .base (.tup h1)
    · exact .fTuple h1
    · exact .kTuple h1 h2
  | ro ds =>
    cases e
    obtain ⟨a, vs, rfl, _, h1, _⟩ := r
    exact .base (.lst h1)
  | rk ds =>
    cases e
    obtain ⟨a, vs, rfl, h1, _⟩ := r
    rcases h1 with ⟨o, h1⟩ | ⟨o, its, n, h1, h2, _⟩
    · exact .base (.frz h1)
    · exact .kList h1 h2
  | ref k =>
    obtain ⟨a, rfl, ha⟩ := r
    obtain ⟨so, es, ro⟩ := ok.at ha
    unfold D.ty at e
    simp only [es] at e
    cases so with
    | lst ds => cases e; obtain ⟨vs, h1, _⟩ := ro; exact .base (.lst h1)
    | dct ds => cases e; obtain ⟨vs, h1, _⟩ := ro; exact .base (.dK h1)
    | set S n => cases e; exact .set ro
    | ins C fs => cases e
  | vv u => cases e
theorem cIsi_ok : CallOk K (rIsi K) cIsi := by
  intro w H st xs vs Q E ok r p
  unfold cIsi at p
  split at p
  · rename_i x n
    obtain ⟨v, v', rfl, r1, r2⟩ := RelDs.two_of r
    have e2 : v' = .ty n := r2
    subst e2
    split at p
    · rename_i m em
      split at p
      · rename_i b eb
        exact ⟨v, .ty n, .type m, .type n, b, rfl, .ty n, D.ty_ok ok r1 em, kit_ty eb, post_s p ok rfl⟩
      · exact p.elim
    · exact p.elim
  · exact p.elim
end
end Q3

/-! Q3: zip of two things, each a list, a tuple or a text. -/
namespace Q3
open PySem PySem.Spec PyProof.Rows L2

inductive ZK where
  | l (a : Addr) | t (a : Addr) | s (x : Str)
def ZK.v : ZK → V
  | .l a => .ref a
  | .t a => .ref a
  | .s x => .str x
/-- its items -/
def ZV (K : PySem.W.Frag) (H : Hp) (vs : List V) : ZK → Prop
  | .l a => SqL K H a vs
  | .t a => SqT K H a vs
  | .s x => vs = x.cps.toList.map fun c => V.str ⟨#[c]⟩
/-- an iterator over it, by its own cell -/
def ZI (it : Addr) (i : Nat) (h : Heap) : ZK → Value → Prop
  | .l a, _ => h.IsListIter it a i
  | .t a, _ => h.IsTupleIter it a i
  | .s x, u => ∃ t, u = .str x t ∧ h.IsStrIter it (strIterType x) x t i
def zo : ZK → Value → Obj
  | .l a, _ => { cls := .type "list_iterator", data := .fields #[.ref a, .int 0 0] }
  | .t a, _ => { cls := .type "tuple_iterator", data := .fields #[.ref a, .int 0 0] }
  | .s x, u => { cls := .type (strIterType x), data := .fields #[u, .int 0 0] }
theorem ZI.at {k : ZK} {u : Value} {it : Addr} {i : Nat} {h h' : Heap} (z : ZI it i h k u) (e : ∀ o, h.get? it = some o → h'.get? it = some o) : ZI it i h' k u := by
  cases k with
  | l a => exact Heap.IsListIter.at z fun o q => e o q
  | t a => exact Heap.IsTupleIter.at z fun o q => e o q
  | s x =>
    obtain ⟨t, hu, o, q, c⟩ := z
    exact ⟨t, hu, o, e o q, c⟩
theorem ZI.obj {k : ZK} {u : Value} {it : Addr} {i : Nat} {h : Heap} (z : ZI it i h k u) : ∃ o, h.get? it = some o ∧ ∀ c, o.data ≠ .cell c := by
  cases k with
  | l a =>
    obtain ⟨o, e, _, d⟩ := z
    exact ⟨o, e, fun c q => by rw [d] at q; cases q⟩
  | t a =>
    obtain ⟨o, e, _, d⟩ := z
    exact ⟨o, e, fun c q => by rw [d] at q; cases q⟩
  | s x =>
    obtain ⟨t, _, o, e, _, d⟩ := z
    exact ⟨o, e, fun c q => by rw [d] at q; cases q⟩
section
variable {X : Cx} {pins : List (Addr × Obj)} {σ : L2.St} {H : Hp} {s : Shared}
theorem vals_back {vs : List V} {its : List Value} (rv : Vals vs its) {j : Nat} {x : Value} (e : its.toArray[j]? = some x) : ∃ y, vs[j]? = some y ∧ RelV y x := by
  have e : its[j]? = some x := by simpa using e
  cases q : vs[j]? with
  | none => rw [rv.none_of q] at e; cases e
  | some y =>
    obtain ⟨x', e', ry⟩ := rv.get q
    rw [e] at e'
    cases e'
    exact ⟨y, rfl, ry⟩
/-- what can be drawn of it now -/
theorem zv_draw (I : Inv X pins σ H s) {k : ZK} {vs : List V} {u : Value} (z : ZV X.K H vs k) {A : Around} (hh : A.handled = none) {it : Addr} (ne : ∀ a, k.v = .ref a → a ≠ it) {i : Nat} (zi : ZI it i s.heap k u) :
    ∃ (fp : List Addr) (P : Nat → Value → Prop) (St : Nat → Heap → Prop), Draws X.prog X.w A it fp vs.length P St ∧ St i s.heap ∧ (∀ j h, St j h → ZI it j h k u) ∧ (∀ j x, P j x → ∃ y, vs[j]? = some y ∧ RelV y x) ∧ it ∈ fp ∧ ∀ b ∈ fp, b = it ∨ k.v = .ref b := by
  cases k with
  | l a =>
    obtain ⟨its, rv, p, _⟩ := I.list z
    refine ⟨[it, a], fun j x => its.toArray[j]? = some x, fun j h => h.IsListIter it a j ∧ h.IsList a its.toArray, ?_, ⟨zi, p.isList⟩, fun j h q => q.1, fun j x e => vals_back rv e, by simp, fun b hb => ?_⟩
    · have d := Draws.list (prog := X.prog) (w := X.w) hh it a (ne a rfl) its.toArray
      rw [List.size_toArray, ← rv.length] at d
      exact d
    · have e : b = it ∨ b = a := by simpa using hb
      rcases e with e | e
      · exact .inl e
      · exact .inr (by rw [e]; rfl)
  | t a =>
    obtain ⟨its, rv, p, _⟩ := I.tuple z
    refine ⟨[it, a], fun j x => its.toArray[j]? = some x, fun j h => h.IsTupleIter it a j ∧ h.IsTuple a its.toArray, ?_, ⟨zi, p⟩, fun j h q => q.1, fun j x e => vals_back rv e, by simp, fun b hb => ?_⟩
    · have d := Draws.tuple (prog := X.prog) (w := X.w) hh it a (ne a rfl) its.toArray
      rw [List.size_toArray, ← rv.length] at d
      exact d
    · have e : b = it ∨ b = a := by simpa using hb
      rcases e with e | e
      · exact .inl e
      · exact .inr (by rw [e]; rfl)
  | s x =>
    obtain ⟨t, rfl, zi⟩ := zi
    have e : vs = x.cps.toList.map fun c => V.str ⟨#[c]⟩ := z
    subst e
    refine ⟨[it], fun j v => ∃ c u, x.cps[j]? = some c ∧ v = .str ⟨#[c]⟩ u, fun j h => h.IsStrIter it (strIterType x) x t j, ?_, zi, fun j h q => ⟨t, rfl, q⟩, fun j v q => ?_, by simp, fun b hb => .inl (by simpa using hb)⟩
    · have d := Draws.text (prog := X.prog) (w := X.w) hh it x t
      rw [List.length_map, Array.length_toList]
      exact d
    · obtain ⟨c, t', e, rfl⟩ := q
      refine ⟨.str ⟨#[c]⟩, ?_, t', rfl⟩
      rw [List.getElem?_map, Array.getElem?_toList, e]
      rfl
theorem zv_begin (I : Inv X pins σ H s) {k : ZK} {vs : List V} {u : Value} (z : ZV X.K H vs k) (r : RelV k.v u) :
    ∃ Hb : Heap → Prop, Begins u (zo k u) Hb ∧ Hb s.heap ∧ (∀ it h, h.get? it = some (zo k u) → ZI it 0 h k u) ∧ ∀ a, k.v = .ref a → a < s.heap.objs.size := by
  cases k with
  | l a =>
    obtain ⟨its, rv, p, _⟩ := I.list z
    cases (show u = Value.ref a from r)
    exact ⟨_, begins_list a its.toArray, p.isList, fun it h e => ⟨_, e, rfl, rfl⟩, fun b e => by cases e; exact p.lt⟩
  | t a =>
    obtain ⟨its, rv, p, _⟩ := I.tuple z
    cases (show u = Value.ref a from r)
    obtain ⟨o, ho, _⟩ := id p
    exact ⟨_, begins_tuple a its.toArray, p, fun it h e => ⟨_, e, rfl, rfl⟩, fun b e => by cases e; exact Heap.lt_size ho⟩
  | s x =>
    obtain ⟨t, rfl⟩ := r
    exact ⟨_, begins_text x t, trivial, fun it h e => ⟨t, rfl, _, e, rfl, rfl⟩, fun b e => by cases e⟩
end
theorem far_ne {a n : Nat} (h : a < n) : a ≠ n + 4 ∧ a ≠ n + 3 ∧ a ≠ n ∧ a ≠ n + 1 := by omega
/-- new pairs of their items -/
def ItzG (K : PySem.W.Frag) (k1 k2 : ZK) (xs ys : List V) : It :=
  ⟨fun i H => ZV K H xs k1 ∧ ZV K H ys k2 ∧ i < min xs.length ys.length,
    fun i H v H' => ∃ T x y, v = .ref T ∧ H T = none ∧ H' = upd H T (.tup [x, y]) ∧ xs[i]? = some x ∧ ys[i]? = some y,
    fun i H => ZV K H xs k1 ∧ ZV K H ys k2 ∧ i = min xs.length ys.length⟩
theorem ZI.live {k : ZK} {u : Value} {it : Addr} {i : Nat} {h : Heap} (z : ZI it i h k u) : it < h.objs.size := by
  obtain ⟨o, e, _⟩ := z.obj
  exact Heap.lt_size e
/-- the five cells lie apart from each other and from what is walked -/
structure ZA (z TI TO i1 i2 : Addr) (k1 k2 : ZK) : Prop where
  TIz : TI ≠ z
  TOz : TO ≠ z
  TITO : TI ≠ TO
  TIi1 : TI ≠ i1
  TIi2 : TI ≠ i2
  TOi1 : TO ≠ i1
  TOi2 : TO ≠ i2
  zi1 : z ≠ i1
  zi2 : z ≠ i2
  i12 : i1 ≠ i2
  k1 : ∀ a, k1.v = .ref a → a ≠ z ∧ a ≠ TO ∧ a ≠ i1 ∧ a ≠ i2
  k2 : ∀ a, k2.v = .ref a → a ≠ z ∧ a ≠ TO ∧ a ≠ i1 ∧ a ≠ i2
theorem ZA.sep {z TI TO i1 i2 : Addr} {k1 k2 : ZK} (D : ZA z TI TO i1 i2 k1 k2) {fp1 fp2 : List Addr} (m1 : i1 ∈ fp1) (m2 : i2 ∈ fp2) (s1 : ∀ b ∈ fp1, b = i1 ∨ k1.v = .ref b) (s2 : ∀ b ∈ fp2, b = i2 ∨ k2.v = .ref b) : ZipSep2 z TI TO i1 i2 fp1 fp2 where
  TIz := D.TIz
  TOz := D.TOz
  TITO := D.TITO
  TIi1 := D.TIi1
  mem1 := m1
  zf1 := fun h => (s1 _ h).elim D.zi1 fun e => (D.k1 _ e).1 rfl
  Tf1 := fun h => (s1 _ h).elim D.TOi1 fun e => (D.k1 _ e).2.1 rfl
  TIi2 := D.TIi2
  mem2 := m2
  zf2 := fun h => (s2 _ h).elim D.zi2 fun e => (D.k2 _ e).1 rfl
  Tf2 := fun h => (s2 _ h).elim D.TOi2 fun e => (D.k2 _ e).2.1 rfl
  sep1_2 := fun h => (s2 _ h).elim D.i12 fun e => (D.k2 _ e).2.2.1 rfl
  sep2_1 := fun h => (s1 _ h).elim (fun e => D.i12 e.symm) fun e => (D.k1 _ e).2.2.2 rfl
theorem turn_zipG {P : Program} {w : World} {K : PySem.W.Frag} {elts : List Expr} {kk : Nat} {tpos : Pos} {z TI TO i1 i2 : Addr} {k1 k2 : ZK} {u1 u2 : Value} {xs ys : List V} (D : ZA z TI TO i1 i2 k1 k2) :
    Turn P w K (.Tuple elts kk tpos) (ItzG K k1 k2 xs ys) [z, TI, TO, i1, i2] z (fun i h => IsZip h z TI TO .none ∧ IsTupOf2 h TI (.ref i1) (.ref i2) ∧ (∃ x y, IsTupOf2 h TO x y) ∧ ZI i1 i h k1 u1 ∧ ZI i2 i h k2 u2) where
  mem := by simp
  obj := fun i h st c hc => by
    obtain ⟨hz, hTI, ⟨x, y, hTO⟩, h1, h2⟩ := st
    have e' : c = z ∨ c = TI ∨ c = TO ∨ c = i1 ∨ c = i2 := by simpa using hc
    rcases e' with q | q | q | q | q
    · rw [q]; exact ⟨_, hz, fun v q => nomatch q⟩
    · rw [q]; exact ⟨_, hTI, fun v q => nomatch q⟩
    · rw [q]; exact ⟨_, hTO, fun v q => nomatch q⟩
    · rw [q]; exact h1.obj
    · rw [q]; exact h2.obj
  keep := fun i h h' st k => by
    obtain ⟨hz, hTI, ⟨x, y, hTO⟩, h1, h2⟩ := st
    exact ⟨k z (by simp) _ hz, k TI (by simp) _ hTI, ⟨x, y, k TO (by simp) _ hTO⟩, h1.at fun o q => k i1 (by simp) o q, h2.at fun o q => k i2 (by simp) o q⟩
  item := by
    intro X hP hw hK hc i pins s σ H E I hf st hg
    subst hP hw hK
    obtain ⟨hz, hTI, ⟨x0, y0, hTO⟩, h1, h2⟩ := st
    obtain ⟨z1, z2, hlt⟩ := hg
    have hh : X.A.in1.handled = none := I.ok.hd hc
    obtain ⟨fp1, P1, St1, D1, s1, b1, g1, m1, f1⟩ := zv_draw I z1 hh (fun a e => (D.k1 a e).2.2.1) h1
    obtain ⟨fp2, P2, St2, D2, s2, b2, g2, m2, f2⟩ := zv_draw I z2 hh (fun a e => (D.k2 a e).2.2.2) h2
    have hzl : z < s.heap.objs.size := Heap.lt_size hz
    have S := D.sep m1 m2 f1 f2
    refine wpAny_pyNext_zipD2_item S D1 D2 hz hTI hTO s1 s2 (by omega) (by omega) fun x1 x2 h' tk y1 y2 z' TO' t1 t2 hT hsz hk => ?_
    obtain ⟨v1, e1, r1⟩ := g1 i x1 y1
    obtain ⟨v2, e2, r2⟩ := g2 i x2 y2
    refine ⟨_, rfl, wpAny_letOwnedTupleGo_zip (s := { s with heap := h', toks := tk }) z' fun h'' z'' sb => ?_⟩
    have hT2 : h''.get? s.heap.objs.size = some { cls := .type "tuple", data := .seq #[x1, x2] } := (sb.2 _ (Nat.ne_of_gt hzl)).trans hT
    have new : ObjOk X.prog X.w (upd H s.heap.objs.size (.tup [v1, v2])) h'' s.heap.objs.size (.tup [v1, v2]) :=
      ⟨by show 2 ≤ sizeLine; decide, [x1, x2], .cons r1 (.cons r2 .nil), ⟨_, hT2, rfl, _, rfl⟩⟩
    have I1 : Inv X pins σ (upd H s.heap.objs.size (.tup [v1, v2])) { s with heap := h'', toks := tk } :=
      I.turnedNew (t' := tk) (ch := [z, TI, TO, i1, i2]) (fun c o hb q => (sb.2 c (fun q' => hb (by simp [q']))).trans (hk c o (fun q' => hb (by simp [q'])) (fun q' => hb (by simp [q'])) (fun q' => hb (by simp [q'])) (fun q' => hb (by simp [q'])) q)) hf (Nat.le_refl _) new
    refine ⟨.ref s.heap.objs.size, _, I1, rfl, ⟨_, v1, v2, rfl, I.hok.fresh (Nat.le_refl _), rfl, e1, e2⟩, ⟨z'', ?_, ⟨x1, x2, ?_⟩, ?_, ?_⟩, fun c hcm => ?_⟩
    · exact (sb.2 _ D.TIz).trans (hk _ _ D.TIz D.TITO D.TIi1 D.TIi2 hTI)
    · exact (sb.2 _ D.TOz).trans TO'
    · exact (b1 _ _ t1).at fun o q => (sb.2 _ (Ne.symm D.zi1)).trans q
    · exact (b2 _ _ t2).at fun o q => (sb.2 _ (Ne.symm D.zi2)).trans q
    · have hlt : c < s.heap.objs.size := by
        have e' : c = z ∨ c = TI ∨ c = TO ∨ c = i1 ∨ c = i2 := by simpa using hcm
        rcases e' with q | q | q | q | q
        · rw [q]; exact hzl
        · rw [q]; exact Heap.lt_size hTI
        · rw [q]; exact Heap.lt_size hTO
        · rw [q]; exact h1.live
        · rw [q]; exact h2.live
      rw [upd_ne (Nat.ne_of_lt hlt)]
      exact (hf c hcm).1
  done := by
    intro X hP hw hK hc i pins s σ H E I hf st hg
    subst hP hw hK
    obtain ⟨hz, hTI, ⟨x0, y0, hTO⟩, h1, h2⟩ := st
    obtain ⟨z1, z2, hend⟩ := hg
    have hh : X.A.in1.handled = none := I.ok.hd hc
    obtain ⟨fp1, P1, St1, D1, s1, b1, g1, m1, f1⟩ := zv_draw I z1 hh (fun a e => (D.k1 a e).2.2.1) h1
    obtain ⟨fp2, P2, St2, D2, s2, b2, g2, m2, f2⟩ := zv_draw I z2 hh (fun a e => (D.k2 a e).2.2.2) h2
    have S := D.sep m1 m2 f1 f2
    exact wpAny_pyNext_zipD2_end S D1 D2 hz hTI hTO s1 s2 (by omega) (by omega) (by omega) fun h' tk hk => ⟨rfl, I.turnedL (t' := tk) (ch := [z, TI, TO, i1, i2]) (fun c o hb q =>
      hk c o (fun q' => hb (by simp [q'])) (fun q' => hb (by simp [q'])) (fun q' => hb (by simp [q'])) (fun q' => hb (by simp [q'])) q) hf⟩
  self := fun A i s Q E st h => wpAny_pyIter_zip st.1 h

def iZipG (K : PySem.W.Frag) (ta : TA) : TI := fun σ H R => ta σ H fun vs H1 => ∃ k1 k2 xs ys, vs = [k1.v, k2.v] ∧ ZV K H1 xs k1 ∧ ZV K H1 ys k2 ∧ R (ItzG K k1 k2 xs ys) H1
theorem pi_zipG {X : Cx} {e e2 : Expr} {ta : TA} {p pos tpos : Pos} {elts : List Expr} {kk : Nat} (hg : Gl X "zip") (hm : X.mg "zip" = none) (ha : PA X [e, e2] ta)
    (hs : starEach [e, e2] X.env = (false, eval e X.env) :: starEach [e2] X.env := by rfl) (hpl : (backTo pos (starEach [e2] X.env)).any (·.1) = false := by rfl) :
    PI X (.Tuple elts kk tpos) (.Call (.Name "zip" p) [e, e2] [] pos) (iZipG X.K ta) := by
  refine ⟨fun pins s σ H R I h => ?_⟩
  refine Call_ (ld_blt I hg hm PyProof.Rows.boot_zip (PyProof.Rows.callWith_type1 (thn (ha.run pos pins s σ H _ I h) fun us s1 ⟨vs, H1, I1, r1, q1⟩ => ?_) hs hpl))
  obtain ⟨k1, k2, xs, ys, ex, z1, z2, q⟩ := q1
  subst ex
  cases r1 with
  | cons r rr =>
    cases rr with
    | cons r' rr =>
      cases rr
      have fresh5 : ∀ c, c ∈ [s1.heap.objs.size + 4, s1.heap.objs.size + 2, s1.heap.objs.size + 3, s1.heap.objs.size, s1.heap.objs.size + 1] → FpOk X pins H1 c := fun c hcm => by
        have e' : c = s1.heap.objs.size + 4 ∨ c = s1.heap.objs.size + 2 ∨ c = s1.heap.objs.size + 3 ∨ c = s1.heap.objs.size ∨ c = s1.heap.objs.size + 1 := by simpa using hcm
        have hle : s1.heap.objs.size ≤ c := by
          rcases e' with z | z | z | z | z
          · rw [z]; exact Nat.le_add_right _ _
          · rw [z]; exact Nat.le_add_right _ _
          · rw [z]; exact Nat.le_add_right _ _
          · rw [z]; exact Nat.le_refl _
          · rw [z]; exact Nat.le_add_right _ _
        exact I1.fpOk hle (I1.hok.fresh hle)
      obtain ⟨Hb1, B1, hb1, zi1, lt1⟩ := zv_begin I1 z1 r
      obtain ⟨Hb2, B2, hb2, zi2, lt2⟩ := zv_begin I1 z2 r'
      refine zip_begins2 B1 B2 hb1 hb2 fun h' hz hTI hTO h1 h2 hsz hk => wpAny_pyIter_zip hz ?_
      have I2 : Inv X pins σ H1 { s1 with heap := h' } := I1.kept (t' := s1.toks) hk
      have ap : ∀ n : Nat, ∀ k : ZK, (∀ a, k.v = .ref a → a < n) → ∀ a, k.v = .ref a → a ≠ n + 4 ∧ a ≠ n + 3 ∧ a ≠ n ∧ a ≠ n + 1 := fun n k hk a e => far_ne (hk a e)
      have far : ∀ n : Nat, ZA (n + 4) (n + 2) (n + 3) n (n + 1) (.s default) (.s default) := fun n => by
        constructor <;> first | (intro z; exact absurd (show (_ : Nat) = _ from z) (by omega)) | (intro a e; cases e)
      have f := far s1.heap.objs.size
      have DA : ZA (s1.heap.objs.size + 4) (s1.heap.objs.size + 2) (s1.heap.objs.size + 3) s1.heap.objs.size (s1.heap.objs.size + 1) k1 k2 :=
        ⟨f.TIz, f.TOz, f.TITO, f.TIi1, f.TIi2, f.TOi1, f.TOi2, f.zi1, f.zi2, f.i12, ap _ k1 lt1, ap _ k2 lt2⟩
      exact ⟨s1.heap.objs.size + 4, [s1.heap.objs.size + 4, s1.heap.objs.size + 2, s1.heap.objs.size + 3, s1.heap.objs.size, s1.heap.objs.size + 1], _, _, H1, rfl, I2, turn_zipG DA, ⟨hz, hTI, ⟨_, _, hTO⟩, zi1 _ _ h1, zi2 _ _ h2⟩, fresh5, q⟩

/-! what it gives to a loop -/
def zipD (st : Store) : D → Option (List D)
  | .tup ds => some ds
  | .str z => some (z.cps.toList.map fun c => .str ⟨#[c]⟩)
  | .ro ds => some ds
  | .rk ds => some ds
  | _ => none
def zip2 (st1 : Store) (xs : List D) : R Src := match xs with
  | [x, y] => match zipD st1 x, zipD st1 y with
    | some a, some b => .ok (.val ((a.zip b).map fun p => .tup [p.1, p.2])) st1
    | _, _ => .bad
  | _ => .bad
def fiZip (fa : MA) : MI := fun σ st => (fa σ st).bind fun xs st1 => zip2 st1 xs
section
variable {K : PySem.W.Frag} {W : WX} {w : Wd} {H : Hp} {st : Store}
theorem RelDs.strs {l : List Nat} : RelDs K w H (l.map fun c => .str ⟨#[c]⟩) (l.map fun c => V.str ⟨#[c]⟩) := by
  induction l with
  | nil => rfl
  | cons a l ih => exact ⟨_, _, rfl, rfl, ih⟩
theorem zipD_ok (ok : WOk K H w st) {d : D} {v : V} {ds : List D} (r : RelD K w H d v) (e : zipD st d = some ds) :
    ∃ k vs, v = ZK.v k ∧ RelDs K w H ds vs ∧ ∀ w' H' st', Up K w H w' H' → WOk K H' w' st' → ZV K H' vs k ∧ RelDs K w' H' ds vs := by
  cases d with
  | tup es =>
    cases e
    obtain ⟨a, vs, rfl, h1, h2⟩ := r
    exact ⟨.t a, vs, rfl, h2, fun w' H' st' ex ok' => ⟨ex.t _ _ h1, RelDs.up ex _ _ h2⟩⟩
  | str z =>
    cases e
    cases (show v = .str z from r)
    exact ⟨.s z, _, rfl, RelDs.strs, fun w' H' st' ex ok' => ⟨rfl, RelDs.strs⟩⟩
  | ro es =>
    cases e
    obtain ⟨a, vs, rfl, hr, h1, h2⟩ := r
    exact ⟨.l a, vs, rfl, h2, fun w' H' st' ex ok' => ⟨.inl (.inl (ex.r _ _ hr h1).2), RelDs.up ex _ _ h2⟩⟩
  | rk es =>
    cases e
    obtain ⟨a, vs, rfl, h1, h2⟩ := r
    exact ⟨.l a, vs, rfl, h2, fun w' H' st' ex ok' => ⟨(ex.k _ _ h1).sq, RelDs.up ex _ _ h2⟩⟩
  | _ => cases e
theorem li_zip {t : TA} {fa : MA} (ha : LA K W t fa) : LI K W (iZipG K t) (fiZip fa) := by
  intro w H σ σd st Rq ok sl p
  refine ha w H σ σd st _ ok sl ?_
  unfold fiZip at p
  cases e : fa σd st with
  | exc x st1 => rw [e] at p; exact p
  | bad => rw [e] at p; exact p
  | ok xs st1 =>
    rw [e] at p
    intro w1 H1 vs e1 ok1 r1
    have p : PostI K w H (zip2 st1 xs) Rq _ := p
    unfold zip2 at p
    split at p
    · rename_i x y
      split at p
      · rename_i a b ea eb
        obtain ⟨v1, v2, rfl, rx, ry⟩ := RelDs.two_of r1
        obtain ⟨k1, us1, rfl, ra, za⟩ := zipD_ok ok1 rx ea
        obtain ⟨k2, us2, rfl, rb, zb⟩ := zipD_ok ok1 ry eb
        refine ⟨k1, k2, us1, us2, rfl, (za w1 H1 st1 (Up.refl _ _) ok1).1, (zb w1 H1 st1 (Up.refl _ _) ok1).1, p w1 H1 _ e1 ok1 fun w2 H2 st2 e2 ok2 _ => ⟨fun i d hd => ?_, ?_⟩⟩
        · have hd : ((a.zip b).map fun p => D.tup [p.1, p.2])[i]? = some d := hd
          rw [List.getElem?_map] at hd
          cases q : (a.zip b)[i]? with
          | none => rw [q] at hd; cases hd
          | some pr =>
            rw [q] at hd
            cases hd
            obtain ⟨qa, qb⟩ := List.getElem?_zip_eq_some.mp q
            obtain ⟨z1, r1'⟩ := za w2 H2 st2 e2 ok2
            obtain ⟨z2, r2'⟩ := zb w2 H2 st2 e2 ok2
            have la := (List.getElem?_eq_some_iff.mp qa).1
            have lb := (List.getElem?_eq_some_iff.mp qb).1
            rw [r1'.length] at la
            rw [r2'.length] at lb
            refine ⟨⟨z1, z2, by omega⟩, fun v H3 hy => ?_⟩
            obtain ⟨T, x', y', rfl, nT, rfl, ex, ey⟩ := hy
            obtain ⟨x2, ex2, rx2⟩ := r1'.get qa
            obtain ⟨y2, ey2, ry2⟩ := r2'.get qb
            rw [ex2] at ex
            rw [ey2] at ey
            cases ex
            cases ey
            have en : Ext w2 H2 w2 (upd H2 T (.tup [x', y'])) := Ext.upd_new nT
            exact ⟨en, ok2.upd_new nT, ⟨T, _, rfl, .inl (.inl upd_same), _, _, rfl, RelD.mono en ok2 _ _ rx2, RelDs.one (RelD.mono en ok2 _ _ ry2)⟩⟩
        · obtain ⟨z1, r1'⟩ := za w2 H2 st2 e2 ok2
          obtain ⟨z2, r2'⟩ := zb w2 H2 st2 e2 ok2
          refine ⟨z1, z2, ?_⟩
          show ((a.zip b).map fun p => D.tup [p.1, p.2]).length = _
          rw [List.length_map, List.length_zip, r1'.length, r2'.length]
      · exact p.elim
    · exact p.elim
end
end Q3

/-! Q3: what is walked, methods, stores, comprehensions with two fors, tables of the module. -/
namespace Q3
open PySem PySem.Spec PyProof.Rows L2

section
variable {K : PySem.W.Frag} {W : WX} {w : Wd} {H : Hp} {st : Store} {ta tb te : TE} {fa fb fe : ME}
/-! ### what is walked -/
theorem deliver_list {a : Addr} {ds : List D} (src : Src) (hs : src.items = ds) (hq : ∀ w' H' st', Up K w H w' H' → WOk K H' w' st' → src.okAt st' → ∃ vs, SqL K H' a vs ∧ RelDs K w' H' ds vs) : Deliver K w H (Itl K a) src := by
  intro w' H' st' e ok' hst
  obtain ⟨vs, q, r⟩ := hq w' H' st' e ok' hst
  subst hs
  refine ⟨fun i d hd => ?_, ⟨vs, q, by rw [← r.length]; exact Nat.le_refl _⟩⟩
  obtain ⟨v, hv, rv⟩ := r.get hd
  refine ⟨⟨vs, v, q, hv⟩, fun x H2 y => ?_⟩
  obtain ⟨rfl, y⟩ := y
  have := y vs q
  rw [hv] at this
  cases this
  exact ⟨Ext.refl _ _, ok', rv⟩
theorem deliver_tup {a : Addr} {ds : List D} {vs : List V} (hq : ∀ w' H' st', Up K w H w' H' → WOk K H' w' st' → SqT K H' a vs ∧ RelDs K w' H' ds vs) : Deliver K w H (Itt K a) (.val ds) := by
  intro w' H' st' e ok' _
  obtain ⟨q, r⟩ := hq w' H' st' e ok'
  refine ⟨fun i d hd => ?_, ⟨vs, q, by rw [← r.length]; exact Nat.le_refl _⟩⟩
  obtain ⟨v, hv, rv⟩ := r.get hd
  refine ⟨⟨vs, v, q, hv⟩, fun x H2 y => ?_⟩
  obtain ⟨rfl, y⟩ := y
  have := y vs q
  rw [hv] at this
  cases this
  exact ⟨Ext.refl _ _, ok', rv⟩
abbrev strD (z : Str) : List D := z.cps.toList.map fun c => .str ⟨#[c]⟩
theorem deliver_str {z : Str} : Deliver K w H (Its z) (.val (strD z)) := by
  intro w' H' st' e ok' _
  refine ⟨fun i d hd => ?_, ?_⟩
  · have hd : (strD z)[i]? = some d := hd
    unfold strD at hd
    rw [List.getElem?_map, Array.getElem?_toList] at hd
    cases q : z.cps[i]? with
    | none => rw [q] at hd; cases hd
    | some c =>
      rw [q] at hd
      cases hd
      refine ⟨(Array.getElem?_eq_some_iff.mp q).1, fun x H2 y => ?_⟩
      obtain ⟨rfl, c', e', rfl⟩ := y
      rw [q] at e'
      cases e'
      exact ⟨Ext.refl _ _, ok', rfl⟩
  · show z.cps.size ≤ (strD z).length
    unfold strD
    rw [List.length_map, Array.length_toList]
    exact Nat.le_refl _
def seqSrc (st : Store) (d : D) : R Src := match d with
  | .tup ds => .ok (.val ds) st
  | .str z => .ok (.val (strD z)) st
  | .ro ds => .ok (.val ds) st
  | .rk ds => .ok (.val ds) st
  | .ref k => match st[k]? with
    | some (.lst ds) => .ok (.live k ds) st
    | _ => .bad
  | _ => .bad
def fiSeq (fe : ME) : MI := fun σ st => (fe σ st).bind fun x st1 => seqSrc st1 x.d
def iSeq (K : PySem.W.Frag) (te : TE) : TI := fun σ H R => iList K te σ H R ∨ iTup K te σ H R ∨ iStr te σ H R
theorem pi_seq {X : Cx} {tg e : Expr} {te : TE} (h : PE X e te) : PI X tg e (iSeq X.K te) := ⟨fun pins s σ H R I q => by
  rcases q with q | q | q
  · exact (pi_list h).run pins s σ H R I q
  · exact (pi_tup h).run pins s σ H R I q
  · exact (pi_str h).run pins s σ H R I q⟩
theorem li_seq (he : LE K W te fe) : LI K W (iSeq K te) (fiSeq fe) := by
  intro w H σ σd st Rq ok sl p
  unfold fiSeq at p
  cases e : fe σd st with
  | exc x st1 =>
    rw [e] at p
    refine .inl (he.d ok sl ?_)
    rw [e]
    exact p
  | bad => rw [e] at p; exact p.elim
  | ok x st1 =>
    rw [e] at p
    have p : PostI K w H (seqSrc st1 x.d) Rq _ := p
    generalize hd : x.d = d at p
    cases d with
    | tup ds =>
      refine .inr (.inl (he.d ok sl ?_))
      rw [e]
      intro w1 H1 v e1 ok1 r1
      rw [hd] at r1
      obtain ⟨a, vs, rfl, h1, h2⟩ := r1
      exact ⟨a, rfl, ⟨vs, h1⟩, p w1 H1 _ e1 ok1 (deliver_tup fun w' H' st' ex ok' => ⟨ex.t _ _ h1, RelDs.up ex _ _ h2⟩)⟩
    | str z =>
      refine .inr (.inr (he.d ok sl ?_))
      rw [e]
      intro w1 H1 v e1 ok1 r1
      rw [hd] at r1
      exact ⟨z, r1, p w1 H1 _ e1 ok1 deliver_str⟩
    | ro ds =>
      refine .inl (he.d ok sl ?_)
      rw [e]
      intro w1 H1 v e1 ok1 r1
      rw [hd] at r1
      obtain ⟨a, vs, rfl, hr, h1, h2⟩ := r1
      exact ⟨a, rfl, ⟨vs, .inl (.inl h1)⟩, p w1 H1 _ e1 ok1 (deliver_list _ rfl fun w' H' st' ex ok' _ => ⟨vs, .inl (.inl (ex.r _ _ hr h1).2), RelDs.up ex _ _ h2⟩)⟩
    | rk ds =>
      refine .inl (he.d ok sl ?_)
      rw [e]
      intro w1 H1 v e1 ok1 r1
      rw [hd] at r1
      obtain ⟨a, vs, rfl, h1, h2⟩ := r1
      exact ⟨a, rfl, ⟨vs, h1.sq⟩, p w1 H1 _ e1 ok1 (deliver_list _ rfl fun w' H' st' ex ok' _ => ⟨vs, (ex.k _ _ h1).sq, RelDs.up ex _ _ h2⟩)⟩
    | ref k =>
      refine .inl (he.d ok sl ?_)
      rw [e]
      intro w1 H1 v e1 ok1 r1
      rw [hd] at r1
      obtain ⟨a, rfl, ha⟩ := r1
      unfold seqSrc at p
      obtain ⟨so, es, ro⟩ := ok1.at ha
      simp only [es] at p
      cases so with
      | lst ds =>
        obtain ⟨vs, h1, h2⟩ := ro
        refine ⟨a, rfl, ⟨vs, .inl (.inl h1)⟩, p w1 H1 _ e1 ok1 (deliver_list (.live k ds) rfl fun w' H' st' ex ok' hst => ?_)⟩
        obtain ⟨so', es', ro'⟩ := ok'.at (ex.p k a ha)
        have hst : st'[k]? = some (.lst ds) := hst
        rw [hst] at es'
        cases es'
        obtain ⟨vs', h1', h2'⟩ := ro'
        exact ⟨vs', .inl (.inl h1'), h2'⟩
      | _ => exact p.elim
    | _ => exact p.elim
/-- range -/
def rngD (lo : Int) (n : Nat) : List D := (List.range n).map fun (i : Nat) => .int (lo + (i : Int))
theorem deliver_range {lo : Int} {n : Nat} : Deliver K w H (Itr lo n) (.val (rngD lo n)) := by
  intro w' H' st' e ok' _
  refine ⟨fun i d hd => ?_, ?_⟩
  · have hd : (rngD lo n)[i]? = some d := hd
    unfold rngD at hd
    rw [List.getElem?_map] at hd
    by_cases hi : i < n
    · rw [List.getElem?_range hi] at hd
      cases hd
      refine ⟨hi, fun x H2 y => ?_⟩
      obtain ⟨rfl, rfl⟩ := y
      exact ⟨Ext.refl _ _, ok', rfl⟩
    · rw [List.getElem?_eq_none (by simpa using hi)] at hd
      cases hd
  · show n ≤ (rngD lo n).length
    unfold rngD
    simp
def rng1 (st : Store) (xs : List D) : R Src := match xs with
  | [.int j] => if -(2 ^ 62) ≤ j ∧ j < 2 ^ 62 then .ok (.val (rngD 0 j.toNat)) st else .bad
  | _ => .bad
def rng2 (st : Store) (xs : List D) : R Src := match xs with
  | [.int i, .int j] => if -(2 ^ 62) ≤ i ∧ i < 2 ^ 62 ∧ -(2 ^ 62) ≤ j ∧ j < 2 ^ 62 then .ok (.val (rngD i (j - i).toNat)) st else .bad
  | _ => .bad
def fiRng1 (fa : MA) : MI := fun σ st => (fa σ st).bind fun xs st1 => rng1 st1 xs
def fiRng2 (fa : MA) : MI := fun σ st => (fa σ st).bind fun xs st1 => rng2 st1 xs
theorem li_rng1 {t : TA} {fr : MA} (ha : LA K W t fr) : LI K W (iRng1 t) (fiRng1 fr) := by
  intro w H σ σd st Rq ok sl p
  refine ha w H σ σd st _ ok sl ?_
  unfold fiRng1 at p
  cases e : fr σd st with
  | exc x st1 => rw [e] at p; exact p
  | bad => rw [e] at p; exact p
  | ok xs st1 =>
    rw [e] at p
    intro w1 H1 vs e1 ok1 r1
    have p : PostI K w H (rng1 st1 xs) Rq _ := p
    unfold rng1 at p
    split at p
    · rename_i j _
      obtain ⟨v, rfl, rv⟩ := RelDs.one_of r1
      cases (show v = .int j from rv)
      split at p
      · rename_i hz
        exact ⟨j, rfl, hz.1, hz.2, p w1 H1 _ e1 ok1 deliver_range⟩
      · exact p.elim
    · exact p.elim
theorem li_rng2 {t : TA} {fr : MA} (ha : LA K W t fr) : LI K W (iRng2 t) (fiRng2 fr) := by
  intro w H σ σd st Rq ok sl p
  refine ha w H σ σd st _ ok sl ?_
  unfold fiRng2 at p
  cases e : fr σd st with
  | exc x st1 => rw [e] at p; exact p
  | bad => rw [e] at p; exact p
  | ok xs st1 =>
    rw [e] at p
    intro w1 H1 vs e1 ok1 r1
    have p : PostI K w H (rng2 st1 xs) Rq _ := p
    unfold rng2 at p
    split at p
    · rename_i i j _
      obtain ⟨v, v', rfl, rv, rv'⟩ := RelDs.two_of r1
      cases (show v = .int i from rv)
      cases (show v' = .int j from rv')
      split at p
      · rename_i hz
        exact ⟨i, j, rfl, hz, p w1 H1 _ e1 ok1 deliver_range⟩
      · exact p.elim
    · exact p.elim

/-! ### methods of lists and texts -/
def fBML (op : D → List D → Store → R T) (fo : ME) (fr : MA) : ME := fun σ st => (fo σ st).bind fun x st1 => match lstR st1 x.d with
  | some _ => (fr σ st1).bind fun xs st2 => op x.d xs st2
  | none => .bad
def MtOk (K : PySem.W.Frag) (r : V → List V → Hp → VK → Prop) (op : D → List D → Store → R T) : Prop := ∀ w H st x xs vx vs Q E, WOk K H w st → RelD K w H x vx → RelDs K w H xs vs → PostE K w H (op x xs st) Q E → r vx vs H Q
theorem le_bml {to : TE} {fo : ME} {t : TA} {fr : MA} {r : V → List V → Hp → VK → Prop} {op : D → List D → Store → R T} (ho : LE K W to fo) (ha : LA K W t fr) (hm : MtOk K r op) : LE K W (tBM K "list" r to t) (fBML op fo fr) := by
  intro w H σ σd st Q ok sl p
  refine ho.d ok sl ?_
  unfold fBML at p
  cases e : fo σd st with
  | ok x st1 =>
    rw [e] at p
    intro w1 H1 v e1 ok1 r1
    have p : PostE K w H (match lstR st1 x.d with | some _ => (fr σd st1).bind fun xs st2 => op x.d xs st2 | none => .bad) Q _ := p
    split at p
    · rename_i ds eds
      obtain ⟨a, us, rfl, h1, h2⟩ := lstR_ok ok1 r1 eds
      refine ⟨.inl ⟨rfl, us, h1⟩, ha w1 H1 σ σd st1 _ ok1 (sl.mono e1 ok) ?_⟩
      cases e' : fr σd st1 with
      | ok xs st2 =>
        rw [e'] at p
        intro w2 H2 vs e2 ok2 r2
        exact hm w2 H2 st2 _ xs _ vs Q _ ok2 (RelD.mono e2 ok1 _ _ r1) r2 (PostE.shift (e1.trans e2) p)
      | exc x2 st2 =>
        rw [e'] at p
        exact fun w' H' cls dd f => p w' H' cls dd (e1.trans f)
      | bad => rw [e'] at p; exact p
    · exact p.elim
  | exc x st1 => rw [e] at p; exact p
  | bad => rw [e] at p; exact p
/-- a store's list becomes another -/
theorem post_setL (ok : WOk K H w st) {k : Nat} {a : Addr} {ds : List D} {vs : List V} {d : D} {v : V} {Q : VK} {E : XK} (ha : w.phi[k]? = some a) (r : RelDs K w H ds vs) (p : PostE K w H (okS d (st.set k (.lst ds))) Q E) (rv : RelD K w H d v) : Q v (upd H a (.lst vs)) := by
  have e : Ext w H w (upd H a (.lst vs)) := Ext.upd_phi (List.mem_of_getElem? ha)
  exact p w _ v e (ok.upd_phi ha ⟨vs, upd_same, RelDs.mono e ok _ _ r⟩) (RelD.mono e ok _ _ rv)
def opAppend (x : D) (xs : List D) (st : Store) : R T := match x, xs with
  | .ref k, [y] => (match st[k]? with
    | some (.lst ds) => if ds.length < sizeLine then okS .non (st.set k (.lst (ds ++ [y]))) else .bad
    | _ => .bad)
  | _, _ => .bad
theorem opAppend_ok : MtOk K rAppend opAppend := by
  intro w H st x xs vx vs Q E ok rx rs p
  unfold opAppend at p
  split at p
  · rename_i k y
    obtain ⟨v, rfl, rv⟩ := RelDs.one_of rs
    obtain ⟨a, rfl, ha⟩ := rx
    obtain ⟨so, es, ro⟩ := ok.at ha
    simp only [es] at p
    cases so with
    | lst ds =>
      obtain ⟨us, h1, h2⟩ := ro
      have p : PostE K w H (if ds.length < sizeLine then okS .non (st.set k (.lst (ds ++ [y]))) else .bad) Q E := p
      split at p
      · rename_i hz
        exact ⟨a, us, v, rfl, rfl, h1, by rw [← h2.length]; exact hz, post_setL (v := .non) ok ha (h2.append (RelDs.one rv)) p rfl⟩
      · exact p.elim
    | _ => exact p.elim
  · exact p.elim
def opExtend (x : D) (xs : List D) (st : Store) : R T := match x, xs with
  | .ref k, [y] => (match st[k]?, lstW st y with
    | some (.lst ds), some es => if ds.length + es.length ≤ sizeLine then okS .non (st.set k (.lst (ds ++ es))) else .bad
    | _, _ => .bad)
  | _, _ => .bad
theorem opExtend_ok : MtOk K rExtend opExtend := by
  intro w H st x xs vx vs Q E ok rx rs p
  unfold opExtend at p
  split at p
  · rename_i k y
    obtain ⟨v, rfl, rv⟩ := RelDs.one_of rs
    obtain ⟨a, rfl, ha⟩ := rx
    obtain ⟨so, es, ro⟩ := ok.at ha
    simp only [es] at p
    cases so with
    | lst ds =>
      obtain ⟨us, h1, h2⟩ := ro
      cases ey : lstW st y with
      | none => simp only [ey] at p; exact p.elim
      | some zs =>
        simp only [ey] at p
        obtain ⟨b, ws, rfl, h3, h4⟩ := lstW_ok ok rv ey
        split at p
        · rename_i hz
          exact ⟨a, b, us, ws, rfl, rfl, h1, h3, by rw [← h2.length, ← h4.length]; exact hz, post_setL (v := .non) ok ha (h2.append h4) p rfl⟩
        · exact p.elim
    | _ => exact p.elim
  · exact p.elim
/-- o[i] = e of a list -/
def setIx (x i y : D) (σ : DS) (st : Store) : RS := match x, i with
  | .ref k, .int j => (match st[k]? with
    | some (.lst ds) => (match ixN ds.length j with
      | some n => .nx σ (st.set k (.lst (ds.set n y)))
      | none => .bad)
    | _ => .bad)
  | _, _ => .bad
def mSetIx (fe fo fi : ME) : MS := fun σ st => (fe σ st).toS σ fun y st1 => (fo σ st1).toS σ fun x st2 => (fi σ st2).toS σ fun i st3 => setIx x.d i.d y.d σ st3
theorem ls_setIx {te to ti : TE} {fe fo fi : ME} (he : LE K W te fe) (ho : LE K W to fo) (hi : LE K W ti fi) : LS K W (tAsg te (gSub to ti rSetL)) (mSetIx fe fo fi) := by
  intro w H σ σd st D ok sl p
  refine he.d ok sl ?_
  unfold mSetIx at p
  cases e : fe σd st with
  | exc x st1 =>
    rw [e] at p
    exact fun w1 H1 cls dd e1 ok1 r1 => p w1 H1 σ cls dd e1 ok1 (sl.mono e1 ok) r1
  | bad => rw [e] at p; exact p
  | ok y st1 =>
    rw [e] at p
    intro w1 H1 vy e1 ok1 ry
    have sl1 := sl.mono e1 ok
    refine ho.d ok1 sl1 ?_
    have p : PostS K w H ((fo σd st1).toS σd fun x st2 => (fi σd st2).toS σd fun i st3 => setIx x.d i.d y.d σd st3) D W := p
    cases e' : fo σd st1 with
    | exc x st2 =>
      rw [e'] at p
      exact fun w2 H2 cls dd e2 ok2 r2 => p w2 H2 σ cls dd (e1.trans e2) ok2 (sl1.mono e2 ok1) r2
    | bad => rw [e'] at p; exact p
    | ok x st2 =>
      rw [e'] at p
      intro w2 H2 vx e2 ok2 rx
      have sl2 := sl1.mono e2 ok1
      refine hi.d ok2 sl2 ?_
      have p : PostS K w H ((fi σd st2).toS σd fun i st3 => setIx x.d i.d y.d σd st3) D W := p
      cases e'' : fi σd st2 with
      | exc x st3 =>
        rw [e''] at p
        exact fun w3 H3 cls dd e3 ok3 r3 => p w3 H3 σ cls dd ((e1.trans e2).trans e3) ok3 (sl2.mono e3 ok2) r3
      | bad => rw [e''] at p; exact p
      | ok i st3 =>
        rw [e''] at p
        intro w3 H3 vi e3 ok3 ri
        have sl3 := sl2.mono e3 ok2
        have p : PostS K w H (setIx x.d i.d y.d σd st3) D W := p
        have rx3 := RelD.mono e3 ok2 _ _ rx
        have ry3 := RelD.mono (e2.trans e3) ok1 _ _ ry
        unfold setIx at p
        split at p
        · rename_i k j ek ej
          rw [ek] at rx3
          rw [ej] at ri
          obtain ⟨a, rfl, ha⟩ := rx3
          cases (show vi = .int j from ri)
          obtain ⟨so, es, ro⟩ := ok3.at ha
          simp only [es] at p
          cases so with
          | lst ds =>
            obtain ⟨us, h1, h2⟩ := ro
            have p : PostS K w H (match ixN ds.length j with | some n => .nx σd (st3.set k (.lst (ds.set n y.d))) | none => .bad) D W := p
            split at p
            · rename_i n en
              have ex : Ext w3 H3 w3 (upd H3 a (.lst (us.set n vy))) := Ext.upd_phi (List.mem_of_getElem? ha)
              refine ⟨a, us, j, n, rfl, rfl, h1, by rw [← h2.length]; exact en, ?_⟩
              exact p w3 _ σ (((e1.trans e2).trans e3).trans ex) (ok3.upd_phi ha ⟨_, upd_same, RelDs.mono ex ok3 _ _ (RelDs.set ry3 n h2)⟩) (sl3.mono ex ok3)
            · exact p.elim
          | _ => exact p.elim
        · exact p.elim
/-- name op= e -/
def mAug (i : Nat) (op : D → D → Store → R T) (fe : ME) : MS := fun σ st => match σ[i]? with
  | some (some x) => (fe σ st).toS σ fun y st1 => (op x y.d st1).toS σ fun z st2 => .nx (σ.set i (some z.d)) st2
  | _ => .bad
theorem ls_aug {i : Nat} {te : TE} {fe : ME} {r : R2} {op : D → D → Store → R T} (he : LE K W te fe) (hop : OpOk K r op) (hx : ∀ x y st e st', op x y st ≠ .exc e st') : LS K W (tAug i te r) (mAug i op fe) := by
  intro w H σ σd st D ok sl p
  unfold mAug at p
  split at p
  · rename_i x hx0
    obtain ⟨vx, h1, rx⟩ := sl.2 i x hx0
    refine ⟨vx, h1, he.d ok sl ?_⟩
    cases e : fe σd st with
    | exc x st1 =>
      rw [e] at p
      exact fun w1 H1 cls dd e1 ok1 r1 => p w1 H1 σ cls dd e1 ok1 (sl.mono e1 ok) r1
    | bad => rw [e] at p; exact p
    | ok y st1 =>
      rw [e] at p
      intro w1 H1 vy e1 ok1 ry
      have sl1 := sl.mono e1 ok
      have p : PostS K w H ((op x y.d st1).toS σd fun z st2 => .nx (σd.set i (some z.d)) st2) D W := p
      refine hop w1 H1 st1 x y.d vx vy _ (fun _ _ _ => True) ok1 (RelD.mono e1 ok _ _ rx) ry (PostE.of_d ?_)
      cases e' : op x y.d st1 with
      | exc a b => exact absurd e' (hx _ _ _ _ _)
      | bad => rw [e'] at p; exact p
      | ok z st2 =>
        rw [e'] at p
        intro w2 H2 vz e2 ok2 rz
        exact p w2 H2 _ (e1.trans e2) ok2 ((sl1.mono e2 ok1).set rz i)
  · exact p.elim
/-- a, b = e1, e2 -/
def mPar (i j : Nat) (fr : MA) : MS := fun σ st => match fr σ st with
  | .ok [x, y] st1 => .nx ((σ.set i (some x)).set j (some y)) st1
  | .exc x st1 => .exc x σ st1
  | _ => .bad
theorem ls_par {i j : Nat} {t : TA} {fr : MA} (ha : LA K W t fr) : LS K W (tPar i j t) (mPar i j fr) := by
  intro w H σ σd st D ok sl p
  refine ha w H σ σd st _ ok sl ?_
  unfold mPar at p
  cases e : fr σd st with
  | exc x st1 =>
    simp only [e] at p
    exact fun w1 H1 cls dd e1 ok1 r1 => p w1 H1 σ cls dd e1 ok1 (sl.mono e1 ok) r1
  | bad => simp only [e] at p; exact p
  | ok xs st1 =>
    simp only [e] at p
    intro w1 H1 vs e1 ok1 r1
    match xs, p, r1 with
    | [x, y], p, r1 =>
      obtain ⟨v, v', rfl, rv, rv'⟩ := RelDs.two_of r1
      exact ⟨v, v', rfl, p w1 H1 _ e1 ok1 (((sl.mono e1 ok).set rv i).set rv' j)⟩
    | [], p, _ => exact p.elim
    | [_], p, _ => exact p.elim
    | _ :: _ :: _ :: _, p, _ => exact p.elim

/-! texts -/
def D.strs : List D → Option (List Str)
  | [] => some []
  | .str x :: r => (D.strs r).map (x :: ·)
  | _ :: _ => none
theorem D.strs_ok : ∀ {ds : List D} {ys : List Str} {vs : List V}, D.strs ds = some ys → RelDs K w H ds vs → vs = ys.map V.str
  | [], ys, vs, e, r => by
    cases e
    exact r
  | .str x :: ds, ys, vs, e, r => by
    obtain ⟨v, us, rfl, rv, rr⟩ := r
    cases (show v = .str x from rv)
    have e : (D.strs ds).map (x :: ·) = some ys := e
    cases q : D.strs ds with
    | none => rw [q] at e; cases e
    | some zs =>
      rw [q] at e
      cases e
      rw [D.strs_ok q rr]
      rfl
  | .non :: _, _, _, e, _ => by cases e
  | .bl _ :: _, _, _, e, _ => by cases e
  | .int _ :: _, _, _, e, _ => by cases e
  | .tup _ :: _, _, _, e, _ => by cases e
  | .ro _ :: _, _, _, e, _ => by cases e
  | .rk _ :: _, _, _, e, _ => by cases e
  | .ref _ :: _, _, _, e, _ => by cases e
  | .vv _ :: _, _, _, e, _ => by cases e
def opJoin (x y : D) (st : Store) : R T := match x with
  | .str a => (match lstR st y with
    | some ds => (match D.strs ds with
      | some ys => if (ys.map (·.length)).sum + ys.length * a.length ≤ 16777216 then okS (.str (Txt.join a ys)) st else .bad
      | none => .bad)
    | none => .bad)
  | _ => .bad
def fM1 (op : D → D → Store → R T) (fo fe : ME) : ME := fun σ st => (fo σ st).bind fun x st1 => match x.d with
  | .str a => (fe σ st1).bind fun y st2 => op (.str a) y.d st2
  | _ => .bad
def fM0 (op : D → Store → R T) (fo : ME) : ME := fun σ st => (fo σ st).bind fun x st1 => match x.d with
  | .str a => op (.str a) st1
  | _ => .bad
theorem le_m1 {to te : TE} {fo fe : ME} {r : V → List V → Hp → VK → Prop} {op : D → D → Store → R T} (ho : LE K W to fo) (he : LE K W te fe)
    (hm : ∀ w H st x y vx vy Q E, WOk K H w st → RelD K w H x vx → RelD K w H y vy → PostE K w H (op x y st) Q E → r vx [vy] H Q) : LE K W (tM1 r to te) (fM1 op fo fe) := by
  intro w H σ σd st Q ok sl p
  refine ho.d ok sl ?_
  unfold fM1 at p
  cases e : fo σd st with
  | ok x st1 =>
    rw [e] at p
    intro w1 H1 v e1 ok1 r1
    have p : PostE K w H (match x.d with | .str a => (fe σd st1).bind fun y st2 => op (.str a) y.d st2 | _ => .bad) Q _ := p
    generalize x.d = d at p r1
    cases d with
    | str a =>
      cases (show v = .str a from r1)
      refine ⟨⟨a, rfl⟩, he.d ok1 (sl.mono e1 ok) ?_⟩
      have p : PostE K w H ((fe σd st1).bind fun y st2 => op (.str a) y.d st2) Q _ := p
      cases e' : fe σd st1 with
      | ok y st2 =>
        rw [e'] at p
        intro w2 H2 vy e2 ok2 r2
        exact hm w2 H2 st2 (.str a) _ _ vy Q _ ok2 rfl r2 (PostE.shift (e1.trans e2) p)
      | exc x2 st2 =>
        rw [e'] at p
        exact fun w' H' cls dd f => p w' H' cls dd (e1.trans f)
      | bad => rw [e'] at p; exact p
    | _ => exact p.elim
  | exc x st1 => rw [e] at p; exact p
  | bad => rw [e] at p; exact p
theorem le_m0 {to : TE} {fo : ME} {r : V → List V → Hp → VK → Prop} {op : D → Store → R T} (ho : LE K W to fo)
    (hm : ∀ w H st x vx Q E, WOk K H w st → RelD K w H x vx → PostE K w H (op x st) Q E → r vx [] H Q) : LE K W (tM0 r to) (fM0 op fo) := by
  intro w H σ σd st Q ok sl p
  refine ho.d ok sl ?_
  unfold fM0 at p
  cases e : fo σd st with
  | ok x st1 =>
    rw [e] at p
    intro w1 H1 v e1 ok1 r1
    have p : PostE K w H (match x.d with | .str a => op (.str a) st1 | _ => .bad) Q _ := p
    generalize x.d = d at p r1
    cases d with
    | str a =>
      cases (show v = .str a from r1)
      exact ⟨⟨a, rfl⟩, hm w1 H1 st1 (.str a) _ Q _ ok1 rfl (PostE.shift e1 p)⟩
    | _ => exact p.elim
  | exc x st1 => rw [e] at p; exact p
  | bad => rw [e] at p; exact p
theorem opJoin_ok : ∀ w H st x y vx vy Q E, WOk K H w st → RelD K w H x vx → RelD K w H y vy → PostE K w H (opJoin x y st) Q E →
    (fun (x : V) (xs : List V) (H : Hp) (Q : VK) => ∃ a p, ∃ ys : List Str, x = .str a ∧ xs = [.ref p] ∧ (SqL K H p (ys.map V.str) ∨ SqT K H p (ys.map V.str)) ∧ (ys.map (·.length)).sum + ys.length * a.length ≤ 16777216 ∧ Q (.str (Txt.join a ys)) H) vx [vy] H Q := by
  intro w H st x y vx vy Q E ok rx ry p
  unfold opJoin at p
  split at p
  · rename_i a
    cases (show vx = .str a from rx)
    split at p
    · rename_i ds eds
      obtain ⟨b, vs, rfl, h1, h2⟩ := lstR_ok ok ry eds
      split at p
      · rename_i ys eys
        have ev := D.strs_ok eys h2
        subst ev
        split at p
        · rename_i hz
          exact ⟨a, b, ys, rfl, rfl, .inl h1, hz, post_s p ok rfl⟩
        · exact p.elim
      · exact p.elim
    · exact p.elim
  · exact p.elim
theorem RelDs.ofStrs {ys : List Str} : RelDs K w H (ys.map D.str) (ys.map V.str) := by
  induction ys with
  | nil => rfl
  | cons a l ih => exact ⟨_, _, rfl, rfl, ih⟩
def opSplit (x y : D) (st : Store) : R T := match x, y with
  | .str a, .str b => if (b.length == 0) = false ∧ a.length + 2 ≤ sizeLine then .ok (.l ((Txt.split a b).map D.str)) st else .bad
  | _, _ => .bad
theorem opSplit_ok : ∀ w H st x y vx vy Q E, WOk K H w st → RelD K w H x vx → RelD K w H y vy → PostE K w H (opSplit x y st) Q E →
    (fun (x : V) (xs : List V) (H : Hp) (Q : VK) => ∃ a b, x = .str a ∧ xs = [.str b] ∧ (b.length == 0) = false ∧ a.length + 2 ≤ sizeLine ∧ rNewStrs (Txt.split a b) H Q) vx [vy] H Q := by
  intro w H st x y vx vy Q E ok rx ry p
  unfold opSplit at p
  split at p
  · rename_i a b
    cases (show vx = .str a from rx)
    cases (show vy = .str b from ry)
    split at p
    · rename_i hz
      exact ⟨a, b, rfl, rfl, hz.1, hz.2, post_newL ok RelDs.ofStrs p⟩
    · exact p.elim
  · exact p.elim
def opWords (x : D) (st : Store) : R T := match x with
  | .str a => if a.length + 2 ≤ sizeLine then .ok (.l ((Txt.words a).map D.str)) st else .bad
  | _ => .bad
theorem opWords_ok : ∀ w H st x vx Q E, WOk K H w st → RelD K w H x vx → PostE K w H (opWords x st) Q E →
    (fun (x : V) (xs : List V) (H : Hp) (Q : VK) => ∃ a, x = .str a ∧ xs = [] ∧ a.length + 2 ≤ sizeLine ∧ rNewStrs (Txt.words a) H Q) vx [] H Q := by
  intro w H st x vx Q E ok rx p
  unfold opWords at p
  split at p
  · rename_i a
    cases (show vx = .str a from rx)
    split at p
    · rename_i hz
      exact ⟨a, rfl, rfl, hz, post_newL ok RelDs.ofStrs p⟩
    · exact p.elim
  · exact p.elim
end
end Q3

/-! Q3: dicts of the module with text keys; comprehensions with two fors. -/
namespace Q3
open PySem PySem.Spec PyProof.Rows L2

/-- at d: a dict of the module with these entries -/
structure KTab (K : PySem.W.Frag) (w : World) (d : Addr) (kvs : List (Str × V)) : Prop where
  ex : ∃ (es : Array DictEntry) (n : Nat), K.lookup d = some ⟨.type "dict", none, .dict es n, #[]⟩ ∧ PySem.W.KeysLit w.params es.toList ∧ Paired (fun (e : DictEntry) (p : Str × V) => (∃ t, e.key = .str p.1 t) ∧ RelV p.2 e.val) es.toList kvs
  low : (d == sysModules) = false
theorem isStr_self {x z : Str} {t : Tok} : (Value.str x t).isStr z = decide (x = z) := by
  rw [PySem.W.isStr_of]
  by_cases h : x = z
  · subst h
    simp [Value.isStrOf]
  · simp [Value.isStrOf, h, Ne.symm h]
    try exact fun q => h q.symm
theorem paired_find {z : Str} : ∀ {es : List DictEntry} {kvs : List (Str × V)} {v : V}, Paired (fun (e : DictEntry) (p : Str × V) => (∃ t, e.key = .str p.1 t) ∧ RelV p.2 e.val) es kvs → kvs.lookup z = some v →
    ∃ e, es.find? (·.key.isStr z) = some e ∧ RelV v e.val
  | _, _, _, .nil, h => by cases h
  | e :: es, (k, u) :: kvs, v, .cons ⟨⟨t, hk⟩, hr⟩ r, h => by
    rw [List.find?_cons, hk, isStr_self]
    by_cases hz : k = z
    · subst hz
      rw [decide_eq_true rfl]
      have : List.lookup k ((k, u) :: kvs) = some u := by simp
      rw [this] at h
      cases h
      exact ⟨e, rfl, hr⟩
    · rw [decide_eq_false hz]
      have : List.lookup z ((k, u) :: kvs) = List.lookup z kvs := by
        rw [List.lookup_cons]
        have : (z == k) = false := beq_eq_false_iff_ne.mpr (Ne.symm hz)
        rw [this]
      rw [this] at h
      exact paired_find r h
theorem KTab.dct {K : PySem.W.Frag} {w : World} {d : Addr} {kvs : List (Str × V)} (T : KTab K w d kvs) {z : Str} {v : V} (h : kvs.lookup z = some v) : KDct K w d z v := by
  obtain ⟨es, n, hl, hk, hp⟩ := T.ex
  obtain ⟨e, he, hr⟩ := paired_find hp h
  refine ⟨es, n, e.val, hl, hk, ?_, hr⟩
  unfold PySem.W.nsIn
  rw [hl]
  simp only [he]
def ItkK (kvs : List (Str × V)) : It := ⟨fun i _ => i < kvs.length, fun i H x H' => H' = H ∧ ∃ k v, kvs[i]? = some (k, v) ∧ x = .str k, fun i _ => kvs.length ≤ i⟩
theorem turn_keysK {P : Program} {w : World} {K : PySem.W.Frag} {tg : Expr} {d : Addr} {kvs : List (Str × V)} {es : Array DictEntry} {ep : Nat} (it : Addr) (hl : K.lookup d = some ⟨.type "dict", none, .dict es ep, #[]⟩)
    (hp : Paired (fun (e : DictEntry) (p : Str × V) => (∃ t, e.key = .str p.1 t) ∧ RelV p.2 e.val) es.toList kvs) : Turn P w K tg (ItkK kvs) [it] it (fun i h => h.IsKeyIter it d i kvs.length ep) where
  mem := by simp
  obj := fun i h st b hb => by
    have e : b = it := by simpa using hb
    subst e
    obtain ⟨oi, e, c, dd⟩ := st
    exact ⟨oi, e, fun v z => by rw [dd] at z; cases z⟩
  keep := fun i h h' st k => st.at fun oi e => k it (by simp) oi e
  item := by
    intro X hP hw hK hc i pins s σ H E I hf st hg
    subst hP hw hK
    have hi : i < kvs.length := hg
    obtain ⟨f0, f1, f2, f3, f4, f5⟩ := hf it (by simp)
    have hlen : es.toList.length = kvs.length := Paired.length hp
    have hi2 : i < es.size := by rw [← Array.length_toList, hlen]; exact hi
    obtain ⟨p, hpi, hk, hr⟩ := L2.paired_get hp (show es.toList[i]? = some es[i] by simp [hi2])
    obtain ⟨t, hk⟩ := hk
    refine next_key_item st (I.kIn d _ hl) rfl (by rw [← hlen, Array.length_toList]) (show es[i]? = some es[i] by simp [hi2]) fun h' st' sb => ?_
    have I1 : Inv X pins σ H { s with heap := h' } := I.turned (t' := s.toks) (fun b ob hb e => (sb.2 b hb).trans e) f0 f1 f3 f4 f5
    obtain ⟨oi, e, c, dd⟩ := id st'
    refine ⟨_, rfl, go_of (s := { s with heap := h' }) e c dd (by decide) ⟨.str p.1, H, I1, ⟨t, hk⟩, ⟨rfl, p.1, p.2, hpi, rfl⟩, st', fun b hb => (hf b hb).1⟩⟩
  done := by
    intro X hP hw hK hc i pins s σ H E I hf st hg
    subst hP hw hK
    have hi : kvs.length ≤ i := hg
    obtain ⟨f0, f1, f2, f3, f4, f5⟩ := hf it (by simp)
    have hlen : es.toList.length = kvs.length := Paired.length hp
    exact next_key_end (I.ok.hd hc) st (I.kIn d _ hl) rfl (by rw [← hlen, Array.length_toList]) hi fun h' eb => ⟨rfl, I.turned (t' := s.toks) (fun b ob hb e => eb b ob hb e) f0 f1 f3 f4 f5⟩
  self := fun A i s Q E st h => wpAny_pyIter_keyiter st h
def iKeysK (kvs : List (Str × V)) : TI := fun _ H R => R (ItkK kvs) H
/-- for k in D, D a dict of the module -/
theorem pi_keysK {X : Cx} {tg : Expr} {x : Str} {pos : Pos} {d : Addr} {kvs : List (Str × V)} (T : KTab X.K X.w d kvs) (hg : Gl X x) (hm : X.mg x = some (.ref d)) (hd : (x == ("__debug__" : Str)) = false := by decide) : PI X tg (.Name x pos) (iKeysK kvs) := by
  refine ⟨fun pins s σ H R I h => ?_⟩
  obtain ⟨es, n, hl, hk, hp⟩ := T.ex
  refine ld_glob I hg hm ?_ hd
  have hlen : es.toList.length = kvs.length := Paired.length hp
  refine iter_keys T.low (I.kIn d _ hl) ⟨rfl, rfl, rfl⟩ rfl (pi_one (tk := s.toks) I _ (turn_keysK _ hl hp) ⟨_, Heap.get?_push_size _ rfl, rfl, ?_⟩ h)
  rw [← hlen, Array.length_toList]
  rfl
section
variable {K : PySem.W.Frag} {W : WX} {w : Wd} {H : Hp} {st : Store} {ta tb te : TE} {fa fb fe : ME}
def fiKeys (ks : List Str) : MI := fun _ st => .ok (.val (ks.map D.str)) st
theorem li_keys {kvs : List (Str × V)} : LI K W (iKeysK kvs) (fiKeys (kvs.map (·.1))) := by
  intro w H σ σd st Rq ok sl p
  refine p w H (ItkK kvs) (Ext.refl _ _) ok fun w1 H1 st1 e1 ok1 _ => ⟨fun i d hd => ?_, ?_⟩
  · have hd : ((kvs.map (·.1)).map D.str)[i]? = some d := hd
    rw [List.map_map, List.getElem?_map] at hd
    cases q : kvs[i]? with
    | none => rw [q] at hd; cases hd
    | some kv =>
      rw [q] at hd
      cases hd
      refine ⟨(List.getElem?_eq_some_iff.mp q).1, fun x H2 y => ?_⟩
      obtain ⟨rfl, k, v, e, rfl⟩ := y
      rw [q] at e
      cases e
      exact ⟨Ext.refl _ _, ok1, rfl⟩
  · show kvs.length ≤ ((kvs.map (·.1)).map D.str).length
    simp
/-- D[e], D a dict of the module -/
def fKIx (g : Str → Option D) (fe : ME) : ME := fun σ st => (fe σ st).bind fun x st1 => match x.d with
  | .str z => (match g z with
    | some d => okS d st1
    | none => .bad)
  | _ => .bad
theorem le_kix {wd : World} {p : Addr} {kvs : List (Str × V)} {g : Str → Option D} (T : KTab K wd p kvs) (hg : ∀ z d, g z = some d → ∃ v, kvs.lookup z = some v ∧ ∀ w H, RelD K w H d v) (he : LE K W te fe) : LE K W (tOp (rIxD K wd) (tC (.ref p)) te) (fKIx g fe) := by
  intro w H σ σd st Q ok sl pp
  refine he.d ok sl ?_
  unfold fKIx at pp
  cases e : fe σd st with
  | exc x st1 => rw [e] at pp; exact pp
  | bad => rw [e] at pp; exact pp
  | ok x st1 =>
    rw [e] at pp
    intro w1 H1 v e1 ok1 r1
    have pp : PostE K w H (match x.d with | .str z => (match g z with | some d => okS d st1 | none => .bad) | _ => .bad) Q _ := pp
    generalize x.d = d at pp r1
    cases d with
    | str z =>
      cases (show v = .str z from r1)
      have pp : PostE K w H (match g z with | some d => okS d st1 | none => .bad) Q _ := pp
      split at pp
      · rename_i d hd
        obtain ⟨v, hl, hr⟩ := hg z d hd
        exact ⟨p, z, v, rfl, rfl, T.dct hl, pp w1 H1 v e1 ok1 (hr w1 H1)⟩
      · exact pp.elim
    | _ => exact pp.elim

/-! ### two fors in a comprehension (no ifs ahead of the second) -/
open Classical in
noncomputable def lcI (src : Src) (tg : MG) (ft : MT) (fe : ME) (σ : DS) : List D → List D → Store → R (List D)
  | [], acc, st => if src.okAt st then .ok acc st else .bad
  | d :: r, acc, st => if src.okAt st then (match tg d σ st with
      | none => .bad
      | some σ1 => match ft σ1 st with
        | .ok k st1 => if k = true then (match fe σ1 st1 with
            | .ok x st2 => if acc.length < sizeLine then lcI src tg ft fe σ r (acc ++ [x.d]) st2 else .bad
            | _ => .bad) else lcI src tg ft fe σ r acc st1
        | _ => .bad) else .bad
open Classical in
noncomputable def lcO (src : Src) (tg : MG) (fi1 : MI) (tg1 : MG) (ft1 : MT) (fe : ME) (σ : DS) (vs1 : List Nat) : List D → List D → Store → R T
  | [], acc, st => if src.okAt st then .ok (.l acc) st else .bad
  | d :: r, acc, st => if src.okAt st then (match tg d σ st with
      | none => .bad
      | some σ1 => match fi1 σ1 st with
        | .ok src1 st1 => (match lcI src1 tg1 ft1 fe (wipeD σ1 vs1) src1.items acc st1 with
          | .ok acc' st2 => lcO src tg fi1 tg1 ft1 fe σ vs1 r acc' st2
          | _ => .bad)
        | _ => .bad) else .bad
noncomputable def fLc2 (fi : MI) (tg : MG) (fi1 : MI) (tg1 : MG) (ft1 : MT) (fe : ME) (vs vs1 : List Nat) : ME := fun σ st => (fi σ st).bind fun src st1 => lcO src tg fi1 tg1 ft1 fe (wipeD σ vs) vs1 src.items [] st1
/-- the list on the way -/
structure Acc (K : PySem.W.Frag) (L : Addr) (w : Wd) (H : Hp) (acc : List D) : Prop where
  ex : ∃ us, H L = some (.lst us) ∧ RelDs K w H acc us
  phi : L ∉ w.phi
  r : ¬ w.R L
theorem Acc.mono {L : Addr} {w w' : Wd} {H H' : Hp} {st : Store} {acc : List D} (a : Acc K L w H acc) (e : Ext w H w' H') (ok : WOk K H w st) : Acc K L w' H' acc := by
  obtain ⟨us, h, r⟩ := a.ex
  exact ⟨⟨us, e.kp L _ a.phi h, RelDs.mono e ok _ _ r⟩, e.phi_out h a.phi, e.R_out h a.r⟩
theorem le_lc2 {wi wi1 : TI} {fi fi1 : MI} {g g1 : TG} {tg tg1 : MG} {is is1 vs vs1 : List Nat} {tt1 : TT} {ft1 : MT} (hi : LI K W wi fi) (hg : LG K g tg is) (hsub : ∀ j ∈ is, j ∈ vs) (hi1 : LI K W0 wi1 fi1) (hg1 : LG K g1 tg1 is1) (hsub1 : ∀ j ∈ is1, j ∈ vs1)
    (ht1 : LT K W0 tt1 ft1) (he : LE K W0 te fe) : LE K W (tLc2 wi g tYes wi1 g1 tt1 te vs vs1) (fLc2 fi tg fi1 tg1 ft1 fe vs vs1) := by
  intro w H σ σd st Q ok sl p
  refine hi w H σ σd st _ ok sl ?_
  unfold fLc2 at p
  cases e : fi σd st with
  | exc x st1 => rw [e] at p; exact p
  | bad => rw [e] at p; exact p
  | ok src st1 =>
    rw [e] at p
    have p : PostE K w H (lcO src tg fi1 tg1 ft1 fe (wipeD σd vs) vs1 src.items [] st1) Q _ := p
    intro w1 H1 J e1 ok1 dl L hL
    have slw := (sl.mono e1 ok).wipe vs
    have p := PostE.shift e1 p
    refine ⟨fun i m H' => (m = src.items.length - i ∧ i ≤ src.items.length) ∧ ∃ w' st' acc, Ext w1 H1 w' H' ∧ WOk K H' w' st' ∧ Acc K L w' H' acc ∧ RelSl K w' H' (wipeD σd vs) (L2.wipe σ vs) ∧
        PostE K w1 H1 (lcO src tg fi1 tg1 ft1 fe (wipeD σd vs) vs1 (src.items.drop i) acc st') Q (fun c d H' => W c d σ H'),
      ⟨_, ⟨rfl, Nat.zero_le _⟩, w1, st1, [], Ext.upd_new hL, ok1.upd_new hL, ⟨⟨[], upd_same, rfl⟩, ok1.new_phi hL, ok1.new_R hL⟩, slw.up ((Ext.upd_new hL).up ok1), p⟩, ?_⟩
    rintro i m H2 ⟨⟨rfl, hil⟩, w2, st2, acc, e2, ok2, ac, sl2, p2⟩
    cases hd : src.items[i]? with
    | none =>
      have hle : src.items.length ≤ i := List.getElem?_eq_none_iff.mp hd
      have hie : i = src.items.length := Nat.le_antisymm hil hle
      rw [List.drop_eq_nil_of_le hle] at p2
      unfold lcO at p2
      by_cases hs : src.okAt st2
      · rw [if_pos hs] at p2
        obtain ⟨us, hD, racc⟩ := ac.ex
        exact .inl ⟨by rw [hie]; exact (dl w2 H2 st2 (e2.up ok1) ok2 hs).2, p2 w2 H2 (.ref L) e2 ok2 ⟨L, us, rfl, ac.phi, ac.r, hL, hD, racc⟩⟩
      · rw [if_neg hs] at p2
        exact p2.elim
    | some d =>
      rw [drop_get hd] at p2
      unfold lcO at p2
      by_cases hs : src.okAt st2
      · rw [if_pos hs] at p2
        obtain ⟨go, ys⟩ := (dl w2 H2 st2 (e2.up ok1) ok2 hs).1 i d hd
        have hlt : i < src.items.length := (List.getElem?_eq_some_iff.mp hd).1
        refine .inr ⟨go, fun H' => ∃ w' st' acc, Ext w1 H1 w' H' ∧ WOk K H' w' st' ∧ Acc K L w' H' acc ∧ RelSl K w' H' (wipeD σd vs) (L2.wipe σ vs) ∧
            PostE K w1 H1 (lcO src tg fi1 tg1 ft1 fe (wipeD σd vs) vs1 (src.items.drop (i + 1)) acc st') Q (fun c d H' => W c d σ H'),
          fun H' n => ⟨_, by omega, ⟨rfl, hlt⟩, n⟩, fun x H3 y => ?_⟩
        obtain ⟨e3, ok3, rd⟩ := ys x H3 y
        have ac3 := ac.mono e3 ok2
        cases htg : tg d (wipeD σd vs) st2 with
        | none =>
          rw [htg] at p2
          exact p2.elim
        | some σ3 =>
          rw [htg] at p2
          refine hg w2 H3 _ _ st2 d x _ ok3 (sl2.mono e3 ok2) rd ⟨σ3, htg, fun σ' sl' hl' hj' => ⟨wipe_eq hsub hl' hj', ?_⟩⟩
          have tys : ∀ (Qq : Bool → Hp → Prop), Qq true H3 → tYes σ' H3 Qq := fun _ h => h
          refine tys _ ?_
          rw [if_pos rfl]
          refine hi1 w2 H3 σ' σ3 st2 _ ok3 sl' ?_
          cases ei : fi1 σ3 st2 with
          | exc x2 st3 => simp only [ei] at p2; exact p2.elim
          | bad => simp only [ei] at p2; exact p2.elim
          | ok src1 st3 =>
            simp only [ei] at p2
            intro w4 H4 J1 e4 ok4 dl1
            have ac4 := ac3.mono e4 ok3
            -- the inner loop's end
            cases eI : lcI src1 tg1 ft1 fe (wipeD σ3 vs1) src1.items acc st3 with
            | exc x2 st5 => simp only [eI] at p2; exact p2.elim
            | bad => simp only [eI] at p2; exact p2.elim
            | ok accF stF =>
              simp only [eI] at p2
              have e14 := (e2.trans e3).trans e4
              have sl4 := sl2.mono (e3.trans e4) ok2
              have slv := (sl'.mono e4 ok3).wipe vs1
              refine ⟨fun j k H' => (k = src1.items.length - j ∧ j ≤ src1.items.length) ∧ ∃ w' st' acc', Up K w4 H4 w' H' ∧ Ext w1 H1 w' H' ∧ WOk K H' w' st' ∧ Acc K L w' H' acc' ∧ RelSl K w' H' (wipeD σd vs) (L2.wipe σ vs) ∧ RelSl K w' H' (wipeD σ3 vs1) (L2.wipe σ' vs1) ∧
                  lcI src1 tg1 ft1 fe (wipeD σ3 vs1) (src1.items.drop j) acc' st' = .ok accF stF,
                ⟨_, ⟨rfl, Nat.zero_le _⟩, w4, st3, acc, Up.refl _ _, e14, ok4, ac4, sl4, slv, eI⟩, ?_⟩
              rintro j k H5 ⟨⟨rfl, hjl⟩, w5, st5, acc5, e45, e15, ok5, ac5, sl5, sv5, p5⟩
              cases hd5 : src1.items[j]? with
              | none =>
                have hle : src1.items.length ≤ j := List.getElem?_eq_none_iff.mp hd5
                have hje : j = src1.items.length := Nat.le_antisymm hjl hle
                rw [List.drop_eq_nil_of_le hle] at p5
                unfold lcI at p5
                by_cases hs5 : src1.okAt st5
                · rw [if_pos hs5] at p5
                  have q1 : acc5 = accF ∧ st5 = stF := by
                    injection p5 with a b
                    exact ⟨a, b⟩
                  rw [← q1.1, ← q1.2] at p2
                  exact .inl ⟨by rw [hje]; exact (dl1 w5 H5 st5 e45 ok5 hs5).2, w5, st5, acc5, e15, ok5, ac5, sl5, p2⟩
                · rw [if_neg hs5] at p5
                  cases p5
              | some d5 =>
                rw [drop_get hd5] at p5
                unfold lcI at p5
                by_cases hs5 : src1.okAt st5
                · rw [if_pos hs5] at p5
                  obtain ⟨go5, ys5⟩ := (dl1 w5 H5 st5 e45 ok5 hs5).1 j d5 hd5
                  have hlt5 : j < src1.items.length := (List.getElem?_eq_some_iff.mp hd5).1
                  refine .inr ⟨go5, fun H' => ∃ w' st' acc', Up K w4 H4 w' H' ∧ Ext w1 H1 w' H' ∧ WOk K H' w' st' ∧ Acc K L w' H' acc' ∧ RelSl K w' H' (wipeD σd vs) (L2.wipe σ vs) ∧ RelSl K w' H' (wipeD σ3 vs1) (L2.wipe σ' vs1) ∧
                      lcI src1 tg1 ft1 fe (wipeD σ3 vs1) (src1.items.drop (j + 1)) acc' st' = .ok accF stF,
                    fun H' n => ⟨_, by omega, ⟨rfl, hlt5⟩, n⟩, fun x5 H6 y5 => ?_⟩
                  obtain ⟨e6, ok6, rd6⟩ := ys5 x5 H6 y5
                  have ac6 := ac5.mono e6 ok5
                  cases htg1 : tg1 d5 (wipeD σ3 vs1) st5 with
                  | none =>
                    rw [htg1] at p5
                    cases p5
                  | some σ6 =>
                    rw [htg1] at p5
                    refine hg1 w5 H6 _ _ st5 d5 x5 _ ok6 (sv5.mono e6 ok5) rd6 ⟨σ6, htg1, fun σ'' sl'' hl'' hj'' => ⟨wipe_eq hsub1 hl'' hj'', ?_⟩⟩
                    refine ht1 w5 H6 σ'' σ6 st5 _ ok6 sl'' ?_
                    cases et : ft1 σ6 st5 with
                    | exc a b => simp only [et] at p5; cases p5
                    | bad => simp only [et] at p5; cases p5
                    | ok kk st7 =>
                      simp only [et] at p5
                      intro w7 H7 k' e7 ok7 rk
                      have rk : kk = k' := rk
                      subst rk
                      have ac7 := ac6.mono e7 ok6
                      cases kk with
                      | false =>
                        simp only [Bool.false_eq_true, if_false] at p5 ⊢
                        exact ⟨w7, st7, acc5, (e45.trans (e6.up ok5)).trans (e7.up ok6), (e15.trans e6).trans e7, ok7, ac7, sl5.mono (e6.trans e7) ok5, sv5.mono (e6.trans e7) ok5, p5⟩
                      | true =>
                        simp only [if_true] at p5 ⊢
                        refine he.d ok7 (sl''.mono e7 ok6) ?_
                        cases ee : fe σ6 st7 with
                        | exc a b => simp only [ee] at p5; cases p5
                        | bad => simp only [ee] at p5; cases p5
                        | ok z st8 =>
                          simp only [ee] at p5
                          intro w8 H8 v e8 ok8 rv
                          have ac8 := ac7.mono e8 ok7
                          by_cases hsz : acc5.length < sizeLine
                          · rw [if_pos hsz] at p5
                            obtain ⟨us, hD8, racc8⟩ := ac8.ex
                            have e58 := (e6.trans e7).trans e8
                            have up : Up K w8 H8 w8 (upd H8 L (.lst (us ++ [v]))) := Up.out hD8 ac8.r
                            refine ⟨us, hD8, by rw [← racc8.length]; exact hsz, w8, st8, acc5 ++ [z.d], (e45.trans (e58.up ok5)).trans up, (e15.trans e58).upd_out hL, ok8.out hD8 ac8.r ac8.phi, ⟨⟨us ++ [v], upd_same, RelDs.up up _ _ (racc8.append (RelDs.one rv))⟩, ac8.phi, ac8.r⟩, (sl5.mono e58 ok5).up up, (sv5.mono e58 ok5).up up, p5⟩
                          · rw [if_neg hsz] at p5
                            cases p5
                · rw [if_neg hs5] at p5
                  cases p5
      · rw [if_neg hs] at p2
        exact p2.elim
end
end Q3

/-! Q3: truth; the defs of a text by their meanings. -/
namespace Q3
open PySem PySem.Spec PyProof.Rows L2

section
variable {K : PySem.W.Frag} {W : WX} {w : Wd} {H : Hp} {st : Store} {ta te : TE} {fe : ME}
def D.tru (st : Store) : D → Option Bool
  | .non => some false
  | .bl b => some b
  | .int i => some (i != 0)
  | .str y => if y.length ≤ sizeLine then some ((y.length : Int) != 0) else none
  | .tup ds => some (!ds.isEmpty)
  | .ro ds => some (!ds.isEmpty)
  | .rk ds => some (!ds.isEmpty)
  | .ref k => match st[k]? with
    | some (.lst ds) => some (!ds.isEmpty)
    | _ => none
  | .vv _ => none
def fTru (fe : ME) : MT := fun σ st => (fe σ st).bind fun x st1 => match D.tru st1 x.d with
  | some b => .ok b st1
  | none => .bad
theorem RelDs.isEmpty {ds : List D} {vs : List V} (r : RelDs K w H ds vs) : ds.isEmpty = vs.isEmpty := by
  have := r.length
  cases ds <;> cases vs <;> first | rfl | cases this
theorem D.tru_ok (ok : WOk K H w st) {d : D} {v : V} {b : Bool} (r : RelD K w H d v) (e : D.tru st d = some b) : TruV K v H b := by
  cases d with
  | non => cases e; cases (show v = .non from r); exact rfl
  | bl c => cases (show v = .bl c from r); cases e; exact rfl
  | int c => cases e; cases (show v = .int c from r); exact rfl
  | str c =>
    cases (show v = .str c from r)
    unfold D.tru at e
    simp only at e
    split at e
    · rename_i hz
      cases e
      exact ⟨hz, rfl⟩
    · cases e
  | tup ds =>
    cases e
    obtain ⟨a, vs, rfl, h1, h2⟩ := r
    exact .inr (.inl ⟨vs, h1, by rw [h2.isEmpty]⟩)
  | ro ds =>
    cases e
    obtain ⟨a, vs, rfl, _, h1, h2⟩ := r
    exact .inl ⟨vs, .inl (.inl h1), by rw [h2.isEmpty]⟩
  | rk ds =>
    cases e
    obtain ⟨a, vs, rfl, h1, h2⟩ := r
    exact .inl ⟨vs, h1.sq, by rw [h2.isEmpty]⟩
  | ref k =>
    obtain ⟨a, rfl, ha⟩ := r
    obtain ⟨so, es, ro⟩ := ok.at ha
    unfold D.tru at e
    simp only [es] at e
    cases so with
    | lst ds =>
      cases e
      obtain ⟨vs, h1, h2⟩ := ro
      exact .inl ⟨vs, .inl (.inl h1), by rw [h2.isEmpty]⟩
    | _ => cases e
  | vv u => cases e
abbrev tTru (K : PySem.W.Frag) (ta : TE) : TT := fun σ H Q => ta σ H fun x H' => ∃ k, TruV K x H' k ∧ Q k H'
theorem lt_tru (he : LE K W te fe) : LT K W (tTru K te) (fTru fe) := by
  intro w H σ σd st Q ok sl p
  refine he.d ok sl ?_
  unfold fTru at p
  cases e : fe σd st with
  | ok x st1 =>
    rw [e] at p
    intro w1 H1 v e1 ok1 r1
    have p : PostB K w H (match D.tru st1 x.d with | some b => .ok b st1 | none => .bad) Q _ := p
    split at p
    · rename_i b eb
      exact ⟨b, D.tru_ok ok1 r1 eb, p w1 H1 b e1 ok1 rfl⟩
    · exact p.elim
  | exc x st1 => rw [e] at p; exact p
  | bad => rw [e] at p; exact p
theorem lt_yes : LT K W tYes (fun _ st => .ok true st) := fun w H σ σd st Q ok sl p => p w H true (Ext.refl _ _) ok rfl
end
theorem pt_tru {X : Cx} {a : Expr} {ta : TE} (ha : PE X a ta) (he : ∀ whole, isTrue a X.env whole = (do let v ← whole; standAt a.pos; holding [v] (truthy v)) := by intro _; rfl) : PT X a (tTru X.K ta) := pt_truth ha he

/-- the def named x, as the text has it -/
structure DefAt (K : PySem.W.Frag) (mg : Str → Option Value) (x : Str) (st : Stmt) (ps : List Str) : Prop where
  ex : ∃ f fd, Fun K x x st f fd ∧ Binds K fd ps [] ∧ mg x = some (.ref f)
/-- the fragment's function at f -/
def InFrag (K : PySem.W.Frag) (f : Addr) (fd : FuncData) : Prop := ∃ oc od osl, K.lookup f = some ⟨oc, od, .func fd, osl⟩
theorem InFrag.of {K : PySem.W.Frag} {x qual : Str} {st : Stmt} {f : Addr} {fd : FuncData} (F : Fun K x qual st f fd) : InFrag K f fd := by
  obtain ⟨oc, od, kV, doc, pm, an, cdv, ct, osl, _, lk, _⟩ := F.ex
  exact ⟨oc, od, osl, lk⟩
theorem InFrag.one {K : PySem.W.Frag} {f : Addr} {fd fd' : FuncData} (h : InFrag K f fd) (g : InFrag K f fd') : fd = fd' := by
  obtain ⟨_, _, _, h⟩ := h
  obtain ⟨_, _, _, g⟩ := g
  rw [h] at g
  cases g
  rfl
/-- the def named x does what c says -/
structure FnAt (P : Program) (w : World) (K : PySem.W.Frag) (mg : Str → Option Value) (base : Heap) (x : Str) (k n : Nat) (c : Fn) : Prop where
  ex : ∃ f fd ps, FnOk P w K mg base CX0 k f fd ps (spOf K n c) ∧ mg x = some (.ref f) ∧ PySem.W.keepIn K (.ref f) = true ∧ Binds K fd ps [] ∧ InFrag K f fd
section
variable {P : Program} {w : World} {K : PySem.W.Frag} {mg : Str → Option Value} {base : Heap} {x : Str} {st : Stmt} {N ps : List Str} {k j n : Nat} {c c' : Fn}
theorem fnAt {b : MS} (Dd : DefAt K mg x st ps) (S : FnScope N ps (defScope st))
    (body : ∀ (f : Addr) (cdv : Value) (A : Around) (outer : List Env) (s : Shared) (H : Hp) (E : XK), Room k (A.deeper (envOfC x (defScope st) s.heap.objs.size f cdv)) →
      ∃ t, PSs (cxOf CX0 P w K mg base N x (defScope st) f cdv A outer s H E).nox (defBody st) t ∧ LS K W0 t b) :
    FnAt P w K mg base x (k + 1) ps.length (mFn0 N.length b) := by
  obtain ⟨f, fd, F, hb, hm⟩ := Dd.ex
  refine ⟨f, fd, ps, fn_ev F S fun cdv A outer s H E hr => ?_, hm, F.kp, hb, .of F⟩
  obtain ⟨t, h1, h2⟩ := body f cdv A outer s H E hr
  exact ⟨t, h1, h2⟩
theorem FnAt.mono (h : FnAt P w K mg base x j n c) (hj : j ≤ k) : FnAt P w K mg base x k n c := by
  obtain ⟨f, fd, ps, F, r⟩ := h.ex
  exact ⟨f, fd, ps, F.mono hj, r⟩
/-- told anew -/
theorem FnAt.gc (h : FnAt P w K mg base x k n c) (hg : ∀ args st, args.length = n → Store.lt st.length st = true → D.lts st.length args = true → c' args st ≠ .bad → Gc st.length (c args st) (c' args st)) : FnAt P w K mg base x k n c' := by
  obtain ⟨f, fd, ps, F, r⟩ := h.ex
  exact ⟨f, fd, ps, F.imp fun _ _ _ _ q => spOf.gc hg q, r⟩
theorem FnAt.none (Dd : DefAt K mg x st ps) : FnAt P w K mg base x 0 ps.length (fun _ _ => .bad) := by
  obtain ⟨f, fd, F, hb, hm⟩ := Dd.ex
  exact ⟨f, fd, ps, ⟨fun vs H Q E h => h.1, fun A outer s H args us vs Q E _ _ _ _ h => by
    obtain ⟨_, _, _, _, _, _, z⟩ := h
    exact z.elim⟩, hm, F.kp, hb, .of F⟩
end
section
variable {X : Cx} {x : Str} {p pos : Pos} {e : Expr} {es : List Expr} {t : TA} {k n : Nat} {c : Fn}
theorem pe_callA (h : FnAt X.prog X.w X.K X.mg X.base x k n c) (hr : Room k X.A) (hg : Gl X x) (ha : PA X (e :: es) t) (hdb : (x == ("__debug__" : Str)) = false := by decide)
    (he : starEach (e :: es) X.env = (false, eval e X.env) :: starEach es X.env := by rfl) (hpl : (backTo pos (starEach es X.env)).any (·.1) = false := by rfl) : PE X (.Call (.Name x p) (e :: es) [] pos) (tCall (spOf X.K n c) [] E0 t) := by
  obtain ⟨f, fd, ps, F, hm, hk, hb, _⟩ := h.ex
  exact pe_call F hr hg hm hk hb .nil pass0 ha hdb he hpl
theorem pe_callA0 (h : FnAt X.prog X.w X.K X.mg X.base x k n c) (hr : Room k X.A) (hg : Gl X x) (hdb : (x == ("__debug__" : Str)) = false := by decide) : PE X (.Call (.Name x p) [] [] pos) (tCall (spOf X.K n c) [] E0 tNil) := by
  obtain ⟨f, fd, ps, F, hm, hk, hb, _⟩ := h.ex
  exact pe_call0 F hr hg hm hk hb .nil pass0 hdb
end
section
variable {K : PySem.W.Frag} {W : WX} {w : Wd} {H : Hp} {st : Store} {ta te : TE} {fe : ME}
def strs2 (t : List (String × String)) : List (Str × Str) := t.map fun p => (Str.ofString p.1, Str.ofString p.2)
def tabV (t : List (Str × Str)) : List (Str × V) := t.map fun p => (p.1, .str p.2)
def tabG (t : List (Str × Str)) (z : Str) : Option D := (t.lookup z).map .str
theorem tabG_ok {t : List (Str × Str)} : ∀ z d, tabG t z = some d → ∃ v, (tabV t).lookup z = some v ∧ ∀ w H, RelD K w H d v := by
  intro z d h
  unfold tabG at h
  cases q : t.lookup z with
  | none => rw [q] at h; cases h
  | some y =>
    rw [q] at h
    cases h
    refine ⟨.str y, ?_, fun _ _ => rfl⟩
    unfold tabV
    induction t with
    | nil => cases q
    | cons p r ih =>
      obtain ⟨k, v⟩ := p
      rw [List.map_cons, List.lookup_cons]
      rw [List.lookup_cons] at q
      cases e : z == k with
      | true =>
        rw [e] at q
        simp only at q ⊢
        cases q
        rfl
      | false =>
        rw [e] at q
        simp only at q ⊢
        exact ih q
/-- target = e, any target -/
def mAsgG (tg : MG) (fe : ME) : MS := fun σ st => (fe σ st).toS σ fun x st1 => match tg x.d σ st1 with
  | some σ1 => .nx σ1 st1
  | none => .bad
theorem ls_asgG {g : TG} {tg : MG} {is : List Nat} (hg : LG K g tg is) (he : LE K W te fe) : LS K W (tAsg te g) (mAsgG tg fe) := by
  intro w H σ σd st D ok sl p
  refine he.d ok sl ?_
  unfold mAsgG at p
  cases e : fe σd st with
  | exc x st1 =>
    rw [e] at p
    exact fun w1 H1 cls dd e1 ok1 r1 => p w1 H1 σ cls dd e1 ok1 (sl.mono e1 ok) r1
  | bad => rw [e] at p; exact p
  | ok x st1 =>
    rw [e] at p
    intro w1 H1 v e1 ok1 r1
    have p : PostS K w H (match tg x.d σd st1 with | some σ1 => .nx σ1 st1 | none => .bad) D W := p
    split at p
    · rename_i σ1 h1
      exact hg w1 H1 σ σd st1 _ v _ ok1 (sl.mono e1 ok) r1 ⟨σ1, h1, fun σ' sl' _ _ => p w1 H1 σ' e1 ok1 sl'⟩
    · exact p.elim
def ipAdd (x y : D) (st : Store) : R T := match x, y with
  | .int i, .int j => okS (.int (i + j)) st
  | _, _ => .bad
theorem ipAdd_ok : OpOk K (ipI fun i j => i + j) ipAdd := by
  intro w H st x y vx vy Q E ok rx ry p
  unfold ipAdd at p
  split at p
  · rename_i i j
    exact ⟨i, j, rx, ry, post_s p ok rfl⟩
  · exact p.elim
theorem ipAdd_x : ∀ x y st e st', ipAdd x y st ≠ .exc e st' := by
  intro x y st e st' h
  unfold ipAdd at h
  split at h <;> cases h
theorem ipSub_ok : OpOk K (ipI fun i j => i - j) opSub := opSub_ok
theorem opSub_x : ∀ x y st e st', opSub x y st ≠ .exc e st' := by
  intro x y st e st' h
  unfold opSub at h
  split at h <;> cases h
end
theorem bb_len : bootBuiltins "len" = some (.builtin "len") := by decide +kernel
theorem bb_isinstance : bootBuiltins "isinstance" = some (.builtin "isinstance") := by decide +kernel
theorem bb_int : bootBuiltins "int" = some (.type "int") := by decide +kernel
theorem bb_list : bootBuiltins "list" = some (.type "list") := by decide +kernel
theorem bb_tuple : bootBuiltins "tuple" = some (.type "tuple") := by decide +kernel
theorem bb_bool : bootBuiltins "bool" = some (.type "bool") := by decide +kernel
theorem bb_str : bootBuiltins "str" = some (.type "str") := by decide +kernel
theorem bb_dict : bootBuiltins "dict" = some (.type "dict") := by decide +kernel
end Q3

/-! Q3: how meanings are reckoned. -/
namespace Q3
open PySem PySem.Spec PyProof.Rows L2

section
variable {α β : Type} {st st1 : Store} {σ : DS} {x : Exn}
@[simp] theorem R.bind_ok {a : α} {k : α → Store → R β} : (R.ok a st).bind k = k a st := (id rfl)
@[simp] theorem R.bind_exc {k : α → Store → R β} : (R.exc x st : R α).bind k = .exc x st := (id rfl)
@[simp] theorem R.bind_bad {k : α → Store → R β} : (R.bad : R α).bind k = .bad := (id rfl)
@[simp] theorem R.toS_ok {a : T} {k : T → Store → RS} : (R.ok a st).toS σ k = k a st := (id rfl)
@[simp] theorem R.toS_bad {k : T → Store → RS} : (R.bad).toS σ k = .bad := (id rfl)
@[simp] theorem R.toS_exc {k : T → Store → RS} : (R.exc x st).toS σ k = .exc x σ st := (id rfl)
@[simp] theorem R.pure0_ok {a : T} : (R.ok a st).pure0 = .ok a st := (id rfl)
@[simp] theorem R.pure0_bad : (R.bad : R T).pure0 = .bad := (id rfl)
@[simp] theorem R.pure0_exc : (R.exc x st : R T).pure0 = .bad := (id rfl)
@[simp] theorem T.d_s {d : D} : (T.s d).d = d := (id rfl)
@[simp] theorem T.d_l {ds : List D} : (T.l ds).d = .ro ds := (id rfl)
@[simp] theorem fVar_eq {i : Nat} : fVar i σ st = match σ[i]? with | some (some d) => .ok (.s d) st | _ => .bad := (id rfl)
@[simp] theorem fC_eq {d : D} : fC d σ st = .ok (.s d) st := (id rfl)
@[simp] theorem fMat_eq {f : ME} : fMat f σ st = (f σ st).bind fun t st1 => match t with | .s d => .ok (.s d) st1 | .l ds => .ok (.s (.ref st1.length)) (st1 ++ [.lst ds]) := (id rfl)
@[simp] theorem fBin_eq {op : D → D → Store → R T} {fa fb : ME} : fBin op fa fb σ st = (fa σ st).bind fun x st1 => (fb σ st1).bind fun y st2 => op x.d y.d st2 := (id rfl)
@[simp] theorem fUn_eq {op : D → Store → R T} {fa : ME} : fUn op fa σ st = (fa σ st).bind fun x st1 => op x.d st1 := (id rfl)
@[simp] theorem fNil_eq : fNil σ st = .ok [] st := (id rfl)
@[simp] theorem fCons_eq {fe : ME} {fr : MA} : fCons fe fr σ st = (fe σ st).bind fun x st1 => (fr σ st1).bind fun xs st2 => .ok (x.d :: xs) st2 := (id rfl)
@[simp] theorem fArgs_eq {c : List D → Store → R T} {fa : MA} : fArgs c fa σ st = (fa σ st).bind fun xs st1 => c xs st1 := (id rfl)
@[simp] theorem fCall0_eq {c : Fn} {fa : MA} : fCall0 c fa σ st = (fa σ st).bind fun xs st1 => (c xs st1).pure0 := (id rfl)
@[simp] theorem fIf_eq {ft : MT} {fa fb : ME} : fIf ft fa fb σ st = (ft σ st).bind fun c st1 => if c = true then fa σ st1 else fb σ st1 := (id rfl)
@[simp] theorem tVal_eq {fa : ME} : tVal fa σ st = (fa σ st).bind fun x st1 => match x.d with | .bl b => .ok b st1 | _ => .bad := (id rfl)
@[simp] theorem tAndF_eq {a b : MT} : tAndF a b σ st = (a σ st).bind fun c st1 => if c = true then b σ st1 else .ok false st1 := (id rfl)
@[simp] theorem tOrF_eq {a b : MT} : tOrF a b σ st = (a σ st).bind fun c st1 => if c = true then .ok true st1 else b σ st1 := (id rfl)
@[simp] theorem tNotF_eq {a : MT} : tNotF a σ st = (a σ st).bind fun c st1 => .ok (!c) st1 := (id rfl)
@[simp] theorem fNotV_eq {a : ME} : fNotV a σ st = (a σ st).bind fun x st1 => match x.d with | .bl b => .ok (.s (.bl (!b))) st1 | _ => .bad := (id rfl)
@[simp] theorem fAndV_eq {a b : ME} : fAndV a b σ st = (a σ st).bind fun x st1 => match x.d with | .bl c => if c = true then b σ st1 else .ok (.s (.bl false)) st1 | _ => .bad := (id rfl)
@[simp] theorem fOrV_eq {a b : ME} : fOrV a b σ st = (a σ st).bind fun x st1 => match x.d with | .bl c => if c = true then .ok (.s (.bl true)) st1 else b σ st1 | _ => .bad := (id rfl)
@[simp] theorem mNil_eq : mNil σ st = .nx σ st := (id rfl)
@[simp] theorem mSeq_eq {a b : MS} : mSeq a b σ st = match a σ st with | .nx σ1 st1 => b σ1 st1 | r => r := (id rfl)
@[simp] theorem mSet_eq {i : Nat} {fe : ME} : mSet i fe σ st = (fe σ st).toS σ fun x st1 => .nx (σ.set i (some x.d)) st1 := (id rfl)
@[simp] theorem mExpr_eq {fe : ME} : mExpr fe σ st = (fe σ st).toS σ fun _ st1 => .nx σ st1 := (id rfl)
@[simp] theorem mRet_eq {fe : ME} : mRet fe σ st = (fe σ st).toS σ fun x st1 => .rt x st1 := (id rfl)
@[simp] theorem mRetN_eq : mRetN σ st = .rt (.s .non) st := (id rfl)
@[simp] theorem mIf_eq {ft : MT} {a b : MS} : mIf ft a b σ st = match ft σ st with | .ok c st1 => if c = true then a σ st1 else b σ st1 | .exc x st1 => .exc x σ st1 | .bad => .bad := (id rfl)
@[simp] theorem mBreak_eq : mBreak σ st = .bk σ st := (id rfl)
@[simp] theorem mCont_eq : mCont σ st = .ct σ st := (id rfl)
@[simp] theorem fTup_eq {fa : MA} : fTup fa σ st = (fa σ st).bind fun xs st1 => .ok (.s (.tup xs)) st1 := (id rfl)
@[simp] theorem fLst_eq {fa : MA} : fLst fa σ st = (fa σ st).bind fun xs st1 => .ok (.l xs) st1 := (id rfl)
@[simp] theorem oNone_eq : oNone σ st = .ok none st := (id rfl)
@[simp] theorem oSome_eq {fe : ME} : oSome fe σ st = (fe σ st).bind fun x st1 => match x.d with | .int i => .ok (some i) st1 | _ => .bad := (id rfl)
@[simp] theorem fSl_eq {fe : ME} {fl fh : MO} : fSl fe fl fh σ st = (fe σ st).bind fun x st1 => (fl σ st1).bind fun l st2 => (fh σ st2).bind fun h st3 => slD st3 l h x.d := (id rfl)
@[simp] theorem fBML_eq {op : D → List D → Store → R T} {fo : ME} {fr : MA} : fBML op fo fr σ st = (fo σ st).bind fun x st1 => match lstR st1 x.d with | some _ => (fr σ st1).bind fun xs st2 => op x.d xs st2 | none => .bad := (id rfl)
@[simp] theorem mSetIx_eq {fe fo fi : ME} : mSetIx fe fo fi σ st = (fe σ st).toS σ fun y st1 => (fo σ st1).toS σ fun x st2 => (fi σ st2).toS σ fun i st3 => setIx x.d i.d y.d σ st3 := (id rfl)
@[simp] theorem mAug_eq {i : Nat} {op : D → D → Store → R T} {fe : ME} : mAug i op fe σ st = match σ[i]? with | some (some x) => (fe σ st).toS σ fun y st1 => (op x y.d st1).toS σ fun z st2 => .nx (σ.set i (some z.d)) st2 | _ => .bad := (id rfl)
@[simp] theorem mPar_eq {i j : Nat} {fr : MA} : mPar i j fr σ st = match fr σ st with | .ok [x, y] st1 => .nx ((σ.set i (some x)).set j (some y)) st1 | .exc x st1 => .exc x σ st1 | _ => .bad := (id rfl)
@[simp] theorem mAsgG_eq {tg : MG} {fe : ME} : mAsgG tg fe σ st = (fe σ st).toS σ fun x st1 => match tg x.d σ st1 with | some σ1 => .nx σ1 st1 | none => .bad := (id rfl)
@[simp] theorem fM1_eq {op : D → D → Store → R T} {fo fe : ME} : fM1 op fo fe σ st = (fo σ st).bind fun x st1 => match x.d with | .str a => (fe σ st1).bind fun y st2 => op (.str a) y.d st2 | _ => .bad := (id rfl)
@[simp] theorem fM0_eq {op : D → Store → R T} {fo : ME} : fM0 op fo σ st = (fo σ st).bind fun x st1 => match x.d with | .str a => op (.str a) st1 | _ => .bad := (id rfl)
@[simp] theorem fTru_eq {fe : ME} : fTru fe σ st = (fe σ st).bind fun x st1 => match D.tru st1 x.d with | some b => .ok b st1 | none => .bad := (id rfl)
@[simp] theorem fKIx_eq {g : Str → Option D} {fe : ME} : fKIx g fe σ st = (fe σ st).bind fun x st1 => match x.d with | .str z => (match g z with | some d => okS d st1 | none => .bad) | _ => .bad := (id rfl)
@[simp] theorem fiSeq_eq {fe : ME} : fiSeq fe σ st = (fe σ st).bind fun x st1 => seqSrc st1 x.d := (id rfl)
@[simp] theorem fiRng1_eq {fa : MA} : fiRng1 fa σ st = (fa σ st).bind fun xs st1 => rng1 st1 xs := (id rfl)
@[simp] theorem fiRng2_eq {fa : MA} : fiRng2 fa σ st = (fa σ st).bind fun xs st1 => rng2 st1 xs := (id rfl)
@[simp] theorem fiZip_eq {fa : MA} : fiZip fa σ st = (fa σ st).bind fun xs st1 => zip2 st1 xs := (id rfl)
@[simp] theorem fiKeys_eq {ks : List Str} : fiKeys ks σ st = .ok (.val (ks.map D.str)) st := (id rfl)
@[simp] theorem gdName_eq {i : Nat} {d : D} : gdName i d σ st = some (σ.set i (some d)) := (id rfl)
@[simp] theorem gdNil_eq : gdNil [] σ st = some σ := (id rfl)
@[simp] theorem gdCons_eq {f : MG} {g : MGs} {d : D} {r : List D} : gdCons f g (d :: r) σ st = (f d σ st).bind fun σ1 => g r σ1 st := (id rfl)
@[simp] theorem gdTup_eq {n : Nat} {g : MGs} {ds : List D} : gdTup n g (.tup ds) σ st = if ds.length = n then g ds σ st else none := (id rfl)
@[simp] theorem mFor_eq {fi : MI} {tg : MG} {b : MS} : mFor fi tg b σ st = match fi σ st with | .ok src st1 => forL src tg b src.items σ st1 | .exc x st1 => .exc x σ st1 | .bad => .bad := (id rfl)
@[simp] theorem fLc_eq {fi : MI} {tg : MG} {ft : MT} {fe : ME} {vs : List Nat} : fLc fi tg ft fe vs σ st = (fi σ st).bind fun src st1 => lcL src tg ft fe (wipeD σ vs) src.items [] st1 := (id rfl)
@[simp] theorem fLc2_eq {fi : MI} {tg : MG} {fi1 : MI} {tg1 : MG} {ft1 : MT} {fe : ME} {vs vs1 : List Nat} : fLc2 fi tg fi1 tg1 ft1 fe vs vs1 σ st = (fi σ st).bind fun src st1 => lcO src tg fi1 tg1 ft1 fe (wipeD σ vs) vs1 src.items [] st1 := (id rfl)
@[simp] theorem wipeD_nil : wipeD σ [] = σ := (id rfl)
@[simp] theorem wipeD_cons {i : Nat} {r : List Nat} : wipeD σ (i :: r) = (wipeD σ r).set i none := (id rfl)
@[simp] theorem items_val {xs : List D} : (Src.val xs).items = xs := (id rfl)
@[simp] theorem items_live {k : Nat} {xs : List D} : (Src.live k xs).items = xs := (id rfl)
@[simp] theorem okAt_val {xs : List D} : (Src.val xs).okAt st = True := (id rfl)
@[simp] theorem okAt_live {k : Nat} {xs : List D} : (Src.live k xs).okAt st = (st[k]? = some (.lst xs)) := (id rfl)
@[simp] theorem mFn0_eq {N : Nat} {b : MS} {args : List D} : mFn0 N b args st = (mFn N b args st).pure0 := (id rfl)
@[simp] theorem mFn_eq {N : Nat} {b : MS} {args : List D} : mFn N b args st = match b (args.map some ++ List.replicate (N - args.length) none) st with | .nx _ st' => .ok (.s .non) st' | .rt t st' => .ok t st' | .exc x _ st' => .exc x st' | _ => .bad := (id rfl)
/-! lists -/
@[simp] theorem lstR_ro {ds : List D} : lstR st (.ro ds) = some ds := (id rfl)
@[simp] theorem lstR_rk {ds : List D} : lstR st (.rk ds) = some ds := (id rfl)
@[simp] theorem lstR_ref {k : Nat} : lstR st (.ref k) = match st[k]? with | some (.lst ds) => some ds | _ => none := (id rfl)
@[simp] theorem lstW_ro {ds : List D} : lstW st (.ro ds) = some ds := (id rfl)
@[simp] theorem lstW_ref {k : Nat} : lstW st (.ref k) = match st[k]? with | some (.lst ds) => some ds | _ => none := (id rfl)
@[simp] theorem seqSrc_tup {ds : List D} : seqSrc st (.tup ds) = .ok (.val ds) st := (id rfl)
@[simp] theorem seqSrc_ro {ds : List D} : seqSrc st (.ro ds) = .ok (.val ds) st := (id rfl)
@[simp] theorem seqSrc_rk {ds : List D} : seqSrc st (.rk ds) = .ok (.val ds) st := (id rfl)
@[simp] theorem seqSrc_str {z : Str} : seqSrc st (.str z) = .ok (.val (strD z)) st := (id rfl)
@[simp] theorem seqSrc_ref {k : Nat} : seqSrc st (.ref k) = match st[k]? with | some (.lst ds) => .ok (.live k ds) st | _ => .bad := (id rfl)
@[simp] theorem rng1_int {j : Int} : rng1 st [.int j] = if -(2 ^ 62) ≤ j ∧ j < 2 ^ 62 then .ok (.val (rngD 0 j.toNat)) st else .bad := (id rfl)
@[simp] theorem rng2_int {i j : Int} : rng2 st [.int i, .int j] = if -(2 ^ 62) ≤ i ∧ i < 2 ^ 62 ∧ -(2 ^ 62) ≤ j ∧ j < 2 ^ 62 then .ok (.val (rngD i (j - i).toNat)) st else .bad := (id rfl)
/-! operators -/
@[simp] theorem opAdd_int {i j : Int} : opAdd (.int i) (.int j) st = okS (.int (i + j)) st := (id rfl)
@[simp] theorem opAdd_str {i j : Str} : opAdd (.str i) (.str j) st = if i.length + j.length ≤ sizeLine then okS (.str (i ++ j)) st else .bad := (id rfl)
@[simp] theorem opAdd_tup {i j : List D} : opAdd (.tup i) (.tup j) st = if i.isEmpty = false ∧ i.length + j.length ≤ sizeLine then okS (.tup (i ++ j)) st else .bad := (id rfl)
@[simp] theorem opAdd_ro {xs : List D} {y : D} : opAdd (.ro xs) y st = match lstW st y with | some ys => if xs.length + ys.length ≤ sizeLine then .ok (.l (xs ++ ys)) st else .bad | none => .bad := by
  show (match lstW st (.ro xs), lstW st y with | some xs, some ys => if xs.length + ys.length ≤ sizeLine then R.ok (T.l (xs ++ ys)) st else .bad | _, _ => .bad) = _
  rw [lstW_ro]
  cases lstW st y <;> rfl
@[simp] theorem opAdd_ref {k : Nat} {y : D} : opAdd (.ref k) y st = match st[k]?, lstW st y with | some (.lst xs), some ys => if xs.length + ys.length ≤ sizeLine then .ok (.l (xs ++ ys)) st else .bad | _, _ => .bad := by
  show (match lstW st (.ref k), lstW st y with | some xs, some ys => if xs.length + ys.length ≤ sizeLine then R.ok (T.l (xs ++ ys)) st else .bad | _, _ => .bad) = _
  rw [lstW_ref]
  cases lstW st y <;> cases st[k]? <;> first | rfl | (rename_i so; cases so <;> rfl) | (rename_i a so; cases so <;> rfl)
@[simp] theorem opSub_int {i j : Int} : opSub (.int i) (.int j) st = okS (.int (i - j)) st := (id rfl)
@[simp] theorem opMul_int {i j : Int} : opMul (.int i) (.int j) st = if (-(2 ^ 64) < i ∧ i < 2 ^ 64) ∨ (-(2 ^ 64) < j ∧ j < 2 ^ 64) then okS (.int (i * j)) st else .bad := (id rfl)
@[simp] theorem opMul_ro {xs : List D} {k : Int} : opMul (.ro xs) (.int k) st = if -(2 ^ 63) ≤ k ∧ k < 2 ^ 63 ∧ xs.length * k.toNat ≤ sizeLine then .ok (.l (List.replicate k.toNat xs).flatten) st else .bad := (id rfl)
@[simp] theorem opFdiv_int {i j : Int} : opFdiv (.int i) (.int j) st = if 0 < j ∧ j < 1073741824 then okS (.int (i / j)) st else .bad := (id rfl)
@[simp] theorem opMod_int {i j : Int} : opMod (.int i) (.int j) st = if 0 < j then okS (.int (i % j)) st else .bad := (id rfl)
@[simp] theorem opPow_int {i j : Int} : opPow (.int i) (.int j) st = if 0 ≤ j ∧ (Builtin.Int.intBits i : Int) * j ≤ 2 ^ 27 then okS (.int (i ^ j.toNat)) st else .bad := (id rfl)
@[simp] theorem unNeg_int {i : Int} : unNeg (.int i) st = okS (.int (-i)) st := (id rfl)
@[simp] theorem opCmp_int {c : Int → Int → Bool} {i j : Int} : opCmp c (.int i) (.int j) st = okS (.bl (c i j)) st := (id rfl)
@[simp] theorem opEq_int {i j : Int} : opEq (.int i) (.int j) st = okS (.bl (decide (i = j))) st := (id rfl)
@[simp] theorem opEq_str {i j : Str} : opEq (.str i) (.str j) st = okS (.bl (decide (i = j))) st := (id rfl)
@[simp] theorem opEq_bl {i j : Bool} : opEq (.bl i) (.bl j) st = okS (.bl (decide (i = j))) st := (id rfl)
@[simp] theorem opNe_int {i j : Int} : opNe (.int i) (.int j) st = okS (.bl (!decide (i = j))) st := (id rfl)
@[simp] theorem opNe_str {i j : Str} : opNe (.str i) (.str j) st = okS (.bl (!decide (i = j))) st := (id rfl)
@[simp] theorem opNe_bl {i j : Bool} : opNe (.bl i) (.bl j) st = okS (.bl (!decide (i = j))) st := (id rfl)
@[simp] theorem ipAdd_int {i j : Int} : ipAdd (.int i) (.int j) st = okS (.int (i + j)) st := (id rfl)
/-! items -/
theorem atI_eq (xs : List α) (i : Int) : L2.atI xs i = if 0 ≤ i then xs[i.toNat]? else if -(xs.length : Int) ≤ i then xs[(i + xs.length).toNat]? else none := by
  unfold L2.atI ixN
  by_cases h : 0 ≤ i
  · rw [if_pos h, if_pos h]
    by_cases h2 : i < xs.length
    · rw [if_pos h2]
      rfl
    · rw [if_neg h2]
      show none = _
      rw [List.getElem?_eq_none]
      omega
  · rw [if_neg h, if_neg h]
    by_cases h2 : -(xs.length : Int) ≤ i
    · rw [if_pos h2, if_pos h2]
      rfl
    · rw [if_neg h2, if_neg h2]
      rfl
@[simp] theorem opIx_tup {ds : List D} {i : Int} : opIx (.tup ds) (.int i) st = match L2.atI ds i with | some d => okS d st | none => .bad := (id rfl)
@[simp] theorem opIx_ro {ds : List D} {i : Int} : opIx (.ro ds) (.int i) st = match L2.atI ds i with | some d => okS d st | none => .bad := (id rfl)
@[simp] theorem opIx_rk {ds : List D} {i : Int} : opIx (.rk ds) (.int i) st = match L2.atI ds i with | some d => okS d st | none => .bad := (id rfl)
@[simp] theorem opIx_ref {k : Nat} {i : Int} : opIx (.ref k) (.int i) st = match st[k]? with | some (.lst ds) => (match L2.atI ds i with | some d => okS d st | none => .bad) | _ => .bad := by
  show (match lstR st (.ref k) with | some ds => (match L2.atI ds i with | some d => okS d st | none => .bad) | none => .bad) = _
  rw [lstR_ref]
  cases st[k]? with
  | none => rfl
  | some so => cases so <;> rfl
@[simp] theorem opIx_str {z : Str} {i : Int} : opIx (.str z) (.int i) st = if z.length ≤ sizeLine then (match L2.atI z.cps.toList i with | some c => okS (.str ⟨#[c]⟩) st | none => .bad) else .bad := (id rfl)
@[simp] theorem slD_tup {lo hi : Option Int} {ds : List D} : slD st lo hi (.tup ds) = if HT.sIx ds.length 0 lo = 0 ∧ HT.sIx ds.length ds.length hi = ds.length then .bad else okS (.tup (cutD ds lo hi)) st := (id rfl)
@[simp] theorem setIx_ref {k : Nat} {j : Int} {y : D} : setIx (.ref k) (.int j) y σ st = match st[k]? with | some (.lst ds) => (match ixN ds.length j with | some n => .nx σ (st.set k (.lst (ds.set n y))) | none => .bad) | _ => .bad := (id rfl)
@[simp] theorem opAppend_ref {k : Nat} {y : D} : opAppend (.ref k) [y] st = match st[k]? with | some (.lst ds) => if ds.length < sizeLine then okS .non (st.set k (.lst (ds ++ [y]))) else .bad | _ => .bad := (id rfl)
@[simp] theorem opExtend_ref {k : Nat} {y : D} : opExtend (.ref k) [y] st = match st[k]?, lstW st y with | some (.lst ds), some es => if ds.length + es.length ≤ sizeLine then okS .non (st.set k (.lst (ds ++ es))) else .bad | _, _ => .bad := (id rfl)
/-! built-ins -/
@[simp] theorem cLen_tup {ds : List D} : cLen [.tup ds] st = okS (.int ds.length) st := (id rfl)
@[simp] theorem cLen_ro {ds : List D} : cLen [.ro ds] st = okS (.int ds.length) st := (id rfl)
@[simp] theorem cLen_rk {ds : List D} : cLen [.rk ds] st = okS (.int ds.length) st := (id rfl)
@[simp] theorem cLen_str {z : Str} : cLen [.str z] st = if z.length ≤ sizeLine then okS (.int z.length) st else .bad := (id rfl)
@[simp] theorem cLen_ref {k : Nat} : cLen [.ref k] st = match st[k]? with | some (.lst ds) => okS (.int ds.length) st | _ => .bad := by
  show (match lstR st (.ref k) with | some ds => okS (.int ds.length) st | none => .bad) = _
  rw [lstR_ref]
  cases st[k]? with
  | none => rfl
  | some so => cases so <;> rfl
@[simp] theorem cInt_int {i : Int} : cInt [.int i] st = okS (.int i) st := (id rfl)
@[simp] theorem cInt_bl {b : Bool} : cInt [.bl b] st = okS (.int (if b then 1 else 0)) st := (id rfl)
@[simp] theorem cList_tup {ds : List D} : cList [.tup ds] st = .ok (.l ds) st := (id rfl)
@[simp] theorem cList_ro {ds : List D} : cList [.ro ds] st = .ok (.l ds) st := (id rfl)
@[simp] theorem cTup_ro {ds : List D} : cTup [.ro ds] st = okS (.tup ds) st := (id rfl)
@[simp] theorem cTup_tup {ds : List D} : cTup [.tup ds] st = okS (.tup ds) st := (id rfl)
@[simp] theorem cTup_ref {k : Nat} : cTup [.ref k] st = match st[k]? with | some (.lst ds) => okS (.tup ds) st | _ => .bad := by
  show (match lstR st (.ref k) with | some ds => okS (.tup ds) st | none => .bad) = _
  rw [lstR_ref]
  cases st[k]? with
  | none => rfl
  | some so => cases so <;> rfl
@[simp] theorem cIsi_ty {x : D} {n : String} : cIsi [x, .vv (.ty n)] st = match D.ty st x with | some m => (match kitB m n with | some b => okS (.bl b) st | none => .bad) | none => .bad := (id rfl)
@[simp] theorem ty_non : D.ty st .non = some "NoneType" := (id rfl)
@[simp] theorem ty_bl {b : Bool} : D.ty st (.bl b) = some "bool" := (id rfl)
@[simp] theorem ty_int {b : Int} : D.ty st (.int b) = some "int" := (id rfl)
@[simp] theorem ty_str {b : Str} : D.ty st (.str b) = some "str" := (id rfl)
@[simp] theorem ty_tup {b : List D} : D.ty st (.tup b) = some "tuple" := (id rfl)
@[simp] theorem ty_ro {b : List D} : D.ty st (.ro b) = some "list" := (id rfl)
@[simp] theorem ty_rk {b : List D} : D.ty st (.rk b) = some "list" := (id rfl)
@[simp] theorem ty_ref {k : Nat} : D.ty st (.ref k) = match st[k]? with | some (.lst _) => some "list" | some (.dct _) => some "dict" | some (.set _ _) => some "set" | _ => none := (id rfl)
@[simp] theorem tru_bl {b : Bool} : D.tru st (.bl b) = some b := (id rfl)
@[simp] theorem tru_int {b : Int} : D.tru st (.int b) = some (b != 0) := (id rfl)
@[simp] theorem tru_tup {b : List D} : D.tru st (.tup b) = some (!b.isEmpty) := (id rfl)
@[simp] theorem tru_ro {b : List D} : D.tru st (.ro b) = some (!b.isEmpty) := (id rfl)
@[simp] theorem tru_ref {k : Nat} : D.tru st (.ref k) = match st[k]? with | some (.lst ds) => some (!ds.isEmpty) | _ => none := (id rfl)
@[simp] theorem kit_int_int : kitB "int" "int" = some true := by decide +kernel
@[simp] theorem kit_bool_int : kitB "bool" "int" = some true := by decide +kernel
@[simp] theorem kit_str_int : kitB "str" "int" = some false := by decide +kernel
@[simp] theorem kit_tuple_int : kitB "tuple" "int" = some false := by decide +kernel
@[simp] theorem kit_list_int : kitB "list" "int" = some false := by decide +kernel
@[simp] theorem kit_non_int : kitB "NoneType" "int" = some false := by decide +kernel
@[simp] theorem kit_int_bool : kitB "int" "bool" = some false := by decide +kernel
@[simp] theorem kit_bool_bool : kitB "bool" "bool" = some true := by decide +kernel
@[simp] theorem kit_str_bool : kitB "str" "bool" = some false := by decide +kernel
@[simp] theorem kit_tuple_bool : kitB "tuple" "bool" = some false := by decide +kernel
@[simp] theorem kit_list_bool : kitB "list" "bool" = some false := by decide +kernel
@[simp] theorem kit_non_bool : kitB "NoneType" "bool" = some false := by decide +kernel
@[simp] theorem kit_int_str : kitB "int" "str" = some false := by decide +kernel
@[simp] theorem kit_bool_str : kitB "bool" "str" = some false := by decide +kernel
@[simp] theorem kit_str_str : kitB "str" "str" = some true := by decide +kernel
@[simp] theorem kit_tuple_str : kitB "tuple" "str" = some false := by decide +kernel
@[simp] theorem kit_list_str : kitB "list" "str" = some false := by decide +kernel
@[simp] theorem kit_int_list : kitB "int" "list" = some false := by decide +kernel
@[simp] theorem kit_bool_list : kitB "bool" "list" = some false := by decide +kernel
@[simp] theorem kit_str_list : kitB "str" "list" = some false := by decide +kernel
@[simp] theorem kit_tuple_list : kitB "tuple" "list" = some false := by decide +kernel
@[simp] theorem kit_list_list : kitB "list" "list" = some true := by decide +kernel
@[simp] theorem kit_int_tuple : kitB "int" "tuple" = some false := by decide +kernel
@[simp] theorem kit_bool_tuple : kitB "bool" "tuple" = some false := by decide +kernel
@[simp] theorem kit_str_tuple : kitB "str" "tuple" = some false := by decide +kernel
@[simp] theorem kit_tuple_tuple : kitB "tuple" "tuple" = some true := by decide +kernel
@[simp] theorem kit_list_tuple : kitB "list" "tuple" = some false := by decide +kernel
end
/-! loops -/
section
variable {tg : MG} {b : MS} {xs0 : List D} {σ : DS} {st : Store}
@[simp] theorem forL_nil : forL (.val xs0) tg b [] σ st = .nx σ st := by
  unfold forL
  simp
theorem forL_cons {d : D} {r : List D} : forL (.val xs0) tg b (d :: r) σ st = match tg d σ st with
      | none => .bad
      | some σ1 => match b σ1 st with
        | .nx σ2 st2 => forL (.val xs0) tg b r σ2 st2
        | .ct σ2 st2 => forL (.val xs0) tg b r σ2 st2
        | .bk σ2 st2 => .nx σ2 st2
        | .rt t st2 => .rt t st2
        | .exc x σ2 st2 => .exc x σ2 st2
        | .bad => .bad := by
  conv => lhs; unfold forL
  refine (if_pos (show (Src.val xs0).okAt st from trivial)).trans ?_
  cases tg d σ st with
  | none => rfl
  | some σ1 => cases b σ1 st <;> rfl
/-- a loop whose turns all go on -/
theorem forL_run {src : Src} (P : Nat → DS → Store → Prop) : ∀ (items : List D) (i : Nat) (σ : DS) (st : Store), P i σ st → (∀ j σ st, P j σ st → src.okAt st) →
    (∀ j d σ st, items[j]? = some d → P (i + j) σ st → ∃ σ1, tg d σ st = some σ1 ∧ ∃ σ2 st2, (b σ1 st = .nx σ2 st2 ∨ b σ1 st = .ct σ2 st2) ∧ P (i + j + 1) σ2 st2) →
    ∃ σ' st', forL src tg b items σ st = .nx σ' st' ∧ P (i + items.length) σ' st'
  | [], i, σ, st, h, ok, _ => ⟨σ, st, by unfold forL; rw [if_pos (ok _ _ _ h)], h⟩
  | d :: r, i, σ, st, h, ok, turn => by
    obtain ⟨σ1, h1, σ2, st2, h2, h3⟩ := turn 0 d σ st rfl h
    obtain ⟨σ', st', e, p⟩ := forL_run P r (i + 1) σ2 st2 h3 ok fun j d' σ'' st'' hj hp => by
      have := turn (j + 1) d' σ'' st'' (by simpa using hj) (by rw [show i + (j + 1) = i + 1 + j by omega]; exact hp)
      rwa [show i + (j + 1) + 1 = i + 1 + j + 1 by omega] at this
    refine ⟨σ', st', ?_, by rw [List.length_cons, show i + (r.length + 1) = i + 1 + r.length by omega]; exact p⟩
    unfold forL
    rw [if_pos (ok _ _ _ h), h1]
    rcases h2 with h2 | h2
    · simp only [h2, e]
    · simp only [h2, e]
variable {ft : MT} {fe : ME}
theorem lcL_run {src : Src} (P : Nat → List D → Store → Prop) : ∀ (items : List D) (i : Nat) (acc : List D) (st : Store), P i acc st → (∀ j acc st, P j acc st → src.okAt st) →
    (∀ j d acc st, items[j]? = some d → P (i + j) acc st → ∃ σ1, tg d σ st = some σ1 ∧ ∃ k st1, ft σ1 st = .ok k st1 ∧ ((k = false ∧ P (i + j + 1) acc st1) ∨ (k = true ∧ acc.length < sizeLine ∧ ∃ x st2, fe σ1 st1 = .ok x st2 ∧ P (i + j + 1) (acc ++ [x.d]) st2))) →
    ∃ acc' st', lcL src tg ft fe σ items acc st = .ok (.l acc') st' ∧ P (i + items.length) acc' st'
  | [], i, acc, st, h, ok, _ => ⟨acc, st, by unfold lcL; rw [if_pos (ok _ _ _ h)], h⟩
  | d :: r, i, acc, st, h, ok, turn => by
    have next : ∀ acc2 st2, P (i + 1) acc2 st2 → ∃ acc' st', lcL src tg ft fe σ r acc2 st2 = .ok (.l acc') st' ∧ P (i + (r.length + 1)) acc' st' := fun acc2 st2 h3 => by
      obtain ⟨a', s', e, p⟩ := lcL_run P r (i + 1) acc2 st2 h3 ok fun j d' a'' s'' hj hp => by
        have := turn (j + 1) d' a'' s'' (by simpa using hj) (by rw [show i + (j + 1) = i + 1 + j by omega]; exact hp)
        rwa [show i + (j + 1) + 1 = i + 1 + j + 1 by omega] at this
      exact ⟨a', s', e, by rw [show i + (r.length + 1) = i + 1 + r.length by omega]; exact p⟩
    obtain ⟨σ1, h1, k, st1, h2, h3⟩ := turn 0 d acc st rfl h
    rcases h3 with ⟨hk, h3⟩ | ⟨hk, hz, x, st2, h3, h4⟩
    · obtain ⟨a', s', e, p⟩ := next _ _ h3
      refine ⟨a', s', ?_, p⟩
      unfold lcL
      rw [if_pos (ok _ _ _ h), h1]
      simp only [h2, hk, Bool.false_eq_true, if_false]
      exact e
    · obtain ⟨a', s', e, p⟩ := next _ _ h4
      refine ⟨a', s', ?_, p⟩
      unfold lcL
      rw [if_pos (ok _ _ _ h), h1]
      simp only [h2, hk, if_true, h3, if_pos hz]
      exact e
end
theorem line_ge : 16777216 = sizeLine := by rw [sizeLine_eq]
end Q3

/-! Q3: the defs that the laws share, and what they do. -/
namespace Q3
open PySem PySem.Spec PyProof.Rows L2
noncomputable def lb_is_integer : MS :=
    (mRet (fAndV (fArgs cIsi (fCons (fVar 0) (fCons (fC (.vv (.ty "int"))) fNil))) (fNotV (fArgs cIsi (fCons (fVar 0) (fCons (fC (.vv (.ty "bool"))) fNil))))))
noncomputable def lb_cell : MS :=
    (mSeq (mIf (tVal (fBin (opCmp cLt) (fVar 1) (fArgs cLen (fCons (fVar 0) fNil))))
    (mRet (fBin opIx (fVar 0) (fVar 1)))
    mNil)
    (mRet (fC (.int 0))))
noncomputable def lb_list_is (c_is_integer : Fn) : MS :=
    (mSeq (mIf (tOrF (tNotF (fTru (fArgs cIsi (fCons (fVar 0) (fCons (fC (.vv (.ty "list"))) fNil))))) (tVal (fBin opNe (fArgs cLen (fCons (fVar 0) fNil)) (fArgs cLen (fCons (fVar 1) fNil)))))
    (mRet (fC (.bl false)))
    mNil)
    (mSeq (mFor (fiRng1 (fCons (fArgs cLen (fCons (fVar 1) fNil)) fNil)) (gdName 2)
    (mIf (tOrF (tNotF (fTru (fCall0 c_is_integer (fCons (fBin opIx (fVar 0) (fVar 2)) fNil)))) (tVal (fBin opNe (fBin opIx (fVar 0) (fVar 2)) (fBin opIx (fVar 1) (fVar 2)))))
    (mRet (fC (.bl false)))
    mNil))
    (mRet (fC (.bl true)))))
noncomputable def lb_same (c_same : Fn) (c_is_integer : Fn) : MS :=
    (mSeq (mIf (fTru (fArgs cIsi (fCons (fVar 1) (fCons (fC (.vv (.ty "tuple"))) fNil))))
    (mSeq (mIf (tOrF (tNotF (fTru (fArgs cIsi (fCons (fVar 0) (fCons (fC (.vv (.ty "tuple"))) fNil))))) (tVal (fBin opNe (fArgs cLen (fCons (fVar 0) fNil)) (fArgs cLen (fCons (fVar 1) fNil)))))
    (mRet (fC (.bl false)))
    mNil)
    (mSeq (mFor (fiRng1 (fCons (fArgs cLen (fCons (fVar 1) fNil)) fNil)) (gdName 2)
    (mIf (tNotF (fTru (fCall0 c_same (fCons (fBin opIx (fVar 0) (fVar 2)) (fCons (fBin opIx (fVar 1) (fVar 2)) fNil)))))
    (mRet (fC (.bl false)))
    mNil))
    (mRet (fC (.bl true)))))
    mNil)
    (mSeq (mIf (fTru (fArgs cIsi (fCons (fVar 1) (fCons (fC (.vv (.ty "bool"))) fNil))))
    (mRet (fAndV (fArgs cIsi (fCons (fVar 0) (fCons (fC (.vv (.ty "bool"))) fNil))) (fBin opEq (fVar 0) (fVar 1))))
    mNil)
    (mSeq (mIf (fTru (fArgs cIsi (fCons (fVar 1) (fCons (fC (.vv (.ty "int"))) fNil))))
    (mRet (fAndV (fCall0 c_is_integer (fCons (fVar 0) fNil)) (fBin opEq (fVar 0) (fVar 1))))
    mNil)
    (mRet (fAndV (fArgs cIsi (fCons (fVar 0) (fCons (fC (.vv (.ty "str"))) fNil))) (fBin opEq (fVar 0) (fVar 1)))))))
noncomputable def lb_pair_is (c_same : Fn) (c_is_integer : Fn) : MS :=
    (mSeq (mIf (tOrF (tNotF (fTru (fArgs cIsi (fCons (fVar 0) (fCons (fC (.vv (.ty "tuple"))) fNil))))) (tVal (fBin opNe (fArgs cLen (fCons (fVar 0) fNil)) (fC (.int 2)))))
    (mRet (fC (.bl false)))
    mNil)
    (mRet (fAndV (fCall0 c_same (fCons (fBin opIx (fVar 0) (fC (.int 0))) (fCons (fVar 1) fNil))) (fAndV (fCall0 c_is_integer (fCons (fBin opIx (fVar 0) (fC (.int 1))) fNil)) (fBin opEq (fBin opIx (fVar 0) (fC (.int 1))) (fVar 2))))))
noncomputable def lb_digits (c_cell : Fn) : MS :=
    (mSeq (mSet 3 (fMat (fLst fNil)))
    (mSeq (mFor (fiRng2 (fCons (fVar 1) (fCons (fVar 2) fNil))) (gdName 4)
    (mSeq (mSet 5 (fCall0 c_cell (fCons (fVar 0) (fCons (fVar 4) fNil))))
    (mSeq (mIf (tVal (fBin (opCmp cLt) (fVar 5) (fC (.int 0))))
    (mSet 5 (fBin opSub (fC (.int 1)) (fBin opMul (fC (.int 2)) (fVar 5))))
    mNil)
    (mIf (tVal (fBin (opCmp cGe) (fVar 5) (fBin opPow (fC (.int 10)) (fC (.int 18)))))
    (mFor (fiRng1 (fCons (fC (.int 60)) fNil)) (gdName 6)
    (mIf (tVal (fBin (opCmp cGt) (fVar 5) (fC (.int 0))))
    (mSeq (mExpr (fBML opAppend (fVar 3) (fCons (fBin opMod (fArgs cInt (fCons (fVar 5) fNil)) (fC (.int 1000))) fNil)))
    (mSet 5 (fBin opFdiv (fVar 5) (fC (.int 1000)))))
    mNil))
    (mSeq (mSet 7 (fBin opMod (fArgs cInt (fCons (fBin opAdd (fBin opAdd (fBin opMul (fVar 5) (fC (.int 48271))) (fBin opMul (fVar 4) (fC (.int 69621)))) (fC (.int 11))) fNil)) (fC (.int 2147483647))))
    (mFor (fiRng1 (fCons (fC (.int 12)) fNil)) (gdName 6)
    (mSeq (mSet 7 (fBin opMod (fArgs cInt (fCons (fBin opAdd (fBin opAdd (fBin opMul (fVar 7) (fC (.int 16807))) (fBin opMul (fC (.int 7)) (fVar 6))) (fC (.int 1))) fNil)) (fC (.int 2147483647))))
    (mExpr (fBML opAppend (fVar 3) (fCons (fBin opMod (fArgs cInt (fCons (fBin opFdiv (fVar 7) (fC (.int 997))) fNil)) (fC (.int 1000))) fNil))))))))))
    (mRet (fVar 3))))
noncomputable def lb_draw : MS :=
    (mSeq (mSet 2 (fBin opIx (fVar 0) (fC (.int 1))))
    (mSeq (mSetIx (fBin opAdd (fVar 2) (fC (.int 1))) (fVar 0) (fC (.int 1)))
    (mSeq (mIf (tVal (fBin (opCmp cLt) (fVar 2) (fArgs cLen (fCons (fBin opIx (fVar 0) (fC (.int 0))) fNil))))
    (mRet (fBin opMod (fArgs cInt (fCons (fBin opIx (fBin opIx (fVar 0) (fC (.int 0))) (fVar 2)) fNil)) (fVar 1)))
    mNil)
    (mRet (fBin opMod (fArgs cInt (fCons (fBin opAdd (fBin opMul (fVar 2) (fC (.int 7))) (fC (.int 3))) fNil)) (fVar 1))))))
noncomputable def lb_signs : MS :=
    (mSeq (mSet 0 (fC (.str "\x0a !\"#$&'()*+,-./0123456789:;<=>?@ABCDEFGHIJKLMNOPQRSTUVWXYZ[\\]^_`")))
    (mRet (fBin opAdd (fVar 0) (fC (.str "abcdefghijklmnopqrstuvwxyz{|}~")))))
noncomputable def lb_text (c_signs : Fn) (c_draw : Fn) : MS :=
    (mSeq (mSet 2 (fCall0 c_signs fNil))
    (mSeq (mSet 3 (fCall0 c_draw (fCons (fVar 0) (fCons (fBin opAdd (fVar 1) (fC (.int 1))) fNil))))
    (mRet (fM1 opJoin (fC (.str "")) (fLc (fiRng1 (fCons (fVar 3) fNil)) (gdName 4) (fun _ st => .ok true st) (fBin opIx (fVar 2) (fCall0 c_draw (fCons (fVar 0) (fCons (fC (.int 95)) fNil)))) [4])))))
noncomputable def lb_name (c_draw : Fn) : MS :=
    (mSeq (mSet 1 (fC (.str "abcdefghijklmnopqrstuvwxyz_")))
    (mSeq (mSet 2 (fBin opAdd (fC (.int 1)) (fCall0 c_draw (fCons (fVar 0) (fCons (fC (.int 5)) fNil)))))
    (mRet (fM1 opJoin (fC (.str "")) (fLc (fiRng1 (fCons (fVar 2) fNil)) (gdName 3) (fun _ st => .ok true st) (fBin opIx (fVar 1) (fCall0 c_draw (fCons (fVar 0) (fCons (fC (.int 27)) fNil)))) [3])))))
noncomputable def lb_number (c_draw : Fn) : MS :=
    (mSeq (mSet 1 (fBin opPow (fBin opPow (fC (.int 2)) (fC (.int 64))) (fC (.int 4))))
    (mSeq (mSet 2 (fCall0 c_draw (fCons (fVar 0) (fCons (fC (.int 8)) fNil))))
    (mSeq (mSet 3 (fCall0 c_draw (fCons (fVar 0) (fCons (fC (.int 300)) fNil))))
    (mSeq (mIf (tVal (fBin opEq (fVar 2) (fC (.int 0))))
    (mSet 3 (fBin opSub (fBin opSub (fVar 1) (fC (.int 1))) (fVar 3)))
    (mIf (tVal (fBin opEq (fVar 2) (fC (.int 1))))
    (mFor (fiRng1 (fCons (fCall0 c_draw (fCons (fVar 0) (fCons (fC (.int 24)) fNil))) fNil)) (gdName 4)
    (mSet 3 (fBin opMod (fArgs cInt (fCons (fBin opAdd (fBin opMul (fVar 3) (fC (.int 1000))) (fCall0 c_draw (fCons (fVar 0) (fCons (fC (.int 1000)) fNil)))) fNil)) (fVar 1))))
    (mIf (tVal (fBin opEq (fVar 2) (fC (.int 2))))
    (mSet 3 (fBin opIx (fLst (fCons (fC (.int 0)) (fCons (fC (.int 1)) (fCons (fC (.int 63)) (fCons (fC (.int 64)) (fCons (fC (.int 127)) (fCons (fC (.int 128)) (fCons (fC (.int 8191)) (fCons (fC (.int 8192)) fNil))))))))) (fCall0 c_draw (fCons (fVar 0) (fCons (fC (.int 8)) fNil)))))
    mNil)))
    (mSeq (mIf (tVal (fBin opEq (fCall0 c_draw (fCons (fVar 0) (fCons (fC (.int 2)) fNil))) (fC (.int 1))))
    (mRet (fUn unNeg (fVar 3)))
    mNil)
    (mRet (fVar 3)))))))
noncomputable def lb_value (c_draw : Fn) (c_number : Fn) (c_text : Fn) (c_name : Fn) : MS :=
    (mSeq (mSet 2 (fCall0 c_draw (fCons (fVar 0) (fCons (fC (.int 10)) fNil))))
    (mSeq (mIf (tVal (fBin opEq (fVar 2) (fC (.int 0))))
    (mRet (fTup (fCons (fC (.str "none")) fNil)))
    mNil)
    (mSeq (mIf (tVal (fBin opEq (fVar 2) (fC (.int 1))))
    (mRet (fTup (fCons (fC (.str "bool")) (fCons (fBin opEq (fCall0 c_draw (fCons (fVar 0) (fCons (fC (.int 2)) fNil))) (fC (.int 1))) fNil))))
    mNil)
    (mSeq (mIf (tVal (fBin opEq (fVar 2) (fC (.int 2))))
    (mRet (fTup (fCons (fC (.str "int")) (fCons (fCall0 c_number (fCons (fVar 0) fNil)) fNil))))
    mNil)
    (mSeq (mIf (tVal (fBin opEq (fVar 2) (fC (.int 3))))
    (mRet (fTup (fCons (fC (.str "text")) (fCons (fCall0 c_text (fCons (fVar 0) (fCons (fC (.int 12)) fNil))) fNil))))
    mNil)
    (mSeq (mIf (tVal (fBin opEq (fVar 2) (fC (.int 4))))
    (mSeq (mSet 3 (fCall0 c_number (fCons (fVar 0) fNil)))
    (mRet (fTup (fCons (fC (.str "span")) (fCons (fVar 3) (fCons (fBin opAdd (fVar 3) (fBin opMul (fCall0 c_draw (fCons (fVar 0) (fCons (fC (.int 3)) fNil))) (fArgs cInt (fCons (fBin (opCmp cLt) (fVar 3) (fBin opPow (fC (.int 10)) (fC (.int 20)))) fNil)))) fNil))))))
    mNil)
    (mSeq (mIf (tVal (fBin opEq (fVar 2) (fC (.int 5))))
    (mRet (fTup (fCons (fC (.str "built")) (fCons (fCall0 c_name (fCons (fVar 0) fNil)) fNil))))
    mNil)
    (mSeq (mIf (tVal (fBin opEq (fVar 2) (fC (.int 6))))
    (mRet (fTup (fCons (fC (.str "host")) (fCons (fCall0 c_name (fCons (fVar 0) fNil)) fNil))))
    mNil)
    (mRet (fTup (fCons (fC (.str "ref")) (fCons (fBin opMod (fArgs cInt (fCons (fBin opAdd (fBin opMul (fCall0 c_draw (fCons (fVar 0) (fCons (fC (.int 1000)) fNil))) (fC (.int 1000))) (fCall0 c_draw (fCons (fVar 0) (fCons (fC (.int 1000)) fNil)))) fNil)) (fVar 1)) fNil))))))))))))
noncomputable def lb_tree (c_draw : Fn) (c_text : Fn) (c_number : Fn) (c_name : Fn) (c_tree : Fn) : MS :=
    (mSeq (mSet 2 (fCall0 c_draw (fCons (fVar 0) (fCons (fC (.int 8)) fNil))))
    (mSeq (mIf (tVal (fBin opEq (fVar 2) (fC (.int 0))))
    (mRet (fCall0 c_text (fCons (fVar 0) (fCons (fC (.int 6)) fNil))))
    mNil)
    (mSeq (mIf (tVal (fBin opEq (fVar 2) (fC (.int 1))))
    (mSeq (mSet 3 (fCall0 c_number (fCons (fVar 0) fNil)))
    (mRet (fBin opAdd (fVar 3) (fBin opMul (fC (.int 2)) (fArgs cInt (fCons (fOrV (fBin opEq (fVar 3) (fC (.int 0))) (fBin opEq (fVar 3) (fC (.int 1)))) fNil))))))
    mNil)
    (mSeq (mIf (tVal (fBin opEq (fVar 2) (fC (.int 2))))
    (mRet (fBin opEq (fCall0 c_draw (fCons (fVar 0) (fCons (fC (.int 2)) fNil))) (fC (.int 1))))
    mNil)
    (mSeq (mIf (tOrF (tVal (fBin opEq (fVar 2) (fC (.int 3)))) (tVal (fBin opEq (fVar 1) (fC (.int 0)))))
    (mRet (fCall0 c_name (fCons (fVar 0) fNil)))
    mNil)
    (mSeq (mSet 4 (fCall0 c_draw (fCons (fVar 0) (fCons (fC (.int 4)) fNil))))
    (mRet (fArgs cTup (fCons (fLc (fiRng1 (fCons (fVar 4) fNil)) (gdName 5) (fun _ st => .ok true st) (fCall0 c_tree (fCons (fVar 0) (fCons (fBin opSub (fVar 1) (fC (.int 1))) fNil))) [5]) fNil)))))))))
noncomputable def lb_field (c_value : Fn) (c_draw : Fn) (c_name : Fn) (c_tree : Fn) (c_number : Fn) (c_shape : Fn) (c_frames : Fn) : MS :=
    (mSeq (mIf (tVal (fBin opEq (fVar 1) (fC (.str "v"))))
    (mRet (fCall0 c_value (fCons (fVar 0) (fCons (fVar 2) fNil))))
    mNil)
    (mSeq (mIf (tVal (fBin opEq (fVar 1) (fC (.str "V"))))
    (mSeq (mSet 3 (fCall0 c_draw (fCons (fVar 0) (fCons (fC (.int 5)) fNil))))
    (mRet (fArgs cTup (fCons (fLc (fiRng1 (fCons (fVar 3) fNil)) (gdName 5) (fun _ st => .ok true st) (fCall0 c_value (fCons (fVar 0) (fCons (fVar 2) fNil))) [5]) fNil))))
    mNil)
    (mSeq (mIf (tVal (fBin opEq (fVar 1) (fC (.str "W"))))
    (mSeq (mSet 3 (fCall0 c_draw (fCons (fVar 0) (fCons (fC (.int 4)) fNil))))
    (mRet (fArgs cTup (fCons (fLc (fiRng1 (fCons (fVar 3) fNil)) (gdName 5) (fun _ st => .ok true st) (fTup (fCons (fCall0 c_value (fCons (fVar 0) (fCons (fVar 2) fNil))) (fCons (fCall0 c_value (fCons (fVar 0) (fCons (fVar 2) fNil))) fNil))) [5]) fNil))))
    mNil)
    (mSeq (mIf (tVal (fBin opEq (fVar 1) (fC (.str "X"))))
    (mSeq (mSet 3 (fCall0 c_draw (fCons (fVar 0) (fCons (fC (.int 4)) fNil))))
    (mRet (fArgs cTup (fCons (fLc (fiRng1 (fCons (fVar 3) fNil)) (gdName 5) (fun _ st => .ok true st) (fTup (fCons (fCall0 c_name (fCons (fVar 0) fNil)) (fCons (fCall0 c_value (fCons (fVar 0) (fCons (fVar 2) fNil))) fNil))) [5]) fNil))))
    mNil)
    (mSeq (mIf (tVal (fBin opEq (fVar 1) (fC (.str "t"))))
    (mRet (fCall0 c_tree (fCons (fVar 0) (fCons (fC (.int 3)) fNil))))
    mNil)
    (mSeq (mIf (tVal (fBin opEq (fVar 1) (fC (.str "a"))))
    (mRet (fBin opMod (fArgs cInt (fCons (fBin opAdd (fBin opMul (fCall0 c_draw (fCons (fVar 0) (fCons (fC (.int 1000)) fNil))) (fC (.int 1000))) (fCall0 c_draw (fCons (fVar 0) (fCons (fC (.int 1000)) fNil)))) fNil)) (fVar 2)))
    mNil)
    (mSeq (mIf (tVal (fBin opEq (fVar 1) (fC (.str "b"))))
    (mRet (fBin opSub (fBin opMod (fArgs cInt (fCons (fBin opAdd (fBin opMul (fCall0 c_draw (fCons (fVar 0) (fCons (fC (.int 1000)) fNil))) (fC (.int 1000))) (fCall0 c_draw (fCons (fVar 0) (fCons (fC (.int 1000)) fNil)))) fNil)) (fBin opAdd (fVar 2) (fC (.int 1)))) (fC (.int 1))))
    mNil)
    (mSeq (mIf (tVal (fBin opEq (fVar 1) (fC (.str "n"))))
    (mRet (fCall0 c_number (fCons (fVar 0) fNil)))
    mNil)
    (mSeq (mIf (tVal (fBin opEq (fVar 1) (fC (.str "x"))))
    (mRet (fCall0 c_name (fCons (fVar 0) fNil)))
    mNil)
    (mSeq (mIf (tVal (fBin opEq (fVar 1) (fC (.str "s"))))
    (mSeq (mSet 4 (fCall0 c_draw (fCons (fVar 0) (fCons (fC (.int 5)) fNil))))
    (mSeq (mIf (tVal (fBin (opCmp cLt) (fVar 4) (fC (.int 3))))
    (mRet (fBin opIx (fLst (fCons (fTup fNil) (fCons (fTup (fCons (fC (.str "break")) fNil)) (fCons (fTup (fCons (fC (.str "continue")) fNil)) fNil)))) (fVar 4)))
    mNil)
    (mRet (fTup (fCons (fBin opIx (fLst (fCons (fC (.str "return")) (fCons (fC (.str "raise")) fNil))) (fBin opSub (fVar 4) (fC (.int 3)))) (fCons (fCall0 c_value (fCons (fVar 0) (fCons (fVar 2) fNil))) fNil))))))
    mNil)
    (mSeq (mSet 3 (fCall0 c_draw (fCons (fVar 0) (fCons (fC (.int 3)) fNil))))
    (mRet (fArgs cTup (fCons (fLc (fiRng1 (fCons (fVar 3) fNil)) (gdName 5) (fun _ st => .ok true st) (fCall0 c_shape (fCons (fVar 0) (fCons (fCall0 c_frames fNil) (fCons (fVar 2) fNil)))) [5]) fNil))))))))))))))
noncomputable def lb_shape (c_draw : Fn) (c_shape_of : Fn) : MS :=
    (mSeq (mSet 3 (fBin opIx (fVar 1) (fBin opMod (fArgs cInt (fCons (fBin opAdd (fBin opMul (fCall0 c_draw (fCons (fVar 0) (fCons (fC (.int 1000)) fNil))) (fC (.int 1000))) (fCall0 c_draw (fCons (fVar 0) (fCons (fC (.int 1000)) fNil)))) fNil)) (fArgs cLen (fCons (fVar 1) fNil)))))
    (mRet (fCall0 c_shape_of (fCons (fVar 0) (fCons (fVar 3) (fCons (fVar 2) fNil))))))
noncomputable def lb_shape_of (c_field : Fn) : MS :=
    (mSeq (mSet 3 (fTup (fCons (fBin opIx (fVar 1) (fC (.int 0))) fNil)))
    (mSeq (mFor (fiSeq (fBin opIx (fVar 1) (fC (.int 1)))) (gdName 4)
    (mSet 3 (fBin opAdd (fVar 3) (fTup (fCons (fCall0 c_field (fCons (fVar 0) (fCons (fVar 4) (fCons (fVar 2) fNil)))) fNil)))))
    (mRet (fVar 3))))
noncomputable def lb_objects : MS :=
    (mRet (fLst (fCons (fLst (fCons (fC (.str "list")) (fCons (fC (.str "V")) fNil))) (fCons (fLst (fCons (fC (.str "tuple")) (fCons (fC (.str "V")) fNil))) (fCons (fLst (fCons (fC (.str "dict")) (fCons (fC (.str "W")) fNil))) (fCons (fLst (fCons (fC (.str "scope")) (fCons (fC (.str "Xttbt")) fNil))) (fCons (fLst (fCons (fC (.str "func")) (fCons (fC (.str "xtXtta")) fNil))) (fCons (fLst (fCons (fC (.str "class")) (fCons (fC (.str "xbX")) fNil))) (fCons (fLst (fCons (fC (.str "inst")) (fCons (fC (.str "aX")) fNil))) (fCons (fLst (fCons (fC (.str "bound")) (fCons (fC (.str "vv")) fNil))) (fCons (fLst (fCons (fC (.str "iter")) (fCons (fC (.str "vnn")) fNil))) (fCons (fLst (fCons (fC (.str "gen")) (fCons (fC (.str "xxF")) fNil))) fNil))))))))))))
noncomputable def lb_controls : MS :=
    (mRet (fLst (fCons (fLst (fCons (fC (.str "eval")) (fCons (fC (.str "ta")) fNil))) (fCons (fLst (fCons (fC (.str "exec")) (fCons (fC (.str "ta")) fNil))) (fCons (fLst (fCons (fC (.str "store")) (fCons (fC (.str "tva")) fNil))) (fCons (fLst (fCons (fC (.str "call")) (fCons (fC (.str "vVX")) fNil))) (fCons (fLst (fCons (fC (.str "resume")) (fCons (fC (.str "axv")) fNil))) (fCons (fLst (fCons (fC (.str "value")) (fCons (fC (.str "v")) fNil))) (fCons (fLst (fCons (fC (.str "done")) (fCons (fC (.str "")) fNil))) (fCons (fLst (fCons (fC (.str "leave")) (fCons (fC (.str "s")) fNil))) (fCons (fLst (fCons (fC (.str "give")) (fCons (fC (.str "v")) fNil))) (fCons (fLst (fCons (fC (.str "ask")) (fCons (fC (.str "xV")) fNil))) fNil))))))))))))
noncomputable def lb_frames : MS :=
    (mSeq (mSet 0 (fC (.str "neg|not|bin1 xta|bin2 xv|and ta|or ta|choice tta|cmp1 ta|cmp2 vxta|cmp3 vta|attr x|item1 ta|item2 v|")))
    (mSeq (mSet 0 (fBin opAdd (fVar 0) (fC (.str "part1 tta|part2 vta|part3 vv|items xVta|dict1 Wtta|dict2 Wvta|call1 tta|args vVtXta|rest ta|drop|"))))
    (mSeq (mSet 0 (fBin opAdd (fVar 0) (fC (.str "put ta|del1 ta|del2 v|ret|throw|if tta|while1 ttan|while2 ttan|for1 ttan|for2 ttan|for3 vttan|"))))
    (mSeq (mSet 0 (fBin opAdd (fVar 0) (fC (.str "for4 vttan|for5 vttan|def xtttXta|class1 xtta|class2 xbaa|catch ta|match vta|handling v|final ta|"))))
    (mSeq (mSet 0 (fBin opAdd (fVar 0) (fC (.str "after s|giving ta|sent ta|setattr xv|seti1 tva|seti2 vv|unpack tVa|forget|body xn|init v|"))))
    (mSeq (mSet 0 (fBin opAdd (fVar 0) (fC (.str "genbody axnx|begin ta|want x|print vV|gather1 x|gather xvV|default v"))))
    (mSeq (mSet 1 (fMat (fLst fNil)))
    (mSeq (mFor (fiSeq (fM1 opSplit (fVar 0) (fC (.str "|")))) (gdName 2)
    (mSeq (mSet 3 (fM0 opWords (fVar 2)))
    (mIf (tVal (fBin opEq (fArgs cLen (fCons (fVar 3) fNil)) (fC (.int 1))))
    (mExpr (fBML opAppend (fVar 1) (fCons (fLst (fCons (fBin opIx (fVar 3) (fC (.int 0))) (fCons (fC (.str "")) fNil))) fNil)))
    (mExpr (fBML opAppend (fVar 1) (fCons (fLst (fCons (fBin opIx (fVar 3) (fC (.int 0))) (fCons (fBin opIx (fVar 3) (fC (.int 1))) fNil))) fNil))))))
    (mRet (fVar 1))))))))))
noncomputable def lb_letters : MS :=
    (mSeq (mFor (fiSeq (fVar 0)) (gdName 2)
    (mIf (tVal (fBin opEq (fBin opIx (fVar 2) (fC (.int 0))) (fVar 1)))
    (mRet (fBin opIx (fVar 2) (fC (.int 1))))
    mNil))
    (mRet (fC (.str ""))))
noncomputable def lb_values : MS :=
    (mSeq (mIf (tVal (fBin opEq (fVar 0) (fC (.str "v"))))
    (mRet (fLst (fCons (fVar 1) fNil)))
    mNil)
    (mSeq (mIf (tVal (fBin opEq (fVar 0) (fC (.str "V"))))
    (mRet (fArgs cList (fCons (fVar 1) fNil)))
    mNil)
    (mSeq (mSet 2 (fMat (fLst fNil)))
    (mSeq (mIf (tVal (fBin opEq (fVar 0) (fC (.str "W"))))
    (mFor (fiSeq (fVar 1)) (gdName 3)
    (mSeq (mExpr (fBML opAppend (fVar 2) (fCons (fBin opIx (fVar 3) (fC (.int 0))) fNil)))
    (mExpr (fBML opAppend (fVar 2) (fCons (fBin opIx (fVar 3) (fC (.int 1))) fNil)))))
    mNil)
    (mSeq (mIf (tVal (fBin opEq (fVar 0) (fC (.str "X"))))
    (mSet 2 (fMat (fLc (fiSeq (fVar 1)) (gdName 3) (fun _ st => .ok true st) (fBin opIx (fVar 3) (fC (.int 1))) [3])))
    mNil)
    (mSeq (mIf (tAndF (tVal (fBin opEq (fVar 0) (fC (.str "s")))) (tVal (fBin opEq (fArgs cLen (fCons (fVar 1) fNil)) (fC (.int 2)))))
    (mExpr (fBML opAppend (fVar 2) (fCons (fBin opIx (fVar 1) (fC (.int 1))) fNil)))
    mNil)
    (mRet (fVar 2))))))))
noncomputable def lb_refs (c_letters : Fn) (c_refs : Fn) (c_frames : Fn) (c_values : Fn) : MS :=
    (mSeq (mSet 2 (fCall0 c_letters (fCons (fVar 0) (fCons (fBin opIx (fVar 1) (fC (.int 0))) fNil))))
    (mSeq (mSet 3 (fMat (fLst fNil)))
    (mSeq (mFor (fiRng1 (fCons (fArgs cLen (fCons (fVar 2) fNil)) fNil)) (gdName 4)
    (mSeq (mSet 5 (fBin opIx (fVar 1) (fBin opAdd (fVar 4) (fC (.int 1)))))
    (mIf (tVal (fBin opEq (fBin opIx (fVar 2) (fVar 4)) (fC (.str "a"))))
    (mExpr (fBML opAppend (fVar 3) (fCons (fVar 5) fNil)))
    (mIf (tVal (fBin opEq (fBin opIx (fVar 2) (fVar 4)) (fC (.str "b"))))
    (mSet 3 (fMat (fBin opAdd (fVar 3) (fBin opMul (fLst (fCons (fVar 5) fNil)) (fArgs cInt (fCons (fBin (opCmp cGe) (fVar 5) (fC (.int 0))) fNil))))))
    (mIf (tVal (fBin opEq (fBin opIx (fVar 2) (fVar 4)) (fC (.str "F"))))
    (mFor (fiSeq (fVar 5)) (gdName 6)
    (mSet 3 (fMat (fBin opAdd (fVar 3) (fCall0 c_refs (fCons (fCall0 c_frames fNil) (fCons (fVar 6) fNil)))))))
    (mSet 3 (fMat (fBin opAdd (fVar 3) (fLc (fiSeq (fCall0 c_values (fCons (fBin opIx (fVar 2) (fVar 4)) (fCons (fVar 5) fNil)))) (gdName 7) (tVal (fBin opEq (fBin opIx (fVar 7) (fC (.int 0))) (fC (.str "ref")))) (fBin opIx (fVar 7) (fC (.int 1))) [7])))))))))
    (mRet (fVar 3)))))
end Q3

/-! Q3: the defs that the laws share, and what they do. -/
namespace Q3
open PySem PySem.Spec PyProof.Rows L2
noncomputable def L_cell : Fn := mFn0 2 lb_cell
noncomputable def L_is_integer : Fn := mFn0 1 lb_is_integer
noncomputable def L_list_is : Fn := mFn0 3 (lb_list_is L_is_integer)
noncomputable def L_draw : Fn := mFn0 3 lb_draw
noncomputable def L_signs : Fn := mFn0 1 lb_signs
noncomputable def L_text : Fn := mFn0 5 (lb_text L_signs L_draw)
noncomputable def L_name : Fn := mFn0 4 (lb_name L_draw)
noncomputable def L_number : Fn := mFn0 5 (lb_number L_draw)
noncomputable def L_value : Fn := mFn0 4 (lb_value L_draw L_number L_text L_name)
noncomputable def L_tree : Nat → Fn
  | 0 => fun _ _ => .bad
  | n + 1 => mFn0 6 (lb_tree L_draw L_text L_number L_name (L_tree n))

theorem okS_eq {d : D} {st : Store} : okS d st = .ok (.s d) st := (id rfl)
theorem cell_int {z : List Int} {i : Int} {st : Store} (h0 : 0 ≤ i) : L_cell [.rk (z.map D.int), .int i] st = okS (.int (z.getD i.toNat 0)) st := by
  unfold L_cell
  by_cases h : i < z.length
  · have h2 : i.toNat < z.length := by omega
    simp [lb_cell, okS_eq, cLt, h, atI_eq, h0, h2, List.getD]
  · have h2 : z.length ≤ i.toNat := by omega
    simp [lb_cell, okS_eq, cLt, h, List.getD, List.getElem?_eq_none h2]
theorem is_integer_int {i : Int} {st : Store} : L_is_integer [.int i] st = okS (.bl true) st := by
  unfold L_is_integer
  simp [lb_is_integer, okS_eq]
/-- the box of the draws at b -/
def Box (b : Nat) (st : Store) : Prop := ∃ (dg : List Int) (at' : Int), st[b]? = some (.lst [.ro (dg.map D.int), .int at']) ∧ 0 ≤ at'
/-- from st to st' only the box has changed -/
def Stp (b : Nat) (st st' : Store) : Prop := Box b st' ∧ ∃ so, st' = st.set b so
theorem Stp.refl {b st} (h : Box b st) : Stp b st st := by
  obtain ⟨dg, a, h1, h2⟩ := h
  obtain ⟨h3, h4⟩ := List.getElem?_eq_some_iff.mp h1
  refine ⟨⟨dg, a, h1, h2⟩, st[b], ?_⟩
  rw [List.set_getElem_self]
theorem Stp.trans {b st st1 st2} (h : Stp b st st1) (g : Stp b st1 st2) : Stp b st st2 := by
  obtain ⟨h1, so, h2⟩ := h
  obtain ⟨g1, so', g2⟩ := g
  exact ⟨g1, so', by rw [g2, h2, List.set_set]⟩
theorem Stp.box {b st st1} (h : Stp b st st1) : Box b st1 := h.1
theorem Stp.length {b st st1} (h : Stp b st st1) : st1.length = st.length := by
  obtain ⟨h1, so, h2⟩ := h
  rw [h2, List.length_set]
theorem Stp.get {b st st1} (h : Stp b st st1) {i : Nat} (hi : b ≠ i) : st1[i]? = st[i]? := by
  obtain ⟨h1, so, h2⟩ := h
  rw [h2, List.getElem?_set_ne hi]
/-- r gives something that is G, and only draws -/
def Yld (b : Nat) (st : Store) (r : R T) (G : D → Prop) : Prop := ∃ d st', r = .ok (.s d) st' ∧ Stp b st st' ∧ G d
theorem draw_ok {b : Nat} {st : Store} {m : Int} (hb : Box b st) (hm : 0 < m) : ∃ v st', L_draw [.ref b, .int m] st = .ok (.s (.int v)) st' ∧ Stp b st st' ∧ 0 ≤ v ∧ v < m := by
  obtain ⟨dg, at', h1, h2⟩ := hb
  have hlt : b < st.length := (List.getElem?_eq_some_iff.mp h1).1
  have hs : ∀ so, (st.set b so)[b]? = some so := fun so => List.getElem?_set_self hlt
  clear hlt
  have set1 : Stp b st (st.set b (.lst [.ro (dg.map D.int), .int (at' + 1)])) := ⟨⟨dg, at' + 1, hs _, by omega⟩, _, rfl⟩
  unfold L_draw
  by_cases h : at' < dg.length
  · have h3 : at'.toNat < dg.length := by omega
    refine ⟨dg[at'.toNat] % m, _, ?_, set1, Int.emod_nonneg _ (by omega), Int.emod_lt_of_pos _ hm⟩
    simp [lb_draw, okS_eq, h1, atI_eq, ixN, cLt, h2, hs, h, hm, h3]
  · refine ⟨(at' * 7 + 3) % m, _, ?_, set1, Int.emod_nonneg _ (by omega), Int.emod_lt_of_pos _ hm⟩
    simp [lb_draw, okS_eq, h1, atI_eq, ixN, cLt, h2, hs, h, hm]
/-- a turn that goes on, with P behind it -/
def NxP (P : DS → Store → Prop) : RS → Prop
  | .nx σ st => P σ st
  | .ct σ st => P σ st
  | _ => False
@[simp] theorem NxP_nx {P : DS → Store → Prop} {σ st} : NxP P (.nx σ st) = P σ st := (id rfl)
@[simp] theorem NxP_ct {P : DS → Store → Prop} {σ st} : NxP P (.ct σ st) = P σ st := (id rfl)
def TgP (P : DS → Prop) : Option DS → Prop
  | some σ => P σ
  | none => False
@[simp] theorem TgP_some {P : DS → Prop} {σ} : TgP P (some σ) = P σ := (id rfl)
def OkP {α : Type} (P : α → Store → Prop) : R α → Prop
  | .ok a st => P a st
  | _ => False
@[simp] theorem OkP_ok {α : Type} {P : α → Store → Prop} {a : α} {st} : OkP P (.ok a st) = P a st := (id rfl)
theorem NxP.ex {P : DS → Store → Prop} {r : RS} (h : NxP P r) : ∃ σ st, (r = .nx σ st ∨ r = .ct σ st) ∧ P σ st := by
  cases r with
  | nx σ st => exact ⟨σ, st, .inl rfl, h⟩
  | ct σ st => exact ⟨σ, st, .inr rfl, h⟩
  | _ => exact h.elim
theorem OkP.ex {α : Type} {P : α → Store → Prop} {r : R α} (h : OkP P r) : ∃ a st, r = .ok a st ∧ P a st := by
  cases r with
  | ok a st => exact ⟨a, st, rfl, h⟩
  | _ => exact h.elim
theorem TgP.ex {P : DS → Prop} {r : Option DS} (h : TgP P r) : ∃ σ, r = some σ ∧ P σ := by
  cases r with
  | some σ => exact ⟨σ, rfl, h⟩
  | none => exact h.elim
/-- a loop over given items whose turns all go on -/
theorem for_inv {tg : MG} {b : MS} {xs0 : List D} (P : Nat → DS → Store → Prop) {items : List D} {σ : DS} {st : Store} (h0 : P 0 σ st)
    (turn : ∀ j d σ st, items[j]? = some d → P j σ st → TgP (fun σ1 => NxP (P (j + 1)) (b σ1 st)) (tg d σ st)) :
    ∃ σ' st', forL (.val xs0) tg b items σ st = .nx σ' st' ∧ P items.length σ' st' := by
  have := forL_run (src := .val xs0) (tg := tg) (b := b) P items 0 σ st h0 (fun _ _ _ _ => trivial) fun j d σ st hj h => by
    rw [Nat.zero_add] at h
    obtain ⟨σ1, e1, h1⟩ := (turn j d σ st hj h).ex
    obtain ⟨σ2, st2, e2, h2⟩ := h1.ex
    exact ⟨σ1, e1, σ2, st2, e2, by rw [Nat.zero_add]; exact h2⟩
  rwa [Nat.zero_add] at this
/-- the same of a range -/
theorem rng_inv {tg : MG} {b : MS} {xs0 : List D} {lo : Int} {n : Nat} (P : Nat → DS → Store → Prop) {σ : DS} {st : Store} (h0 : P 0 σ st)
    (turn : ∀ j σ st, j < n → P j σ st → TgP (fun σ1 => NxP (P (j + 1)) (b σ1 st)) (tg (.int (lo + j)) σ st)) :
    ∃ σ' st', forL (.val xs0) tg b (rngD lo n) σ st = .nx σ' st' ∧ P n σ' st' := by
  have hl : (rngD lo n).length = n := by simp [rngD]
  have := for_inv (tg := tg) (b := b) (xs0 := xs0) P (items := rngD lo n) h0 fun j d σ st hj h => by
    obtain ⟨h1, h2⟩ := List.getElem?_eq_some_iff.mp hj
    rw [hl] at h1
    have : d = .int (lo + j) := by simpa [rngD] using h2.symm
    subst this
    exact turn j σ st h1 h
  rwa [hl] at this
theorem lc_inv {tg : MG} {ft : MT} {fe : ME} {xs0 : List D} {σ : DS} (P : Nat → List D → Store → Prop) {items : List D} {st : Store} (h0 : P 0 [] st) (hz : items.length ≤ sizeLine)
    (turn : ∀ j d acc st, items[j]? = some d → acc.length ≤ j → P j acc st → TgP (fun σ1 => OkP (fun k st1 => if k = true then OkP (fun x st2 => P (j + 1) (acc ++ [x.d]) st2) (fe σ1 st1) else P (j + 1) acc st1) (ft σ1 st)) (tg d σ st)) :
    ∃ acc' st', lcL (.val xs0) tg ft fe σ items [] st = .ok (.l acc') st' ∧ acc'.length ≤ items.length ∧ P items.length acc' st' := by
  have := lcL_run (src := .val xs0) (tg := tg) (ft := ft) (fe := fe) (σ := σ) (fun j acc st => j ≤ items.length → acc.length ≤ j ∧ P j acc st) items 0 [] st (fun _ => ⟨Nat.le_refl _, h0⟩) (fun _ _ _ _ => trivial) fun j d acc st hj h => by
    have hlt := (List.getElem?_eq_some_iff.mp hj).1
    rw [Nat.zero_add] at h
    obtain ⟨hl, h⟩ := h (by omega)
    obtain ⟨σ1, e1, h1⟩ := (turn j d acc st hj hl h).ex
    obtain ⟨k, st1, e2, h2⟩ := h1.ex
    refine ⟨σ1, e1, k, st1, e2, ?_⟩
    cases k with
    | false => exact .inl ⟨rfl, fun _ => ⟨by omega, by rw [Nat.zero_add]; simpa using h2⟩⟩
    | true =>
      rw [if_pos rfl] at h2
      obtain ⟨x, st2, e3, h3⟩ := h2.ex
      exact .inr ⟨rfl, by omega, x, st2, e3, fun _ => ⟨by rw [List.length_append]; show acc.length + 1 ≤ _; omega, by rw [Nat.zero_add]; exact h3⟩⟩
  obtain ⟨acc', st', e, h⟩ := this
  rw [Nat.zero_add] at h
  obtain ⟨h1, h2⟩ := h (Nat.le_refl _)
  exact ⟨acc', st', e, h1, h2⟩
theorem lcr_inv {tg : MG} {ft : MT} {fe : ME} {xs0 : List D} {σ : DS} {lo : Int} {n : Nat} (P : Nat → List D → Store → Prop) {st : Store} (h0 : P 0 [] st) (hz : n ≤ sizeLine)
    (turn : ∀ j acc st, j < n → acc.length ≤ j → P j acc st → TgP (fun σ1 => OkP (fun k st1 => if k = true then OkP (fun x st2 => P (j + 1) (acc ++ [x.d]) st2) (fe σ1 st1) else P (j + 1) acc st1) (ft σ1 st)) (tg (.int (lo + j)) σ st)) :
    ∃ acc' st', lcL (.val xs0) tg ft fe σ (rngD lo n) [] st = .ok (.l acc') st' ∧ acc'.length ≤ n ∧ P n acc' st' := by
  have hl : (rngD lo n).length = n := by simp [rngD]
  have := lc_inv (tg := tg) (ft := ft) (fe := fe) (xs0 := xs0) (σ := σ) P (items := rngD lo n) h0 (by rw [hl]; exact hz) fun j d acc st hj ha h => by
    obtain ⟨h1, h2⟩ := List.getElem?_eq_some_iff.mp hj
    rw [hl] at h1
    have : d = .int (lo + j) := by simpa [rngD] using h2.symm
    subst this
    exact turn j acc st h1 ha h
  rwa [hl] at this
theorem list_is_ok {xs : List Int} {st : Store} (hx : xs.length < 4611686018427387904) : L_list_is [.ro (xs.map D.int), .ro (xs.map D.int)] st = okS (.bl true) st := by
  unfold L_list_is
  simp only [mFn0_eq, mFn_eq, lb_list_is]
  obtain ⟨σ', st', e, h1, o, h2⟩ := rng_inv (lo := 0) (n := xs.length) (xs0 := rngD 0 xs.length) (tg := gdName 2) (b := mIf (tOrF (tNotF (fTru (fCall0 L_is_integer (fCons (fBin opIx (fVar 0) (fVar 2)) fNil)))) (tVal (fBin opNe (fBin opIx (fVar 0) (fVar 2)) (fBin opIx (fVar 1) (fVar 2)))))
    (mRet (fC (.bl false)))
    mNil) (fun _ σ st' => st' = st ∧ ∃ o, σ = [some (.ro (xs.map D.int)), some (.ro (xs.map D.int)), o]) (σ := [some (.ro (xs.map D.int)), some (.ro (xs.map D.int)), none]) (st := st) ⟨rfl, _, rfl⟩ (by
      intro j σ st' hj ⟨h1, o, h2⟩
      subst h1 h2
      simp [okS_eq, atI_eq, hj, is_integer_int])
  subst h1 h2
  have hx2 : (-4611686018427387904 : Int) ≤ (xs.length : Int) := by omega
  have hx3 : (xs.length : Int) < 4611686018427387904 := by omega
  simp [okS_eq, hx2, hx3] at e ⊢
  simp [e]
end Q3

/-! Q3: what the draws yield: texts, numbers, values, trees. -/
namespace Q3
open PySem PySem.Spec PyProof.Rows L2
@[simp] theorem o_v : Str.ofString "v" = ⟨#[118]⟩ := by decide +kernel
@[simp] theorem o_V : Str.ofString "V" = ⟨#[86]⟩ := by decide +kernel
@[simp] theorem o_W : Str.ofString "W" = ⟨#[87]⟩ := by decide +kernel
@[simp] theorem o_X : Str.ofString "X" = ⟨#[88]⟩ := by decide +kernel
@[simp] theorem o_t : Str.ofString "t" = ⟨#[116]⟩ := by decide +kernel
@[simp] theorem o_a : Str.ofString "a" = ⟨#[97]⟩ := by decide +kernel
@[simp] theorem o_b : Str.ofString "b" = ⟨#[98]⟩ := by decide +kernel
@[simp] theorem o_n : Str.ofString "n" = ⟨#[110]⟩ := by decide +kernel
@[simp] theorem o_x : Str.ofString "x" = ⟨#[120]⟩ := by decide +kernel
@[simp] theorem o_s : Str.ofString "s" = ⟨#[115]⟩ := by decide +kernel
@[simp] theorem o_F : Str.ofString "F" = ⟨#[70]⟩ := by decide +kernel
@[simp] theorem o_e : Str.ofString "" = ⟨#[]⟩ := by decide +kernel
/-- a text of at most n codes -/
def TxtZ (n : Nat) (z : Str) : Prop := z.length ≤ n ∧ ∀ c ∈ z.cps.toList, c = 10 ∨ 32 ≤ c ∧ c ≤ 126
def NameZ (z : Str) : Prop := 1 ≤ z.length ∧ TxtZ 5 z ∧ ∀ c ∈ z.cps.toList, c = 95 ∨ 97 ≤ c ∧ c ≤ 122
def bnd : Int := 115792089237316195423570985008687907853269984665640564039457584007913129639936
def NumOk (i : Int) : Prop := -bnd < i ∧ i < bnd
inductive GVal (m : Int) : D → Prop where
  | none : GVal m (.tup [.str "none"])
  | bool (b : Bool) : GVal m (.tup [.str "bool", .bl b])
  | int (i : Int) (h : NumOk i) : GVal m (.tup [.str "int", .int i])
  | text (z : Str) (h : TxtZ 12 z) : GVal m (.tup [.str "text", .str z])
  | span (i j : Int) (h : NumOk i) (g : NumOk j) (l : i ≤ j) : GVal m (.tup [.str "span", .int i, .int j])
  | built (z : Str) (h : NameZ z) : GVal m (.tup [.str "built", .str z])
  | host (z : Str) (h : NameZ z) : GVal m (.tup [.str "host", .str z])
  | ref (i : Int) (h : 0 ≤ i) (l : i < m) : GVal m (.tup [.str "ref", .int i])
inductive GTree : Nat → D → Prop where
  | str {n : Nat} (z : Str) (h : TxtZ 6 z) : GTree n (.str z)
  | int {n : Nat} (i : Int) (h : NumOk i) (h0 : i ≠ 0) (h1 : i ≠ 1) : GTree n (.int i)
  | bool {n : Nat} (b : Bool) : GTree n (.bl b)
  | tup {n : Nat} (ds : List D) (l : ds.length ≤ 3) (h : ∀ d ∈ ds, GTree n d) : GTree (n + 1) (.tup ds)
theorem join_chars : ∀ cs : List Nat, Txt.join ⟨#[]⟩ (cs.map fun c => (⟨#[c]⟩ : Str)) = ⟨cs.toArray⟩ := by
  have h : ∀ cs : List Nat, Str.join ⟨#[]⟩ (cs.map fun c => (⟨#[c]⟩ : Str)) = ⟨cs.toArray⟩ := by
    intro cs
    induction cs with
    | nil => rfl
    | cons c r ih =>
      cases r with
      | nil => rfl
      | cons c2 r2 =>
        show (⟨(⟨(⟨#[c]⟩ : Str).cps ++ (⟨#[]⟩ : Str).cps⟩ : Str).cps ++ (Str.join ⟨#[]⟩ ((c2 :: r2).map fun c => (⟨#[c]⟩ : Str))).cps⟩ : Str) = _
        rw [ih]
        simp
  exact fun cs => (PySem.StrLaws.glued_eq_join ⟨#[]⟩ _).trans (h cs)
theorem strs_chars : ∀ cs : List Nat, D.strs (cs.map fun c => .str ⟨#[c]⟩) = some (cs.map fun c => ⟨#[c]⟩)
  | [] => rfl
  | c :: r => by
    show (D.strs (r.map fun c => .str ⟨#[c]⟩)).map (⟨#[c]⟩ :: ·) = _
    rw [strs_chars r]
    rfl
theorem opJoin_chars {cs : List Nat} {st : Store} (h : cs.length ≤ 1000) : opJoin (.str ⟨#[]⟩) (.ro (cs.map fun c => .str ⟨#[c]⟩)) st = okS (.str ⟨cs.toArray⟩) st := by
  unfold opJoin
  simp only [lstR_ro, strs_chars]
  rw [join_chars, if_pos]
  have : ∀ cs : List Nat, ((cs.map fun c => (⟨#[c]⟩ : Str)).map (·.length)).sum = cs.length := by
    intro cs
    induction cs with
    | nil => rfl
    | cons c r ih =>
      rw [List.map_cons, List.map_cons, List.sum_cons, ih, List.length_cons]
      show 1 + _ = _
      omega
  rw [this]
  show cs.length + _ * 0 ≤ _
  omega
/-- n drawn codes of sg -/
theorem chars_ok {b i j v n : Nat} {sg : Str} {m : Nat} {σ : DS} {st : Store} {xs0 : List D} (hb : Box b st) (hσ : ∀ o, (σ.set v o)[i]? = some (some (.str sg)) ∧ (σ.set v o)[j]? = some (some (.ref b))) (hm : sg.length = m) (hm0 : 0 < m) (hz : m ≤ 1000) (hn : n ≤ 1000) :
    ∃ (cs : List Nat) (st' : Store), lcL (.val xs0) (gdName v) (fun _ st => .ok true st) (fBin opIx (fVar i) (fCall0 L_draw (fCons (fVar j) (fCons (fC (.int m)) fNil)))) σ (rngD 0 n) [] st = .ok (.l (cs.map fun c => .str ⟨#[c]⟩)) st' ∧ Stp b st st' ∧ cs.length = n ∧ ∀ c ∈ cs, c ∈ sg.cps.toList := by
  obtain ⟨acc, st', e, _, s, cs, h1, h2, h3⟩ := lcr_inv (tg := gdName v) (ft := fun _ st => .ok true st) (fe := fBin opIx (fVar i) (fCall0 L_draw (fCons (fVar j) (fCons (fC (.int m)) fNil)))) (xs0 := xs0) (σ := σ) (lo := 0) (n := n) (st := st)
    (fun k acc st' => Stp b st st' ∧ ∃ cs : List Nat, acc = cs.map (fun c => D.str ⟨#[c]⟩) ∧ cs.length = k ∧ ∀ c ∈ cs, c ∈ sg.cps.toList) ⟨Stp.refl hb, [], rfl, rfl, fun c h => by cases h⟩ (by rw [← line_ge]; omega) (by
      intro k acc st1 hk _ ⟨s, cs, h1, h2, h3⟩
      subst h1
      obtain ⟨q, st2, e, s2, q0, q1⟩ := draw_ok (m := m) s.box (by omega)
      have hlt : q.toNat < sg.cps.toList.length := by
        show _ < sg.cps.toList.length
        have : sg.cps.toList.length = sg.length := by simp [Str.length]
        omega
      have hl : sg.length ≤ sizeLine := by rw [← line_ge]; omega
      have e2 : L2.atI sg.cps.toList q = some sg.cps.toList[q.toNat] := by
        rw [atI_eq, if_pos q0, List.getElem?_eq_getElem hlt]
      simp only [gdName_eq, TgP_some, OkP_ok, if_true, fBin_eq, fVar_eq, (hσ _).1, (hσ _).2, fCall0_eq, fCons_eq, fC_eq, fNil_eq, R.bind_ok, T.d_s, e, R.pure0_ok, opIx_str, if_pos hl, e2, okS_eq]
      refine ⟨s.trans s2, cs ++ [sg.cps.toList[q.toNat]], by simp, by simp [h2], ?_⟩
      intro c hc
      rcases List.mem_append.mp hc with hc | hc
      · exact h3 c hc
      · rw [List.mem_singleton.mp hc]
        exact List.getElem_mem hlt)
  subst h1
  exact ⟨cs, st', e, s, h2, h3⟩
def signsZ : Str := ("\x0a !\"#$&'()*+,-./0123456789:;<=>?@ABCDEFGHIJKLMNOPQRSTUVWXYZ[\\]^_`" : Str) ++ ("abcdefghijklmnopqrstuvwxyz{|}~" : Str)
theorem signs_len : signsZ.length = 95 := by decide +kernel
theorem signs_all : ∀ c ∈ signsZ.cps.toList, c = 10 ∨ 32 ≤ c ∧ c ≤ 126 := by decide +kernel
theorem signs_ok {st : Store} : L_signs [] st = okS (.str signsZ) st := by
  unfold L_signs
  simp only [mFn0_eq, mFn_eq, lb_signs]
  have h : ("\x0a !\"#$&'()*+,-./0123456789:;<=>?@ABCDEFGHIJKLMNOPQRSTUVWXYZ[\\]^_`" : Str).length + ("abcdefghijklmnopqrstuvwxyz{|}~" : Str).length ≤ sizeLine := by decide +kernel
  simp [okS_eq, h, signsZ]
theorem text_ok {b : Nat} {st : Store} {up : Nat} (hb : Box b st) (hu : up ≤ 900) : ∃ z st', L_text [.ref b, .int up] st = .ok (.s (.str z)) st' ∧ Stp b st st' ∧ TxtZ up z := by
  unfold L_text
  obtain ⟨n, s1, e1, t1, n0, n1⟩ := draw_ok (m := up + 1) hb (by omega)
  obtain ⟨n, rfl⟩ := Int.eq_ofNat_of_zero_le n0
  obtain ⟨cs, s2, e2, t2, h1, h2⟩ := chars_ok (b := b) (i := 2) (j := 0) (v := 4) (n := n) (sg := signsZ) (m := 95) (σ := [some (.ref b), some (.int up), some (.str signsZ), some (.int n), none]) (st := s1) (xs0 := rngD 0 n) t1.box (fun o => ⟨rfl, rfl⟩) signs_len (by omega) (by omega) (by omega)
  refine ⟨⟨cs.toArray⟩, s2, ?_, t1.trans t2, by show cs.toArray.size ≤ _; simp; omega, fun c hc => signs_all c (h2 c (by simpa using hc))⟩
  have h3 : ((n : Int) < 4611686018427387904) := by omega
  have h4 := opJoin_chars (cs := cs) (st := s2) (by omega)
  simp at e2
  simp [lb_text, signs_ok, okS_eq, e1, h3, e2, h4]
def lettersZ : Str := ("abcdefghijklmnopqrstuvwxyz_" : Str)
theorem letters_len : lettersZ.length = 27 := by decide +kernel
theorem letters_all : ∀ c ∈ lettersZ.cps.toList, c = 95 ∨ 97 ≤ c ∧ c ≤ 122 := by decide +kernel
theorem name_ok {b : Nat} {st : Store} (hb : Box b st) : ∃ z st', L_name [.ref b] st = .ok (.s (.str z)) st' ∧ Stp b st st' ∧ NameZ z := by
  unfold L_name
  obtain ⟨n, s1, e1, t1, n0, n1⟩ := draw_ok (m := 5) hb (by omega)
  obtain ⟨n, rfl⟩ := Int.eq_ofNat_of_zero_le n0
  obtain ⟨cs, s2, e2, t2, h1, h2⟩ := chars_ok (b := b) (i := 1) (j := 0) (v := 3) (n := 1 + n) (sg := lettersZ) (m := 27) (σ := [some (.ref b), some (.str lettersZ), some (.int (1 + n)), none]) (st := s1) (xs0 := rngD 0 (1 + n)) t1.box (fun o => ⟨rfl, rfl⟩) letters_len (by omega) (by omega) (by omega)
  have h5 : ∀ c ∈ cs, c = 95 ∨ 97 ≤ c ∧ c ≤ 122 := fun c hc => letters_all c (h2 c hc)
  refine ⟨⟨cs.toArray⟩, s2, ?_, t1.trans t2, by show 1 ≤ cs.toArray.size; simp; omega, ⟨by show cs.toArray.size ≤ _; simp; omega, fun c hc => ?_⟩, fun c hc => h5 c (by simpa using hc)⟩
  · have h3 : (1 + (n : Int) < 4611686018427387904) := by omega
    have h3' : (-4611686018427387904 ≤ 1 + (n : Int)) := by omega
    have h6 : (1 + (n : Int)).toNat = 1 + n := by omega
    have h4 := opJoin_chars (cs := cs) (st := s2) (by omega)
    simp [lettersZ] at e2
    simp [lb_name, okS_eq, e1, h3, h3', h6, e2, h4]
  · have := h5 c (by simpa using hc)
    omega
end Q3

/-! Q3: what the draws yield, on. -/
namespace Q3
open PySem PySem.Spec PyProof.Rows L2
theorem bits2 : Builtin.Int.intBits 2 = 2 := by decide +kernel
theorem bits64 : Builtin.Int.intBits 18446744073709551616 = 65 := by decide +kernel
theorem bits10 : Builtin.Int.intBits 10 = 4 := by decide +kernel
theorem number_ok {b : Nat} {st : Store} (hb : Box b st) : ∃ i st', L_number [.ref b] st = .ok (.s (.int i)) st' ∧ Stp b st st' ∧ NumOk i := by
  unfold L_number
  obtain ⟨k, s1, e1, t1, k0, k1⟩ := draw_ok (m := 8) hb (by omega)
  obtain ⟨n, s2, e2, t2, n0, n1⟩ := draw_ok (m := 300) t1.box (by omega)
  -- the rest, from the number on
  have fin : ∀ (x : Int) (o : Option D) (s : Store), Box b s → -bnd < x → x < bnd → ∃ i st', mFn0 5 (fun _ _ => (mSeq (mIf (tVal (fBin opEq (fCall0 L_draw (fCons (fVar 0) (fCons (fC (.int 2)) fNil))) (fC (.int 1))))
    (mRet (fUn unNeg (fVar 3)))
    mNil)
    (mRet (fVar 3))) [some (.ref b), some (.int bnd), some (.int k), some (.int x), o] s) [] s = .ok (.s (.int i)) st' ∧ Stp b s st' ∧ NumOk i := by
    intro x o s hs h1 h2
    obtain ⟨q, s3, e3, t3, q0, q1⟩ := draw_ok (m := 2) hs (by omega)
    by_cases hq : q = 1
    · refine ⟨-x, s3, ?_, t3, by constructor <;> omega⟩
      simp [okS_eq, e3, hq]
    · refine ⟨x, s3, ?_, t3, h1, h2⟩
      simp [okS_eq, e3, hq]
  have mk : ∀ (x : Int) (o : Option D) (s : Store), Stp b st s → -bnd < x → x < bnd → (mIf (tVal (fBin opEq (fVar 2) (fC (.int 0))))
    (mSet 3 (fBin opSub (fBin opSub (fVar 1) (fC (.int 1))) (fVar 3)))
    (mIf (tVal (fBin opEq (fVar 2) (fC (.int 1))))
    (mFor (fiRng1 (fCons (fCall0 L_draw (fCons (fVar 0) (fCons (fC (.int 24)) fNil))) fNil)) (gdName 4)
    (mSet 3 (fBin opMod (fArgs cInt (fCons (fBin opAdd (fBin opMul (fVar 3) (fC (.int 1000))) (fCall0 L_draw (fCons (fVar 0) (fCons (fC (.int 1000)) fNil)))) fNil)) (fVar 1))))
    (mIf (tVal (fBin opEq (fVar 2) (fC (.int 2))))
    (mSet 3 (fBin opIx (fLst (fCons (fC (.int 0)) (fCons (fC (.int 1)) (fCons (fC (.int 63)) (fCons (fC (.int 64)) (fCons (fC (.int 127)) (fCons (fC (.int 128)) (fCons (fC (.int 8191)) (fCons (fC (.int 8192)) fNil))))))))) (fCall0 L_draw (fCons (fVar 0) (fCons (fC (.int 8)) fNil)))))
    mNil))) [some (.ref b), some (.int bnd), some (.int k), some (.int n), none] s2 = .nx [some (.ref b), some (.int bnd), some (.int k), some (.int x), o] s →
    ∃ i st', mFn0 5 (lb_number L_draw) [.ref b] st = .ok (.s (.int i)) st' ∧ Stp b st st' ∧ NumOk i := by
    intro x o s t h1 h2 e
    obtain ⟨i, st', e4, t4, h4⟩ := fin x o s t.box h1 h2
    refine ⟨i, st', ?_, t.trans t4, h4⟩
    have hbnd : (18446744073709551616 : Int) ^ 4 = bnd := by decide +kernel
    simp only [mFn0_eq, mFn_eq, lb_number]
    simp [okS_eq, bits2, bits64, e1, e2, hbnd]
    simp [okS_eq] at e
    rw [e]
    simpa [okS_eq] using e4
  have t12 := t1.trans t2
  by_cases hk0 : k = 0
  · subst hk0
    refine mk (bnd - 1 - n) none s2 t12 (by unfold bnd; omega) (by omega) ?_
    simp [okS_eq]
  · by_cases hk1 : k = 1
    · subst hk1
      obtain ⟨c, s3, e3, t3, c0, c1⟩ := draw_ok (m := 24) t2.box (by omega)
      obtain ⟨c, rfl⟩ := Int.eq_ofNat_of_zero_le c0
      obtain ⟨σ', s4, e4, x, o, rfl, t4, x0, x1⟩ := rng_inv (lo := 0) (n := c) (xs0 := rngD 0 c) (tg := gdName 4) (b := (mSet 3 (fBin opMod (fArgs cInt (fCons (fBin opAdd (fBin opMul (fVar 3) (fC (.int 1000))) (fCall0 L_draw (fCons (fVar 0) (fCons (fC (.int 1000)) fNil)))) fNil)) (fVar 1))))
        (σ := [some (.ref b), some (.int bnd), some (.int 1), some (.int n), none]) (st := s3)
        (fun _ σ s => ∃ x o, σ = [some (.ref b), some (.int bnd), some (.int 1), some (.int x), o] ∧ Stp b s3 s ∧ 0 ≤ x ∧ x < bnd) ⟨n, none, rfl, Stp.refl t3.box, n0, by unfold bnd; omega⟩ (by
          intro j σ s hj ⟨x, o, h1, t, x0, x1⟩
          subst h1
          obtain ⟨y, s5, e5, t5, y0, y1⟩ := draw_ok (m := 1000) t.box (by omega)
          have hb0 : 0 < bnd := by decide
          simp [okS_eq, e5, hb0]
          exact ⟨t.trans t5, Int.emod_nonneg _ (by omega), Int.emod_lt_of_pos _ hb0⟩)
      refine mk x o s4 (t12.trans (t3.trans t4)) (by omega) x1 ?_
      have hc : ((c : Int) < 4611686018427387904) := by omega
      simp [okS_eq, e3, hc, e4]
    · by_cases hk2 : k = 2
      · subst hk2
        obtain ⟨c, s3, e3, t3, c0, c1⟩ := draw_ok (m := 8) t2.box (by omega)
        have hc : c = 0 ∨ c = 1 ∨ c = 2 ∨ c = 3 ∨ c = 4 ∨ c = 5 ∨ c = 6 ∨ c = 7 := by omega
        have go : ∀ x : Int, L2.atI [D.int 0, .int 1, .int 63, .int 64, .int 127, .int 128, .int 8191, .int 8192] c = some (.int x) → 0 ≤ x → x ≤ 8192 → ∃ i st', mFn0 5 (lb_number L_draw) [.ref b] st = .ok (.s (.int i)) st' ∧ Stp b st st' ∧ NumOk i := fun x hx h0 h1 => by
          refine mk x none s3 (t12.trans t3) (by unfold bnd; omega) (by unfold bnd; omega) ?_
          simp [okS_eq, e3, hx]
        rcases hc with rfl | rfl | rfl | rfl | rfl | rfl | rfl | rfl
        · exact go 0 (by simp [atI_eq]) (by omega) (by omega)
        · exact go 1 (by simp [atI_eq]) (by omega) (by omega)
        · exact go 63 (by simp [atI_eq]) (by omega) (by omega)
        · exact go 64 (by simp [atI_eq]) (by omega) (by omega)
        · exact go 127 (by simp [atI_eq]) (by omega) (by omega)
        · exact go 128 (by simp [atI_eq]) (by omega) (by omega)
        · exact go 8191 (by simp [atI_eq]) (by omega) (by omega)
        · exact go 8192 (by simp [atI_eq]) (by omega) (by omega)
      · refine mk n none s2 t12 (by unfold bnd; omega) (by unfold bnd; omega) ?_
        simp [okS_eq, hk0, hk1, hk2]
theorem draw2_ok {b : Nat} {st : Store} {m : Int} (hb : Box b st) (hm : 0 < m) : ∃ v1 v2 s1 s2, L_draw [.ref b, .int 1000] st = .ok (.s (.int v1)) s1 ∧ L_draw [.ref b, .int 1000] s1 = .ok (.s (.int v2)) s2 ∧ Stp b st s2 ∧ 0 ≤ (v1 * 1000 + v2) % m ∧ (v1 * 1000 + v2) % m < m := by
  obtain ⟨v1, s1, e1, t1, _, _⟩ := draw_ok (m := 1000) hb (by omega)
  obtain ⟨v2, s2, e2, t2, _, _⟩ := draw_ok (m := 1000) t1.box (by omega)
  exact ⟨v1, v2, s1, s2, e1, e2, t1.trans t2, Int.emod_nonneg _ (by omega), Int.emod_lt_of_pos _ hm⟩
theorem value_ok {b : Nat} {st : Store} {m : Int} (hb : Box b st) (hm : 0 < m) : ∃ d st', L_value [.ref b, .int m] st = .ok (.s d) st' ∧ Stp b st st' ∧ GVal m d := by
  unfold L_value
  obtain ⟨k, s1, e1, t1, k0, k1⟩ := draw_ok (m := 10) hb (by omega)
  have hk : k = 0 ∨ k = 1 ∨ k = 2 ∨ k = 3 ∨ k = 4 ∨ k = 5 ∨ k = 6 ∨ 7 ≤ k := by omega
  rcases hk with rfl | rfl | rfl | rfl | rfl | rfl | rfl | hk
  · exact ⟨.tup [.str "none"], s1, by simp [lb_value, okS_eq, e1], t1, .none⟩
  · obtain ⟨q, s2, e2, t2, _, _⟩ := draw_ok (m := 2) t1.box (by omega)
    exact ⟨.tup [.str "bool", .bl (decide (q = 1))], s2, by simp [lb_value, okS_eq, e1, e2], t1.trans t2, .bool _⟩
  · obtain ⟨q, s2, e2, t2, h2⟩ := number_ok t1.box
    exact ⟨.tup [.str "int", .int q], s2, by simp [lb_value, okS_eq, e1, e2], t1.trans t2, .int _ h2⟩
  · obtain ⟨q, s2, e2, t2, h2⟩ := text_ok (up := 12) t1.box (by omega)
    simp at e2
    exact ⟨.tup [.str "text", .str q], s2, by simp [lb_value, okS_eq, e1, e2], t1.trans t2, .text _ h2⟩
  · obtain ⟨q, s2, e2, t2, h2⟩ := number_ok t1.box
    obtain ⟨r, s3, e3, t3, r0, r1⟩ := draw_ok (m := 3) t2.box (by omega)
    obtain ⟨h3, h4⟩ := h2
    by_cases hq : q < 100000000000000000000
    · refine ⟨.tup [.str "span", .int q, .int (q + r)], s3, by simp [lb_value, okS_eq, e1, e2, e3, bits10, cLt, hq], (t1.trans t2).trans t3, .span _ _ ⟨h3, h4⟩ ⟨by omega, ?_⟩ (by omega)⟩
      unfold bnd
      omega
    · refine ⟨.tup [.str "span", .int q, .int q], s3, by simp [lb_value, okS_eq, e1, e2, e3, bits10, cLt, hq], (t1.trans t2).trans t3, .span _ _ ⟨h3, h4⟩ ⟨h3, h4⟩ (by omega)⟩
  · obtain ⟨q, s2, e2, t2, h2⟩ := name_ok t1.box
    exact ⟨.tup [.str "built", .str q], s2, by simp [lb_value, okS_eq, e1, e2], t1.trans t2, .built _ h2⟩
  · obtain ⟨q, s2, e2, t2, h2⟩ := name_ok t1.box
    exact ⟨.tup [.str "host", .str q], s2, by simp [lb_value, okS_eq, e1, e2], t1.trans t2, .host _ h2⟩
  · obtain ⟨v1, v2, s2, s3, e2, e3, t2, h1, h2⟩ := draw2_ok t1.box hm
    have n0 : ¬ k = 0 := by omega
    have n1 : ¬ k = 1 := by omega
    have n2 : ¬ k = 2 := by omega
    have n3 : ¬ k = 3 := by omega
    have n4 : ¬ k = 4 := by omega
    have n5 : ¬ k = 5 := by omega
    have n6 : ¬ k = 6 := by omega
    exact ⟨.tup [.str "ref", .int ((v1 * 1000 + v2) % m)], s3, by simp [lb_value, okS_eq, e1, e2, e3, hm, n0, n1, n2, n3, n4, n5, n6], t1.trans t2, .ref _ h1 h2⟩
/-- n draws of a kind, as a list -/
theorem many_ok {b v n : Nat} {σ : DS} {st : Store} {xs0 : List D} {fe : ME} {G : D → Prop} (hb : Box b st) (hn : n ≤ 1000)
    (one : ∀ (o : Option D) (s : Store), Box b s → ∃ d s', fe (σ.set v o) s = .ok (.s d) s' ∧ Stp b s s' ∧ G d) :
    ∃ (ds : List D) (st' : Store), lcL (.val xs0) (gdName v) (fun _ st => .ok true st) fe σ (rngD 0 n) [] st = .ok (.l ds) st' ∧ Stp b st st' ∧ ds.length = n ∧ ∀ d ∈ ds, G d := by
  obtain ⟨acc, st', e, _, s, h2, h3⟩ := lcr_inv (tg := gdName v) (ft := fun _ st => .ok true st) (fe := fe) (xs0 := xs0) (σ := σ) (lo := 0) (n := n) (st := st)
    (fun k acc st' => Stp b st st' ∧ acc.length = k ∧ ∀ d ∈ acc, G d) ⟨Stp.refl hb, rfl, fun c h => by cases h⟩ (by rw [← line_ge]; omega) (by
      intro k acc st1 hk _ ⟨s, h2, h3⟩
      obtain ⟨d, s', e, t, g⟩ := one (some (.int (0 + k))) st1 s.box
      simp only [gdName_eq, TgP_some, OkP_ok, if_true, e, T.d_s]
      refine ⟨s.trans t, by simp [h2], fun c hc => ?_⟩
      rcases List.mem_append.mp hc with hc | hc
      · exact h3 c hc
      · rw [List.mem_singleton.mp hc]
        exact g)
  exact ⟨acc, st', e, s, h2, h3⟩
theorem tree_ok {b : Nat} {m : Int} : ∀ (n : Nat) (dep : Nat) {st : Store}, Box b st → dep < n → ∃ d st', L_tree n [.ref b, .int dep] st = .ok (.s d) st' ∧ Stp b st st' ∧ GTree dep d
  | 0, dep, st, hb, h => by omega
  | n + 1, dep, st, hb, h => by
    show ∃ d st', mFn0 6 (lb_tree L_draw L_text L_number L_name (L_tree n)) [.ref b, .int dep] st = .ok (.s d) st' ∧ Stp b st st' ∧ GTree dep d
    obtain ⟨k, s1, e1, t1, k0, k1⟩ := draw_ok (m := 8) hb (by omega)
    by_cases n0 : k = 0
    · obtain ⟨q, s2, e2, t2, h2⟩ := text_ok (up := 6) t1.box (by omega)
      simp at e2
      exact ⟨.str q, s2, by simp [lb_tree, okS_eq, e1, e2, n0], t1.trans t2, .str _ h2⟩
    by_cases n1 : k = 1
    · obtain ⟨q, s2, e2, t2, h2⟩ := number_ok t1.box
      by_cases q0 : q = 0
      · exact ⟨.int 2, s2, by simp [lb_tree, okS_eq, e1, e2, n0, n1, q0], t1.trans t2, .int _ (by constructor <;> unfold bnd <;> omega) (by omega) (by omega)⟩
      by_cases q1 : q = 1
      · exact ⟨.int 3, s2, by simp [lb_tree, okS_eq, e1, e2, n0, n1, q0, q1], t1.trans t2, .int _ (by constructor <;> unfold bnd <;> omega) (by omega) (by omega)⟩
      · exact ⟨.int q, s2, by simp [lb_tree, okS_eq, e1, e2, n0, n1, q0, q1], t1.trans t2, .int _ h2 q0 q1⟩
    by_cases n2 : k = 2
    · obtain ⟨q, s2, e2, t2, _, _⟩ := draw_ok (m := 2) t1.box (by omega)
      exact ⟨.bl (decide (q = 1)), s2, by simp [lb_tree, okS_eq, e1, e2, n0, n1, n2], t1.trans t2, .bool _⟩
    by_cases n3 : k = 3 ∨ dep = 0
    · obtain ⟨q, s2, e2, t2, h2⟩ := name_ok t1.box
      refine ⟨.str q, s2, ?_, t1.trans t2, .str _ ⟨Nat.le_trans h2.2.1.1 (by omega), h2.2.1.2⟩⟩
      rcases n3 with n3 | n3
      · simp [lb_tree, okS_eq, e1, e2, n0, n1, n2, n3]
      · by_cases k3 : k = 3
        · simp [lb_tree, okS_eq, e1, e2, n0, n1, n2, k3]
        · simp [lb_tree, okS_eq, e1, e2, n0, n1, n2, n3, k3]
    · have k3 : ¬ k = 3 := fun h => n3 (.inl h)
      have d0 : ¬ dep = 0 := fun h => n3 (.inr h)
      obtain ⟨dep, rfl⟩ : ∃ d, dep = d + 1 := ⟨dep - 1, by omega⟩
      obtain ⟨c, s2, e2, t2, c0, c1⟩ := draw_ok (m := 4) t1.box (by omega)
      obtain ⟨c, rfl⟩ := Int.eq_ofNat_of_zero_le c0
      obtain ⟨ds, s3, e3, t3, h3, h4⟩ := many_ok (b := b) (v := 5) (n := c) (σ := [some (.ref b), some (.int ((dep + 1 : Nat) : Int)), some (.int k), none, some (.int c), none]) (xs0 := rngD 0 c) (fe := (fCall0 (L_tree n) (fCons (fVar 0) (fCons (fBin opSub (fVar 1) (fC (.int 1))) fNil)))) (G := GTree dep) t2.box (by omega) (fun o s hs => by
        obtain ⟨d, s', e, t, g⟩ := tree_ok (m := m) n dep hs (by omega)
        refine ⟨d, s', ?_, t, g⟩
        have : ((dep + 1 : Nat) : Int) - 1 = dep := by omega
        simp [okS_eq, this, e])
      refine ⟨.tup ds, s3, ?_, (t1.trans t2).trans t3, .tup ds (by omega) h4⟩
      have hc : ((c : Int) < 4611686018427387904) := by omega
      have d0' : ¬ ((dep : Int) + 1 = 0) := by omega
      simp at e3
      simp [lb_tree, okS_eq, e1, e2, n0, n1, n2, k3, d0', hc, e3]
end Q3

/-! Q3: rows, fields, shapes. -/
namespace Q3
open PySem PySem.Spec PyProof.Rows L2
inductive Lt where | v | V | W | X | t | a | b | n | x | s | F
deriving DecidableEq
def Lt.c : Lt → Nat | .v => 118 | .V => 86 | .W => 87 | .X => 88 | .t => 116 | .a => 97 | .b => 98 | .n => 110 | .x => 120 | .s => 115 | .F => 70
def lsZ (ls : List Lt) : Str := ⟨(ls.map Lt.c).toArray⟩
@[simp] theorem lsZ_len {ls : List Lt} : (lsZ ls).length = ls.length := by simp [lsZ, Str.length]
theorem strD_ls {ls : List Lt} : strD (lsZ ls) = ls.map fun l => .str ⟨#[l.c]⟩ := by simp [strD, lsZ]
abbrev Row := Str × List Lt
def mkRow (s : String) (ls : List Lt) : Row := (s, ls)
def rowD (r : Row) : D := .ro [.str r.1, .str (lsZ r.2)]
def framesR : List Row := [mkRow "neg" [], mkRow "not" [], mkRow "bin1" [.x, .t, .a], mkRow "bin2" [.x, .v], mkRow "and" [.t, .a], mkRow "or" [.t, .a], mkRow "choice" [.t, .t, .a], mkRow "cmp1" [.t, .a], mkRow "cmp2" [.v, .x, .t, .a], mkRow "cmp3" [.v, .t, .a], mkRow "attr" [.x], mkRow "item1" [.t, .a], mkRow "item2" [.v], mkRow "part1" [.t, .t, .a], mkRow "part2" [.v, .t, .a], mkRow "part3" [.v, .v], mkRow "items" [.x, .V, .t, .a], mkRow "dict1" [.W, .t, .t, .a], mkRow "dict2" [.W, .v, .t, .a], mkRow "call1" [.t, .t, .a], mkRow "args" [.v, .V, .t, .X, .t, .a], mkRow "rest" [.t, .a], mkRow "drop" [], mkRow "put" [.t, .a], mkRow "del1" [.t, .a], mkRow "del2" [.v], mkRow "ret" [], mkRow "throw" [], mkRow "if" [.t, .t, .a], mkRow "while1" [.t, .t, .a, .n], mkRow "while2" [.t, .t, .a, .n], mkRow "for1" [.t, .t, .a, .n], mkRow "for2" [.t, .t, .a, .n], mkRow "for3" [.v, .t, .t, .a, .n], mkRow "for4" [.v, .t, .t, .a, .n], mkRow "for5" [.v, .t, .t, .a, .n], mkRow "def" [.x, .t, .t, .t, .X, .t, .a], mkRow "class1" [.x, .t, .t, .a], mkRow "class2" [.x, .b, .a, .a], mkRow "catch" [.t, .a], mkRow "match" [.v, .t, .a], mkRow "handling" [.v], mkRow "final" [.t, .a], mkRow "after" [.s], mkRow "giving" [.t, .a], mkRow "sent" [.t, .a], mkRow "setattr" [.x, .v], mkRow "seti1" [.t, .v, .a], mkRow "seti2" [.v, .v], mkRow "unpack" [.t, .V, .a], mkRow "forget" [], mkRow "body" [.x, .n], mkRow "init" [.v], mkRow "genbody" [.a, .x, .n, .x], mkRow "begin" [.t, .a], mkRow "want" [.x], mkRow "print" [.v, .V], mkRow "gather1" [.x], mkRow "gather" [.x, .v, .V], mkRow "default" [.v]]
def objectsR : List Row := [mkRow "list" [.V], mkRow "tuple" [.V], mkRow "dict" [.W], mkRow "scope" [.X, .t, .t, .b, .t], mkRow "func" [.x, .t, .X, .t, .t, .a], mkRow "class" [.x, .b, .X], mkRow "inst" [.a, .X], mkRow "bound" [.v, .v], mkRow "iter" [.v, .n, .n], mkRow "gen" [.x, .x, .F]]
def controlsR : List Row := [mkRow "eval" [.t, .a], mkRow "exec" [.t, .a], mkRow "store" [.t, .v, .a], mkRow "call" [.v, .V, .X], mkRow "resume" [.a, .x, .v], mkRow "value" [.v], mkRow "done" [], mkRow "leave" [.s], mkRow "give" [.v], mkRow "ask" [.x, .V]]
def framesD : List D := framesR.map rowD
def objectsD : List D := objectsR.map rowD
def controlsD : List D := controlsR.map rowD
theorem rows_len : framesR.length = 60 ∧ objectsR.length = 10 ∧ controlsR.length = 10 := by decide +kernel
/-! the tables of the law -/
noncomputable def L_objects : Fn := mFn0 0 lb_objects
noncomputable def L_controls : Fn := mFn0 0 lb_controls
noncomputable def L_frames : Fn := mFn0 4 lb_frames
theorem objectsD_eq : objectsD = [.ro [.str "list", .str "V"], .ro [.str "tuple", .str "V"], .ro [.str "dict", .str "W"], .ro [.str "scope", .str "Xttbt"], .ro [.str "func", .str "xtXtta"], .ro [.str "class", .str "xbX"], .ro [.str "inst", .str "aX"], .ro [.str "bound", .str "vv"], .ro [.str "iter", .str "vnn"], .ro [.str "gen", .str "xxF"]] := by
  have : (objectsR.map fun r => (r.1, lsZ r.2)) = strs2 [("list", "V"), ("tuple", "V"), ("dict", "W"), ("scope", "Xttbt"), ("func", "xtXtta"), ("class", "xbX"), ("inst", "aX"), ("bound", "vv"), ("iter", "vnn"), ("gen", "xxF")] := by decide +kernel
  have h2 : objectsD = (objectsR.map fun r => (r.1, lsZ r.2)).map fun p => D.ro [.str p.1, .str p.2] := by
    unfold objectsD
    rw [List.map_map]
    rfl
  rw [h2, this]
  simp only [strs2, List.map_cons, List.map_nil]
theorem controlsD_eq : controlsD = [.ro [.str "eval", .str "ta"], .ro [.str "exec", .str "ta"], .ro [.str "store", .str "tva"], .ro [.str "call", .str "vVX"], .ro [.str "resume", .str "axv"], .ro [.str "value", .str "v"], .ro [.str "done", .str ""], .ro [.str "leave", .str "s"], .ro [.str "give", .str "v"], .ro [.str "ask", .str "xV"]] := by
  have : (controlsR.map fun r => (r.1, lsZ r.2)) = strs2 [("eval", "ta"), ("exec", "ta"), ("store", "tva"), ("call", "vVX"), ("resume", "axv"), ("value", "v"), ("done", ""), ("leave", "s"), ("give", "v"), ("ask", "xV")] := by decide +kernel
  have h2 : controlsD = (controlsR.map fun r => (r.1, lsZ r.2)).map fun p => D.ro [.str p.1, .str p.2] := by
    unfold controlsD
    rw [List.map_map]
    rfl
  rw [h2, this]
  simp only [strs2, List.map_cons, List.map_nil]
theorem objects_ok {st : Store} : L_objects [] st = .ok (.l objectsD) st := by
  unfold L_objects
  rw [objectsD_eq]
  simp [lb_objects]
theorem controls_ok {st : Store} : L_controls [] st = .ok (.l controlsD) st := by
  unfold L_controls
  rw [controlsD_eq]
  simp [lb_controls]
def rowOf (w : Str) : Option (Str × Str) := match PySem.Txt.words w with
  | [a] => some (a, "")
  | [a, b] => some (a, b)
  | _ => none
def wordsZ : Str := ("neg|not|bin1 xta|bin2 xv|and ta|or ta|choice tta|cmp1 ta|cmp2 vxta|cmp3 vta|attr x|item1 ta|item2 v|" : Str)
    ++ ("part1 tta|part2 vta|part3 vv|items xVta|dict1 Wtta|dict2 Wvta|call1 tta|args vVtXta|rest ta|drop|" : Str)
    ++ ("put ta|del1 ta|del2 v|ret|throw|if tta|while1 ttan|while2 ttan|for1 ttan|for2 ttan|for3 vttan|" : Str)
    ++ ("for4 vttan|for5 vttan|def xtttXta|class1 xtta|class2 xbaa|catch ta|match vta|handling v|final ta|" : Str)
    ++ ("after s|giving ta|sent ta|setattr xv|seti1 tva|seti2 vv|unpack tVa|forget|body xn|init v|" : Str)
    ++ ("genbody axnx|begin ta|want x|print vV|gather1 x|gather xvV|default v" : Str)
theorem words_split : PySem.Txt.split wordsZ "|" = (TL.spl [124] 0 [] wordsZ.cps.toList).map SX.S := by
  have h : (Str.ofString "|") = SX.S [124] := by decide +kernel
  have h2 : wordsZ = SX.S wordsZ.cps.toList := (SX.S_tl wordsZ).symm
  conv => lhs; rw [h, h2]
  exact SX.split_S (by simp) (by decide)
theorem words_rows : (PySem.Txt.split wordsZ "|").map rowOf = framesR.map fun r => some (r.1, lsZ r.2) := by
  rw [words_split]
  decide +kernel
/-- one word of the table of frames -/
theorem frames_run : ∀ (ws : List Str) (out : List (Str × Str)), ws.map rowOf = out.map some → (∀ w ∈ ws, w.length ≤ 1000) → ∀ (acc : List D) (n : Nat) (o1 o2 : Option D) (x0 : List D) (d0 : D) (st : Store), acc.length + ws.length ≤ 1000 → n = st.length →
    ∃ q1 q2, forL (.val x0) (gdName 2) (mSeq (mSet 3 (fM0 opWords (fVar 2)))
      (mIf (tVal (fBin opEq (fArgs cLen (fCons (fVar 3) fNil)) (fC (.int 1))))
      (mExpr (fBML opAppend (fVar 1) (fCons (fLst (fCons (fBin opIx (fVar 3) (fC (.int 0))) (fCons (fC (.str "")) fNil))) fNil)))
      (mExpr (fBML opAppend (fVar 1) (fCons (fLst (fCons (fBin opIx (fVar 3) (fC (.int 0))) (fCons (fBin opIx (fVar 3) (fC (.int 1))) fNil))) fNil)))))
      (ws.map D.str) [some d0, some (.ref n), o1, o2] (st ++ [.lst acc]) = .nx [some d0, some (.ref n), q1, q2] (st ++ [.lst (acc ++ out.map fun p => .ro [.str p.1, .str p.2])])
  | [], out, h, hl, acc, n, o1, o2, x0, d0, st, hz, hn => by
    cases out with
    | cons a r => cases h
    | nil => exact ⟨o1, o2, by simp⟩
  | w :: ws, out, h, hl, acc, n, o1, o2, x0, d0, st, hz, hn => by
    cases out with
    | nil => cases h
    | cons p out =>
      rw [List.map_cons, List.map_cons, List.cons.injEq] at h
      obtain ⟨h1, h2⟩ := h
      subst hn
      have hw := hl w (List.mem_cons_self ..)
      have hwz : w.length + 2 ≤ sizeLine := by rw [← line_ge]; omega
      rw [List.length_cons] at hz
      have hac : acc.length < sizeLine := by rw [← line_ge]; omega
      have next := fun o1 o2 => frames_run ws out h2 (fun w hw => hl w (List.mem_cons_of_mem _ hw)) (acc ++ [.ro [.str p.1, .str p.2]]) st.length o1 o2 x0 d0 st (by simp; omega) rfl
      unfold rowOf at h1
      split at h1
      · rename_i a e
        cases h1
        obtain ⟨o1', o2', e2⟩ := next (some (.str w)) (some (.ro [.str a]))
        refine ⟨o1', o2', ?_⟩
        rw [List.map_cons, forL_cons]
        simp [opWords, hwz, e, okS_eq, hac, atI_eq]
        simpa using e2
      · rename_i a b e
        cases h1
        obtain ⟨o1', o2', e2⟩ := next (some (.str w)) (some (.ro [.str a, .str b]))
        refine ⟨o1', o2', ?_⟩
        rw [List.map_cons, forL_cons]
        simp [opWords, hwz, e, okS_eq, hac, atI_eq]
        simpa using e2
      · cases h1
noncomputable def lbF (w1 w2 w3 w4 w5 w6 : Str) : MS :=
    (mSeq (mSet 0 (fC (.str w1)))
    (mSeq (mSet 0 (fBin opAdd (fVar 0) (fC (.str w2))))
    (mSeq (mSet 0 (fBin opAdd (fVar 0) (fC (.str w3))))
    (mSeq (mSet 0 (fBin opAdd (fVar 0) (fC (.str w4))))
    (mSeq (mSet 0 (fBin opAdd (fVar 0) (fC (.str w5))))
    (mSeq (mSet 0 (fBin opAdd (fVar 0) (fC (.str w6))))
    (mSeq (mSet 1 (fMat (fLst fNil)))
    (mSeq (mFor (fiSeq (fM1 opSplit (fVar 0) (fC (.str "|")))) (gdName 2)
    (mSeq (mSet 3 (fM0 opWords (fVar 2)))
    (mIf (tVal (fBin opEq (fArgs cLen (fCons (fVar 3) fNil)) (fC (.int 1))))
    (mExpr (fBML opAppend (fVar 1) (fCons (fLst (fCons (fBin opIx (fVar 3) (fC (.int 0))) (fCons (fC (.str "")) fNil))) fNil)))
    (mExpr (fBML opAppend (fVar 1) (fCons (fLst (fCons (fBin opIx (fVar 3) (fC (.int 0))) (fCons (fBin opIx (fVar 3) (fC (.int 1))) fNil))) fNil))))))
    (mRet (fVar 1))))))))))
theorem lbF_eq : lb_frames = lbF "neg|not|bin1 xta|bin2 xv|and ta|or ta|choice tta|cmp1 ta|cmp2 vxta|cmp3 vta|attr x|item1 ta|item2 v|" "part1 tta|part2 vta|part3 vv|items xVta|dict1 Wtta|dict2 Wvta|call1 tta|args vVtXta|rest ta|drop|" "put ta|del1 ta|del2 v|ret|throw|if tta|while1 ttan|while2 ttan|for1 ttan|for2 ttan|for3 vttan|" "for4 vttan|for5 vttan|def xtttXta|class1 xtta|class2 xbaa|catch ta|match vta|handling v|final ta|" "after s|giving ta|sent ta|setattr xv|seti1 tva|seti2 vv|unpack tVa|forget|body xn|init v|" "genbody axnx|begin ta|want x|print vV|gather1 x|gather xvV|default v" := rfl
theorem lbF_ok (w1 w2 w3 w4 w5 w6 : Str) (h1 : w1.length ≤ 150) (h2 : w2.length ≤ 150) (h3 : w3.length ≤ 150) (h4 : w4.length ≤ 150) (h5 : w5.length ≤ 150) (h6 : w6.length ≤ 150)
    (out : List (Str × Str)) (hs : (PySem.Txt.split (w1 ++ w2 ++ w3 ++ w4 ++ w5 ++ w6) "|").map rowOf = out.map some) (ho : out.length ≤ 1000) (st : Store) :
    mFn0 4 (lbF w1 w2 w3 w4 w5 w6) [] st = .ok (.s (.ref st.length)) (st ++ [.lst (out.map fun p => D.ro [.str p.1, .str p.2])]) := by
  have aa : ∀ a b : Str, (a ++ b).length = a.length + b.length := PySem.Str.length_append
  have hb : (Str.ofString "|").length = 1 := by decide +kernel
  simp only [mFn0_eq, mFn_eq, lbF]
  generalize (Str.ofString "|") = bar at hs hb ⊢
  generalize hW : w1 ++ w2 ++ w3 ++ w4 ++ w5 ++ w6 = W at hs
  have hl : W.length ≤ 1000 := by rw [← hW]; simp only [aa]; omega
  obtain ⟨o1, o2, e⟩ := frames_run (PySem.Txt.split W bar) out hs (fun w hw => Nat.le_trans (PyProof.Rows.part_short hw) hl) [] st.length none none ((PySem.Txt.split W bar).map D.str) (.str W) st (by
    have := congrArg List.length hs
    rw [List.length_map, List.length_map] at this
    rw [this]
    simpa using ho) rfl
  have hsp : opSplit (.str W) (.str bar) (st ++ [.lst []]) = .ok (.l ((PySem.Txt.split W bar).map D.str)) (st ++ [.lst []]) := by
    show (if (bar.length == 0) = false ∧ W.length + 2 ≤ sizeLine then _ else _) = _
    rw [if_pos ⟨by rw [hb]; rfl, by rw [← line_ge]; omega⟩]
  have e1 : w1.length + w2.length ≤ 16777216 := by omega
  have e2 : w1.length + w2.length + w3.length ≤ 16777216 := by omega
  have e3 : w1.length + w2.length + w3.length + w4.length ≤ 16777216 := by omega
  have e4 : w1.length + w2.length + w3.length + w4.length + w5.length ≤ 16777216 := by omega
  have e5 : w1.length + w2.length + w3.length + w4.length + w5.length + w6.length ≤ 16777216 := by omega
  simp [okS_eq, aa, ← line_ge, e1, e2, e3, e4, e5, hW, hsp]
  simp only [o_e, List.nil_append] at e
  simp [e]
theorem frames_ok {st : Store} : L_frames [] st = .ok (.s (.ref st.length)) (st ++ [.lst framesD]) := by
  unfold L_frames
  rw [lbF_eq]
  have z : framesD = (framesR.map fun r => (r.1, lsZ r.2)).map fun p => D.ro [.str p.1, .str p.2] := by
    unfold framesD
    rw [List.map_map]
    rfl
  rw [z]
  exact lbF_ok _ _ _ _ _ _ (by decide +kernel) (by decide +kernel) (by decide +kernel) (by decide +kernel) (by decide +kernel) (by decide +kernel) _ (by rw [List.map_map]; exact words_rows) (by rw [List.length_map, rows_len.1]; decide) st
end Q3

/-! Q3: rows, fields, shapes. -/
namespace Q3
open PySem PySem.Spec PyProof.Rows L2
/-- the meaning of _law_frames, with what it leaves forgotten -/
def S_frames : Fn := fun args st => if args.isEmpty then .ok (.l framesD) st else .bad
theorem framesD_lts {n : Nat} : D.lts n framesD = true := by
  have : ∀ rs : List Row, D.lts n (rs.map rowD) = true := by
    intro rs
    induction rs with
    | nil => rfl
    | cons r rs ih =>
      show (D.lt n (rowD r) && D.lts n (rs.map rowD)) = true
      rw [ih]
      rfl
  exact this _
theorem frames_gc {args : List D} {st : Store} (ha : args.length = 0) (hl : Store.lt st.length st = true) : Gc st.length (L_frames args st) (S_frames args st) := by
  cases args with
  | cons a r => cases ha
  | nil =>
    rw [frames_ok]
    show Gc st.length (.ok (.s (.ref st.length)) (st ++ [.lst framesD])) (.ok (.l framesD) st)
    have h : (st ++ [SO.lst framesD]).take st.length = st := by simp
    have := Gc.lst (n := st.length) (k := st.length) (ds := framesD) (st := st ++ [.lst framesD]) (by rw [h]; exact hl) framesD_lts (Nat.le_refl _) (by simp)
    rwa [h] at this
noncomputable def L_shape_of (c_field : Fn) : Fn := mFn0 5 (lb_shape_of c_field)
noncomputable def L_shape (c_field : Fn) : Fn := mFn0 4 (lb_shape L_draw (L_shape_of c_field))
noncomputable def L_field : Nat → Fn
  | 0 => fun _ _ => .bad
  | n + 1 => mFn0 6 (lb_field L_value L_draw L_name (L_tree 4) L_number (L_shape (L_field n)) S_frames)
/-- all of a list with all of another, one by one -/
inductive All2 {α β : Type} (R : α → β → Prop) : List α → List β → Prop where
  | nil : All2 R [] []
  | cons {a b as bs} (h : R a b) (t : All2 R as bs) : All2 R (a :: as) (b :: bs)
inductive Fld (m : Int) (Fr : D → Prop) : Lt → D → Prop where
  | v {d : D} (h : GVal m d) : Fld m Fr .v d
  | V {ds : List D} (l : ds.length ≤ 4) (h : ∀ d ∈ ds, GVal m d) : Fld m Fr .V (.tup ds)
  | W {ps : List (D × D)} (l : ps.length ≤ 4) (h : ∀ p ∈ ps, GVal m p.1 ∧ GVal m p.2) : Fld m Fr .W (.tup (ps.map fun p => .tup [p.1, p.2]))
  | X {ps : List (Str × D)} (l : ps.length ≤ 3) (h : ∀ p ∈ ps, NameZ p.1 ∧ GVal m p.2) : Fld m Fr .X (.tup (ps.map fun p => .tup [.str p.1, p.2]))
  | t {d : D} (h : GTree 3 d) : Fld m Fr .t d
  | a {i : Int} (h : 0 ≤ i) (g : i < m) : Fld m Fr .a (.int i)
  | b {i : Int} (h : -1 ≤ i) (g : i < m) : Fld m Fr .b (.int i)
  | n {i : Int} (h : NumOk i) : Fld m Fr .n (.int i)
  | x {z : Str} (h : NameZ z) : Fld m Fr .x (.str z)
  | s0 : Fld m Fr .s (.tup [])
  | sb : Fld m Fr .s (.tup [.str "break"])
  | sc : Fld m Fr .s (.tup [.str "continue"])
  | sr {d : D} (h : GVal m d) : Fld m Fr .s (.tup [.str "return", d])
  | sx {d : D} (h : GVal m d) : Fld m Fr .s (.tup [.str "raise", d])
  | F {ds : List D} (l : ds.length ≤ 2) (h : ∀ d ∈ ds, Fr d) : Fld m Fr .F (.tup ds)
/-- an item of a row -/
def Item (m : Int) (Fr : D → Prop) (r : Row) (d : D) : Prop := ∃ fs, d = .tup (.str r.1 :: fs) ∧ All2 (Fld m Fr) r.2 fs
def Frame (m : Int) (d : D) : Prop := ∃ r ∈ framesR, Item m (fun _ => False) r d
/-- c yields fields for the letters that are L -/
def FieldOk (c : Fn) (b : Nat) (m : Int) (Fr : D → Prop) (L : Lt → Prop) : Prop := ∀ (l : Lt) (st : Store), L l → Box b st → ∃ d st', c [.ref b, .str ⟨#[l.c]⟩, .int m] st = .ok (.s d) st' ∧ Stp b st st' ∧ Fld m Fr l d
theorem All2.snoc {α β : Type} {R : α → β → Prop} {a : α} {b : β} : ∀ {as : List α} {bs : List β}, All2 R as bs → R a b → All2 R (as ++ [a]) (bs ++ [b])
  | _, _, .nil, h => .cons h .nil
  | _, _, .cons g t, h => .cons g (t.snoc h)
theorem All2.length {α β : Type} {R : α → β → Prop} : ∀ {as : List α} {bs : List β}, All2 R as bs → as.length = bs.length
  | _, _, .nil => rfl
  | _, _, .cons g t => by rw [List.length_cons, List.length_cons, t.length]
theorem shape_of_ok {c : Fn} {b : Nat} {m : Int} {Fr : D → Prop} {L : Lt → Prop} (hc : FieldOk c b m Fr L) {r : Row} {st : Store} (hr : ∀ l ∈ r.2, L l) (hl : r.2.length ≤ 1000) (hb : Box b st) :
    ∃ d st', L_shape_of c [.ref b, rowD r, .int m] st = .ok (.s d) st' ∧ Stp b st st' ∧ Item m Fr r d := by
  unfold L_shape_of
  obtain ⟨σ', st', e, s, o, fs, h1, h2⟩ := for_inv (tg := gdName 4) (b := (mSet 3 (fBin opAdd (fVar 3) (fTup (fCons (fCall0 c (fCons (fVar 0) (fCons (fVar 4) (fCons (fVar 2) fNil)))) fNil))))) (xs0 := strD (lsZ r.2)) (items := strD (lsZ r.2))
    (σ := [some (.ref b), some (rowD r), some (.int m), some (.tup [.str r.1]), none]) (st := st)
    (fun j σ s => Stp b st s ∧ ∃ o fs, σ = [some (.ref b), some (rowD r), some (.int m), some (.tup (.str r.1 :: fs)), o] ∧ All2 (Fld m Fr) (r.2.take j) fs) ⟨Stp.refl hb, none, [], rfl, .nil⟩ (by
      intro j d σ s hj ⟨t, o, fs, h1, h2⟩
      subst h1
      rw [strD_ls, List.getElem?_map] at hj
      cases hg : r.2[j]? with
      | none => rw [hg] at hj; cases hj
      | some l =>
        rw [hg] at hj
        cases hj
        obtain ⟨d, s', e, t', g⟩ := hc l s (hr l (List.mem_of_getElem? hg)) t.box
        have h3 := h2.length
        have h4 : fs.length + 1 + 1 ≤ sizeLine := by
          rw [← line_ge, ← h3, List.length_take]
          omega
        simp [okS_eq, e, h4]
        refine ⟨t.trans t', ?_⟩
        rw [List.take_add_one, hg]
        exact ⟨_, _, ⟨rfl, rfl⟩, h2.snoc g⟩)
  subst h1
  rw [strD_ls, List.length_map, List.take_length] at h2
  refine ⟨_, st', ?_, s, fs, rfl, h2⟩
  have a0 : ∀ z : Str, L2.atI [D.str r.1, .str z] 0 = some (.str r.1) := fun z => rfl
  have a1 : ∀ z : Str, L2.atI [D.str r.1, .str z] 1 = some (.str z) := fun z => rfl
  unfold rowD at e ⊢
  simp [lb_shape_of, okS_eq, a0, a1]
  simp [e]
theorem shape_ok {c : Fn} {b : Nat} {m : Int} {Fr : D → Prop} {L : Lt → Prop} (hc : FieldOk c b m Fr L) {R : List Row} {st : Store} (hr : ∀ r ∈ R, ∀ l ∈ r.2, L l) (hl : ∀ r ∈ R, r.2.length ≤ 1000) (hR : R ≠ []) (hb : Box b st) :
    ∃ d st', L_shape c [.ref b, .ro (R.map rowD), .int m] st = .ok (.s d) st' ∧ Stp b st st' ∧ ∃ r ∈ R, Item m Fr r d := by
  unfold L_shape
  have hlen : 0 < R.length := List.length_pos_iff.mpr hR
  obtain ⟨v1, v2, s1, s2, e1, e2, t, h0, h1⟩ := draw2_ok (m := (R.length : Int)) hb (by omega)
  have hi : ((v1 * 1000 + v2) % (R.length : Int)).toNat < R.length := by omega
  obtain ⟨d, s3, e3, t3, g⟩ := shape_of_ok hc (r := R[((v1 * 1000 + v2) % (R.length : Int)).toNat]) (st := s2) (hr _ (List.getElem_mem _)) (hl _ (List.getElem_mem _)) t.box
  refine ⟨d, s3, ?_, t.trans t3, _, List.getElem_mem _, g⟩
  have ha : L2.atI (R.map rowD) ((v1 * 1000 + v2) % (R.length : Int)) = some (rowD R[((v1 * 1000 + v2) % (R.length : Int)).toNat]) := by
    rw [atI_eq, if_pos h0, List.getElem?_map, List.getElem?_eq_getElem hi]
    rfl
  simp [lb_shape, okS_eq, e1, e2, hlen, ha, e3]
theorem All2.of {α β : Type} {R : α → β → Prop} : True := trivial
/-- drawn pairs -/
theorem field_ok {n : Nat} {b : Nat} {m : Int} {Fr : D → Prop} {L : Lt → Prop} (hm : 0 < m)
    (hF : L .F → ∀ (st : Store), Box b st → ∃ d st', L_shape (L_field n) [.ref b, .ro framesD, .int m] st = .ok (.s d) st' ∧ Stp b st st' ∧ Fr d) :
    FieldOk (L_field (n + 1)) b m Fr L := by
  intro l st hL hb
  show ∃ d st', mFn0 6 (lb_field L_value L_draw L_name (L_tree 4) L_number (L_shape (L_field n)) S_frames) [.ref b, .str ⟨#[l.c]⟩, .int m] st = .ok (.s d) st' ∧ Stp b st st' ∧ Fld m Fr l d
  have hlt : ∀ c : Nat, c ≤ 1000 → ((c : Int) < 4611686018427387904) := fun c h => by omega
  cases l with
  | v =>
    obtain ⟨d, s1, e1, t1, g⟩ := value_ok hb hm
    exact ⟨d, s1, by simp [lb_field, okS_eq, Lt.c, e1], t1, .v g⟩
  | V =>
    obtain ⟨c, s1, e1, t1, c0, c1⟩ := draw_ok (m := 5) hb (by omega)
    obtain ⟨c, rfl⟩ := Int.eq_ofNat_of_zero_le c0
    obtain ⟨ds, s2, e2, t2, h2, h3⟩ := many_ok (b := b) (v := 5) (n := c) (σ := [some (.ref b), some (.str ⟨#[86]⟩), some (.int m), some (.int c), none, none]) (xs0 := rngD 0 c) (fe := (fCall0 L_value (fCons (fVar 0) (fCons (fVar 2) fNil)))) (G := GVal m) t1.box (by omega) (fun o s hs => by
        obtain ⟨d, s', e, t, g⟩ := value_ok hs hm
        exact ⟨d, s', by simp [e], t, g⟩)
    exact ⟨.tup ds, s2, by simp [lb_field, okS_eq, Lt.c, e1, hlt c (by omega), e2], t1.trans t2, .V (by omega) h3⟩
  | W =>
    obtain ⟨c, s1, e1, t1, c0, c1⟩ := draw_ok (m := 4) hb (by omega)
    obtain ⟨c, rfl⟩ := Int.eq_ofNat_of_zero_le c0
    obtain ⟨ds, s2, e2, t2, h2, h3⟩ := many_ok (b := b) (v := 5) (n := c) (σ := [some (.ref b), some (.str ⟨#[87]⟩), some (.int m), some (.int c), none, none]) (xs0 := rngD 0 c) (fe := (fTup (fCons (fCall0 L_value (fCons (fVar 0) (fCons (fVar 2) fNil))) (fCons (fCall0 L_value (fCons (fVar 0) (fCons (fVar 2) fNil))) fNil)))) (G := fun d => ∃ p : D × D, d = .tup [p.1, p.2] ∧ GVal m p.1 ∧ GVal m p.2) t1.box (by omega) (fun o s hs => by
        obtain ⟨d, s', e, t, g⟩ := value_ok hs hm
        obtain ⟨d', s'', e', t', g'⟩ := value_ok t.box hm
        exact ⟨.tup [d, d'], s'', by simp [e, e'], t.trans t', (d, d'), rfl, g, g'⟩)
    obtain ⟨ps, rfl, hp⟩ : ∃ ps : List (D × D), ds = ps.map (fun p => .tup [p.1, p.2]) ∧ ∀ p ∈ ps, GVal m p.1 ∧ GVal m p.2 := by
      clear e2 h2
      induction ds with
      | nil => exact ⟨[], rfl, fun _ h => by cases h⟩
      | cons d ds ih =>
        obtain ⟨ps, h1, h2⟩ := ih fun d hd => h3 d (List.mem_cons_of_mem _ hd)
        obtain ⟨p, h4, h5⟩ := h3 d (List.mem_cons_self ..)
        refine ⟨p :: ps, by rw [h4, h1]; rfl, fun q hq => ?_⟩
        rcases List.mem_cons.mp hq with rfl | hq
        · exact h5
        · exact h2 q hq
    rw [List.length_map] at h2
    exact ⟨_, s2, by simp [lb_field, okS_eq, Lt.c, e1, hlt c (by omega), e2], t1.trans t2, .W (by omega) hp⟩
  | X =>
    obtain ⟨c, s1, e1, t1, c0, c1⟩ := draw_ok (m := 4) hb (by omega)
    obtain ⟨c, rfl⟩ := Int.eq_ofNat_of_zero_le c0
    obtain ⟨ds, s2, e2, t2, h2, h3⟩ := many_ok (b := b) (v := 5) (n := c) (σ := [some (.ref b), some (.str ⟨#[88]⟩), some (.int m), some (.int c), none, none]) (xs0 := rngD 0 c) (fe := (fTup (fCons (fCall0 L_name (fCons (fVar 0) fNil)) (fCons (fCall0 L_value (fCons (fVar 0) (fCons (fVar 2) fNil))) fNil)))) (G := fun d => ∃ p : Str × D, d = .tup [.str p.1, p.2] ∧ NameZ p.1 ∧ GVal m p.2) t1.box (by omega) (fun o s hs => by
        obtain ⟨d, s', e, t, g⟩ := name_ok hs
        obtain ⟨d', s'', e', t', g'⟩ := value_ok t.box hm
        exact ⟨.tup [.str d, d'], s'', by simp [e, e'], t.trans t', (d, d'), rfl, g, g'⟩)
    obtain ⟨ps, rfl, hp⟩ : ∃ ps : List (Str × D), ds = ps.map (fun p => .tup [.str p.1, p.2]) ∧ ∀ p ∈ ps, NameZ p.1 ∧ GVal m p.2 := by
      clear e2 h2
      induction ds with
      | nil => exact ⟨[], rfl, fun _ h => by cases h⟩
      | cons d ds ih =>
        obtain ⟨ps, h1, h2⟩ := ih fun d hd => h3 d (List.mem_cons_of_mem _ hd)
        obtain ⟨p, h4, h5⟩ := h3 d (List.mem_cons_self ..)
        refine ⟨p :: ps, by rw [h4, h1]; rfl, fun q hq => ?_⟩
        rcases List.mem_cons.mp hq with rfl | hq
        · exact h5
        · exact h2 q hq
    rw [List.length_map] at h2
    exact ⟨_, s2, by simp [lb_field, okS_eq, Lt.c, e1, hlt c (by omega), e2], t1.trans t2, .X (by omega) hp⟩
  | t =>
    obtain ⟨d, s1, e1, t1, g⟩ := tree_ok (m := m) 4 3 hb (by omega)
    simp at e1
    exact ⟨d, s1, by simp [lb_field, okS_eq, Lt.c, e1], t1, .t g⟩
  | a =>
    obtain ⟨v1, v2, s1, s2, e1, e2, t1, h1, h2⟩ := draw2_ok hb hm
    exact ⟨_, s2, by simp [lb_field, okS_eq, Lt.c, e1, e2, hm], t1, .a h1 h2⟩
  | b =>
    have hm1 : 0 < m + 1 := by omega
    obtain ⟨v1, v2, s1, s2, e1, e2, t1, h1, h2⟩ := draw2_ok hb hm1
    exact ⟨.int ((v1 * 1000 + v2) % (m + 1) - 1), s2, by simp [lb_field, okS_eq, Lt.c, e1, e2, hm1], t1, .b (by omega) (by omega)⟩
  | n =>
    obtain ⟨d, s1, e1, t1, g⟩ := number_ok hb
    exact ⟨.int d, s1, by simp [lb_field, okS_eq, Lt.c, e1], t1, .n g⟩
  | x =>
    obtain ⟨d, s1, e1, t1, g⟩ := name_ok hb
    exact ⟨.str d, s1, by simp [lb_field, okS_eq, Lt.c, e1], t1, .x g⟩
  | s =>
    obtain ⟨k, s1, e1, t1, k0, k1⟩ := draw_ok (m := 5) hb (by omega)
    have hk : k = 0 ∨ k = 1 ∨ k = 2 ∨ k = 3 ∨ k = 4 := by omega
    rcases hk with rfl | rfl | rfl | rfl | rfl
    · exact ⟨.tup [], s1, by simp [lb_field, okS_eq, Lt.c, e1, cLt, atI_eq], t1, .s0⟩
    · exact ⟨.tup [.str "break"], s1, by simp [lb_field, okS_eq, Lt.c, e1, cLt, atI_eq], t1, .sb⟩
    · exact ⟨.tup [.str "continue"], s1, by simp [lb_field, okS_eq, Lt.c, e1, cLt, atI_eq], t1, .sc⟩
    · obtain ⟨d, s2, e2, t2, g⟩ := value_ok t1.box hm
      exact ⟨.tup [.str "return", d], s2, by simp [lb_field, okS_eq, Lt.c, e1, e2, cLt, atI_eq], t1.trans t2, .sr g⟩
    · obtain ⟨d, s2, e2, t2, g⟩ := value_ok t1.box hm
      exact ⟨.tup [.str "raise", d], s2, by simp [lb_field, okS_eq, Lt.c, e1, e2, cLt, atI_eq], t1.trans t2, .sx g⟩
  | F =>
    obtain ⟨c, s1, e1, t1, c0, c1⟩ := draw_ok (m := 3) hb (by omega)
    obtain ⟨c, rfl⟩ := Int.eq_ofNat_of_zero_le c0
    have hfr : ∀ s : Store, S_frames [] s = .ok (.l framesD) s := fun s => rfl
    obtain ⟨ds, s2, e2, t2, h2, h3⟩ := many_ok (b := b) (v := 5) (n := c) (σ := [some (.ref b), some (.str ⟨#[70]⟩), some (.int m), some (.int c), none, none]) (xs0 := rngD 0 c) (fe := (fCall0 (L_shape (L_field n)) (fCons (fVar 0) (fCons (fCall0 S_frames fNil) (fCons (fVar 2) fNil))))) (G := Fr) t1.box (by omega) (fun o s hs => by
        obtain ⟨d, s', e, t, g⟩ := hF hL s hs
        exact ⟨d, s', by simp [hfr, e], t, g⟩)
    exact ⟨.tup ds, s2, by simp [lb_field, okS_eq, Lt.c, e1, hlt c (by omega), e2], t1.trans t2, .F (by omega) h3⟩
theorem frames_noF : ∀ r ∈ framesR, ∀ l ∈ r.2, l ≠ .F := by decide +kernel
theorem frames_short : ∀ r ∈ framesR, r.2.length ≤ 10 := by decide +kernel
theorem objects_short : ∀ r ∈ objectsR, r.2.length ≤ 10 := by decide +kernel
theorem controls_short : ∀ r ∈ controlsR, r.2.length ≤ 10 := by decide +kernel
theorem field1_ok {b : Nat} {m : Int} {Fr : D → Prop} (hm : 0 < m) : FieldOk (L_field 1) b m Fr (· ≠ .F) := field_ok (n := 0) hm (fun h => absurd rfl h)
theorem field2_ok {b : Nat} {m : Int} (hm : 0 < m) : FieldOk (L_field 2) b m (Frame m) (fun _ => True) := field_ok (n := 1) hm (fun _ st hb => by
  obtain ⟨d, s', e, t, g⟩ := shape_ok (Fr := fun _ => False) (field1_ok (b := b) hm) (R := framesR) (st := st) frames_noF (fun r hr => Nat.le_trans (frames_short r hr) (by omega)) (by intro h; have := rows_len.1; rw [h] at this; cases this) hb
  exact ⟨d, s', e, t, g⟩)
/-- what shape_of draws for a row of one of the tables -/
theorem shape2_ok {b : Nat} {m : Int} {r : Row} {st : Store} (hm : 0 < m) (hl : r.2.length ≤ 10) (hb : Box b st) : ∃ d st', L_shape_of (L_field 2) [.ref b, rowD r, .int m] st = .ok (.s d) st' ∧ Stp b st st' ∧ Item m (Frame m) r d :=
  shape_of_ok (field2_ok hm) (fun _ _ => trivial) (by omega) hb
end Q3

/-! Q3: references. -/
namespace Q3
open PySem PySem.Spec PyProof.Rows L2
def tab_FIELDS : List (Str × Str) := strs2 [("neg", ""), ("not", ""), ("bin1", "xta"), ("bin2", "xv"), ("and", "ta"), ("or", "ta"), ("choice", "tta"), ("cmp1", "ta"), ("cmp2", "vxta"), ("cmp3", "vta"), ("attr", "x"), ("item1", "ta"), ("item2", "v"), ("part1", "tta"), ("part2", "vta"), ("part3", "vv"), ("items", "xVta"), ("dict1", "Wtta"), ("dict2", "Wvta"), ("call1", "tta"), ("args", "vVtXta"), ("rest", "ta"), ("drop", ""), ("put", "ta"), ("del1", "ta"), ("del2", "v"), ("ret", ""), ("throw", ""), ("if", "tta"), ("while1", "ttan"), ("while2", "ttan"), ("for1", "ttan"), ("for2", "ttan"), ("for3", "vttan"), ("for4", "vttan"), ("for5", "vttan"), ("def", "xtttXta"), ("class1", "xtta"), ("class2", "xbaa"), ("catch", "ta"), ("match", "vta"), ("handling", "v"), ("final", "ta"), ("after", "s"), ("giving", "ta"), ("sent", "ta"), ("setattr", "xv"), ("seti1", "tva"), ("seti2", "vv"), ("unpack", "tVa"), ("forget", ""), ("body", "xn"), ("init", "v"), ("genbody", "axnx"), ("begin", "ta"), ("want", "x"), ("print", "vV"), ("gather1", "x"), ("gather", "xvV"), ("default", "v")]
def tab_OBJECTS : List (Str × Str) := strs2 [("list", "V"), ("tuple", "V"), ("dict", "W"), ("scope", "Xttbt"), ("func", "xtXtta"), ("class", "xbX"), ("inst", "aX"), ("bound", "vv"), ("iter", "vnn"), ("gen", "xxF")]
def tab_CONTROLS : List (Str × Str) := strs2 [("eval", "ta"), ("exec", "ta"), ("store", "tva"), ("call", "vVX"), ("resume", "axv"), ("value", "v"), ("done", ""), ("leave", "s"), ("give", "v"), ("ask", "xV")]
noncomputable def pb_letters : MS :=
    (mSeq (mIf (tVal (fBin opEq (fVar 0) (fC (.str "object"))))
    (mRet (fKIx (tabG tab_OBJECTS) (fVar 1)))
    mNil)
    (mSeq (mIf (tVal (fBin opEq (fVar 0) (fC (.str "frame"))))
    (mRet (fKIx (tabG tab_FIELDS) (fVar 1)))
    mNil)
    (mRet (fKIx (tabG tab_CONTROLS) (fVar 1)))))
noncomputable def pb_field_values : MS :=
    (mSeq (mIf (tVal (fBin opEq (fVar 0) (fC (.str "v"))))
    (mRet (fLst (fCons (fVar 1) fNil)))
    mNil)
    (mSeq (mIf (tVal (fBin opEq (fVar 0) (fC (.str "V"))))
    (mRet (fArgs cList (fCons (fVar 1) fNil)))
    mNil)
    (mSeq (mIf (tVal (fBin opEq (fVar 0) (fC (.str "W"))))
    (mRet (fLc2 (fiSeq (fVar 1)) (gdName 2) (fiSeq (fVar 2)) (gdName 3) (fun _ st => .ok true st) (fVar 3) [2, 3] [3]))
    mNil)
    (mSeq (mIf (tVal (fBin opEq (fVar 0) (fC (.str "X"))))
    (mRet (fLc (fiSeq (fVar 1)) (gdName 2) (fun _ st => .ok true st) (fBin opIx (fVar 2) (fC (.int 1))) [2]))
    mNil)
    (mSeq (mIf (tAndF (tVal (fBin opEq (fVar 0) (fC (.str "s")))) (tVal (fBin opEq (fArgs cLen (fCons (fVar 1) fNil)) (fC (.int 2)))))
    (mRet (fLst (fCons (fBin opIx (fVar 1) (fC (.int 1))) fNil)))
    mNil)
    (mRet (fLst fNil)))))))
noncomputable def pb_references (c_letters : Fn) (c_references : Fn) (c_field_values : Fn) : MS :=
    (mSeq (mSet 2 (fMat (fLst fNil)))
    (mSeq (mFor (fiZip (fCons (fCall0 c_letters (fCons (fVar 0) (fCons (fBin opIx (fVar 1) (fC (.int 0))) fNil))) (fCons (fSl (fVar 1) (oSome (fC (.int 1))) oNone) fNil))) (gdTup 2 (gdCons (gdName 3) (gdCons (gdName 4) gdNil)))
    (mIf (tOrF (tVal (fBin opEq (fVar 3) (fC (.str "a")))) (tAndF (tVal (fBin opEq (fVar 3) (fC (.str "b")))) (tVal (fBin opNe (fVar 4) (fUn unNeg (fC (.int 1)))))))
    (mExpr (fBML opAppend (fVar 2) (fCons (fVar 4) fNil)))
    (mIf (tVal (fBin opEq (fVar 3) (fC (.str "F"))))
    (mFor (fiSeq (fVar 4)) (gdName 5)
    (mExpr (fBML opExtend (fVar 2) (fCons (fCall0 c_references (fCons (fC (.str "frame")) (fCons (fVar 5) fNil))) fNil))))
    (mExpr (fBML opExtend (fVar 2) (fCons (fLc (fiSeq (fCall0 c_field_values (fCons (fVar 3) (fCons (fVar 4) fNil)))) (gdName 6) (tVal (fBin opEq (fBin opIx (fVar 6) (fC (.int 0))) (fC (.str "ref")))) (fBin opIx (fVar 6) (fC (.int 1))) [6]) fNil))))))
    (mRet (fVar 2))))
/-! lists, however they are held -/
section
variable {st : Store} {x y : D} {ds es : List D}
theorem lstW_R (h : lstW st x = some ds) : lstR st x = some ds := by
  cases x with
  | ro d => exact h
  | ref k => exact h
  | _ => cases h
theorem ixL (h : lstW st x = some ds) (i : Int) : opIx x (.int i) st = match L2.atI ds i with | some d => okS d st | none => .bad := by
  have h2 := lstW_R h
  cases x with
  | ro d => cases h; rfl
  | ref k =>
    show (match lstR st (.ref k) with | some ds => (match L2.atI ds i with | some d => okS d st | none => .bad) | none => .bad) = _
    rw [h2]
  | _ => cases h
theorem lenL (h : lstW st x = some ds) : cLen [x] st = okS (.int ds.length) st := by
  have h2 := lstW_R h
  cases x with
  | ro d => cases h; rfl
  | ref k =>
    show (match lstR st (.ref k) with | some ds => okS (.int ds.length) st | none => .bad) = _
    rw [h2]
  | _ => cases h
theorem tyL (h : lstW st x = some ds) : D.ty st x = some "list" := by
  cases x with
  | ro d => rfl
  | ref k =>
    rw [ty_ref]
    rw [lstW_ref] at h
    cases e : st[k]? with
    | none => rw [e] at h; cases h
    | some so =>
      rw [e] at h
      cases so with
      | lst d => rfl
      | _ => cases h
  | _ => cases h
theorem srcL (h : lstW st x = some ds) : ∃ src, seqSrc st x = .ok src st ∧ src.items = ds ∧ src.okAt st := by
  cases x with
  | ro d => cases h; exact ⟨_, rfl, rfl, trivial⟩
  | ref k =>
    rw [lstW_ref] at h
    rw [seqSrc_ref]
    cases e : st[k]? with
    | none => rw [e] at h; cases h
    | some so =>
      rw [e] at h
      cases so with
      | lst d => cases h; exact ⟨_, rfl, rfl, e⟩
      | _ => cases h
  | _ => cases h
theorem lstW_app (h : lstW st x = some ds) (ex : Store) : lstW (st ++ ex) x = some ds := by
  cases x with
  | ro d => exact h
  | ref k =>
    rw [lstW_ref] at h ⊢
    cases e : st[k]? with
    | none => rw [e] at h; cases h
    | some so => rw [List.getElem?_append_left (List.getElem?_eq_some_iff.mp e).1, e]; rw [e] at h; exact h
  | _ => cases h
end
theorem list_isL {x y : D} {xs : List Int} {st : Store} (hx : lstW st x = some (xs.map D.int)) (hy : lstW st y = some (xs.map D.int)) (hn : xs.length < 4611686018427387904) : L_list_is [x, y] st = .ok (.s (.bl true)) st := by
  unfold L_list_is
  simp only [mFn0_eq, mFn_eq, lb_list_is]
  obtain ⟨σ', st', e, h1, o, h2⟩ := rng_inv (lo := 0) (n := xs.length) (xs0 := rngD 0 xs.length) (tg := gdName 2) (b := mIf (tOrF (tNotF (fTru (fCall0 L_is_integer (fCons (fBin opIx (fVar 0) (fVar 2)) fNil)))) (tVal (fBin opNe (fBin opIx (fVar 0) (fVar 2)) (fBin opIx (fVar 1) (fVar 2)))))
    (mRet (fC (.bl false)))
    mNil) (fun _ σ st' => st' = st ∧ ∃ o, σ = [some x, some y, o]) (σ := [some x, some y, none]) (st := st) ⟨rfl, _, rfl⟩ (by
      intro j σ st' hj ⟨h1, o, h2⟩
      subst h1 h2
      simp [okS_eq, ixL hx, ixL hy, atI_eq, hj, is_integer_int])
  subst h1 h2
  have hx2 : (-4611686018427387904 : Int) ≤ (xs.length : Int) := by omega
  have hx3 : (xs.length : Int) < 4611686018427387904 := by omega
  have l1 := lenL hx
  have l2 := lenL hy
  have t1 := tyL hx
  simp [okS_eq, hx2, hx3, l1, l2, t1] at e ⊢
  simp [e]
/-! stores that grow -/
theorem get_mid {α : Type} {st ex : List α} {a : α} : (st ++ a :: ex)[st.length]? = some a := by simp
theorem set_mid {α : Type} {st ex : List α} {a b : α} : (st ++ a :: ex).set st.length b = st ++ b :: ex := by simp
/-! what is referred to -/
def refI : D → Option Int
  | .tup [.str k, .int i] => if k = ⟨#[114, 101, 102]⟩ then some i else none
  | _ => none
@[simp] theorem o_ref : Str.ofString "ref" = ⟨#[114, 101, 102]⟩ := by decide +kernel
def valsOf : Lt → D → List D
  | .v, d => [d]
  | .V, .tup ds => ds
  | .W, .tup ps => ps.flatMap fun p => match p with | .tup l => l | _ => []
  | .X, .tup ps => ps.flatMap fun p => match p with | .tup [_, v] => [v] | _ => []
  | .s, .tup [_, v] => [v]
  | _, _ => []
def fr0 : Lt → D → List Int
  | .a, .int i => [i]
  | .b, .int i => if i = -1 then [] else [i]
  | l, d => (valsOf l d).filterMap refI
def refsL (f : Lt → D → List Int) : List Lt → List D → List Int
  | l :: ls, d :: ds => f l d ++ refsL f ls ds
  | _, _ => []
def lettersOf (R : List Row) (n : Str) : List Lt := ((R.find? fun r => r.1 = n).map (·.2)).getD []
def itemRefs (f : Lt → D → List Int) (R : List Row) : D → List Int
  | .tup (.str n :: fs) => refsL f (lettersOf R n) fs
  | _ => []
def frameRefs (d : D) : List Int := itemRefs fr0 framesR d
def fr1 : Lt → D → List Int
  | .F, .tup ds => ds.flatMap frameRefs
  | l, d => fr0 l d
theorem GVal.kind {m : Int} {d : D} (h : GVal m d) : (∃ i, d = .tup [.str "ref", .int i] ∧ refI d = some i) ∨ (∃ k r, d = .tup (.str k :: r) ∧ ¬ k = ⟨#[114, 101, 102]⟩ ∧ refI d = Option.none) := by
  cases h with
  | ref i => exact .inl ⟨i, rfl, by simp [refI]⟩
  | none => exact .inr ⟨_, _, rfl, by decide +kernel, rfl⟩
  | bool b => exact .inr ⟨_, _, rfl, by decide +kernel, rfl⟩
  | int i => exact .inr ⟨_, _, rfl, by decide +kernel, by simp only [refI]; exact if_neg (by decide +kernel)⟩
  | text z => exact .inr ⟨_, _, rfl, by decide +kernel, rfl⟩
  | span i j => exact .inr ⟨_, _, rfl, by decide +kernel, rfl⟩
  | built z => exact .inr ⟨_, _, rfl, by decide +kernel, rfl⟩
  | host z => exact .inr ⟨_, _, rfl, by decide +kernel, rfl⟩
/-- the comprehension of the references of values -/
theorem lc_refs {m : Int} {v : Nat} {σ : DS} {st : Store} {src : Src} (hok : src.okAt st) (hσ : ∀ o, (σ.set v o)[v]? = some o) : ∀ (xs : List D) (acc : List D), (∀ x ∈ xs, GVal m x) → acc.length + xs.length ≤ 1000000 →
    lcL src (gdName v) (tVal (fBin opEq (fBin opIx (fVar v) (fC (.int 0))) (fC (.str "ref")))) (fBin opIx (fVar v) (fC (.int 1))) σ xs acc st = .ok (.l (acc ++ (xs.filterMap refI).map D.int)) st
  | [], acc, h, hz => by
    unfold lcL
    rw [if_pos hok]
    simp
  | x :: xs, acc, h, hz => by
    rw [List.length_cons] at hz
    have hac : acc.length < sizeLine := by rw [← line_ge]; omega
    unfold lcL
    rw [if_pos hok]
    rcases (h x (List.mem_cons_self ..)).kind with ⟨i, h1, h2⟩ | ⟨k, r, h1, h3, h2⟩
    · subst h1
      have ih := lc_refs hok hσ xs (acc ++ [.int i]) (fun x hx => h x (List.mem_cons_of_mem _ hx)) (by simp; omega)
      have h2' : refI (.tup [.str ⟨#[114, 101, 102]⟩, .int i]) = some i := by simpa using h2
      simp only [o_ref] at ih
      simp [hσ, okS_eq, atI_eq, hac, ih, h2']
    · subst h1
      have ih := lc_refs hok hσ xs acc (fun x hx => h x (List.mem_cons_of_mem _ hx)) (by omega)
      simp only [o_ref] at ih
      have h4 : L2.atI (D.str k :: r) 0 = some (.str k) := by rw [atI_eq]; rfl
      simp [hσ, okS_eq, h3, ih, h2, h4]
/-! the program's references -/
noncomputable def L_letters : Fn := mFn0 2 pb_letters
noncomputable def L_field_values : Fn := mFn0 4 pb_field_values
noncomputable def L_references : Nat → Fn
  | 0 => fun _ _ => .bad
  | n + 1 => mFn0 7 (pb_references L_letters (L_references n) L_field_values)
inductive Srt where | object | frame | control
def Srt.z : Srt → Str | .object => "object" | .frame => "frame" | .control => "control"
def Srt.rows : Srt → List Row | .object => objectsR | .frame => framesR | .control => controlsR
theorem tabs_ok : (∀ r ∈ objectsR, tabG tab_OBJECTS r.1 = some (.str (lsZ r.2))) ∧ (∀ r ∈ framesR, tabG tab_FIELDS r.1 = some (.str (lsZ r.2))) ∧ (∀ r ∈ controlsR, tabG tab_CONTROLS r.1 = some (.str (lsZ r.2))) := by
  have h : (∀ r ∈ objectsR, tab_OBJECTS.lookup r.1 = some (lsZ r.2)) ∧ (∀ r ∈ framesR, tab_FIELDS.lookup r.1 = some (lsZ r.2)) ∧ (∀ r ∈ controlsR, tab_CONTROLS.lookup r.1 = some (lsZ r.2)) := by decide +kernel
  exact ⟨fun r hr => by unfold tabG; rw [h.1 r hr]; rfl, fun r hr => by unfold tabG; rw [h.2.1 r hr]; rfl, fun r hr => by unfold tabG; rw [h.2.2 r hr]; rfl⟩
theorem sort_ne : ¬ (("frame" : Str) = "object") ∧ ¬ (("control" : Str) = "object") ∧ ¬ (("control" : Str) = "frame") := by decide +kernel
theorem letters_ok {s : Srt} {r : Row} {st : Store} (hr : r ∈ s.rows) : L_letters [.str s.z, .str r.1] st = .ok (.s (.str (lsZ r.2))) st := by
  obtain ⟨n1, n2, n3⟩ := sort_ne
  unfold L_letters
  cases s with
  | object =>
    have := tabs_ok.1 r hr
    simp [pb_letters, okS_eq, Srt.z, this]
  | frame =>
    have := tabs_ok.2.1 r hr
    simp [pb_letters, okS_eq, Srt.z, this, n1]
  | control =>
    have := tabs_ok.2.2 r hr
    simp [pb_letters, okS_eq, Srt.z, this, n2, n3]
theorem lcI_all {src : Src} {v : Nat} {σ : DS} {st : Store} (hok : src.okAt st) (hσ : ∀ o, (σ.set v o)[v]? = some o) : ∀ (xs acc : List D), acc.length + xs.length ≤ 1000000 → lcI src (gdName v) (fun _ st => .ok true st) (fVar v) σ xs acc st = .ok (acc ++ xs) st
  | [], acc, h => by
    unfold lcI
    rw [if_pos hok]
    simp
  | x :: xs, acc, h => by
    rw [List.length_cons] at h
    have hac : acc.length < sizeLine := by rw [← line_ge]; omega
    unfold lcI
    rw [if_pos hok]
    simp [hσ, hac, lcI_all hok hσ xs (acc ++ [x]) (by simp; omega)]
theorem field_values_ok {m : Int} {Fr : D → Prop} {l : Lt} {d : D} {st : Store} (h : Fld m Fr l d) (hl : l ≠ .F ∧ l ≠ .a) : L_field_values [.str ⟨#[l.c]⟩, d] st = .ok (.l (valsOf l d)) st := by
  unfold L_field_values
  cases h with
  | v h => simp [pb_field_values, okS_eq, Lt.c, valsOf]
  | @V ds l h => simp [pb_field_values, okS_eq, Lt.c, valsOf]
  | @W ps l h =>
    have hO : ∀ (ps : List (D × D)) (acc : List D) (x0 : List D), acc.length + 2 * ps.length ≤ 1000 → lcO (.val x0) (gdName 2) (fiSeq (fVar 2)) (gdName 3) (fun _ st => .ok true st) (fVar 3) [some (.str ⟨#[87]⟩), some (.tup x0), none, none] [3] (ps.map fun p => .tup [p.1, p.2]) acc st = .ok (.l (acc ++ (ps.map fun p => D.tup [p.1, p.2]).flatMap fun p => match p with | .tup l => l | _ => [])) st := by
      intro ps
      induction ps with
      | nil => intro acc x0 h; unfold lcO; simp
      | cons p ps ih =>
        intro acc x0 h
        rw [List.length_cons] at h
        have hi := lcI_all (src := .val [p.1, p.2]) (v := 3) (σ := [some (.str ⟨#[87]⟩), some (.tup x0), some (.tup [p.1, p.2]), none]) (st := st) trivial (fun o => rfl) [p.1, p.2] acc (by simp; omega)
        have := ih (acc ++ [p.1, p.2]) x0 (by simp; omega)
        unfold lcO
        simp [hi]
        simpa using this
    have := hO ps [] (ps.map fun p => .tup [p.1, p.2]) (by simp; omega)
    simp [pb_field_values, okS_eq, Lt.c, valsOf]
    simp at this
    simp [this]
  | @X ps l h =>
    obtain ⟨acc, st', e, _, h1, h2⟩ := lc_inv (tg := gdName 2) (ft := fun _ st => .ok true st) (fe := (fBin opIx (fVar 2) (fC (.int 1)))) (xs0 := ps.map fun p => .tup [.str p.1, p.2]) (σ := [some (.str ⟨#[88]⟩), some (.tup (ps.map fun p => .tup [.str p.1, p.2])), none, none]) (items := ps.map fun p => .tup [.str p.1, p.2]) (st := st)
      (fun j acc s => s = st ∧ acc = ((ps.take j).map (fun p => D.tup [.str p.1, p.2])).flatMap fun p => match p with | .tup [_, v] => [v] | _ => []) ⟨rfl, rfl⟩ (by rw [← line_ge, List.length_map]; omega) (by
        intro j d acc s hj _ ⟨h1, h2⟩
        subst h1 h2
        rw [List.getElem?_map] at hj
        cases hg : ps[j]? with
        | none => rw [hg] at hj; cases hj
        | some p =>
          rw [hg] at hj
          cases hj
          simp [okS_eq, atI_eq, List.take_add_one, hg])
    subst h1 h2
    rw [List.length_map, List.take_length] at e
    simp [pb_field_values, okS_eq, Lt.c, valsOf]
    simp [e]
  | t h => simp [pb_field_values, okS_eq, Lt.c, valsOf]
  | a h g => exact absurd rfl hl.2
  | b h g => simp [pb_field_values, okS_eq, Lt.c, valsOf]
  | n h => simp [pb_field_values, okS_eq, Lt.c, valsOf]
  | x h => simp [pb_field_values, okS_eq, Lt.c, valsOf]
  | s0 => simp [pb_field_values, okS_eq, Lt.c, valsOf]
  | sb => simp [pb_field_values, okS_eq, Lt.c, valsOf]
  | sc => simp [pb_field_values, okS_eq, Lt.c, valsOf]
  | sr h => simp [pb_field_values, okS_eq, Lt.c, valsOf, atI_eq]
  | sx h => simp [pb_field_values, okS_eq, Lt.c, valsOf, atI_eq]
  | F l h => exact absurd rfl hl.1
theorem vals_ok {m : Int} {Fr : D → Prop} {l : Lt} {d : D} (h : Fld m Fr l d) : (∀ x ∈ valsOf l d, GVal m x) ∧ (valsOf l d).length ≤ 8 := by
  cases h with
  | v h => exact ⟨fun x hx => by rw [List.mem_singleton.mp hx]; exact h, by simp [valsOf]⟩
  | @V ds l h => exact ⟨h, by show ds.length ≤ 8; omega⟩
  | @W ps l h =>
    have : valsOf .W (.tup (ps.map fun p => .tup [p.1, p.2])) = ps.flatMap fun p => [p.1, p.2] := by
      simp [valsOf, List.flatMap_map]
    rw [this]
    refine ⟨fun x hx => ?_, ?_⟩
    · obtain ⟨p, hp, hx⟩ := List.mem_flatMap.mp hx
      rcases List.mem_cons.mp hx with rfl | hx
      · exact (h p hp).1
      · rw [List.mem_singleton.mp hx]
        exact (h p hp).2
    · have : ∀ ps : List (D × D), (ps.flatMap fun p => [p.1, p.2]).length = 2 * ps.length := by
        intro ps
        induction ps with
        | nil => rfl
        | cons p ps ih => rw [List.flatMap_cons, List.length_append, ih, List.length_cons (as := ps)]; show 2 + _ = _; omega
      rw [this]
      omega
  | @X ps l h =>
    have : ∀ ps : List (Str × D), valsOf .X (.tup (ps.map fun p => .tup [.str p.1, p.2])) = ps.map (·.2) := by
      intro ps
      simp only [valsOf, List.flatMap_map]
      induction ps with
      | nil => rfl
      | cons p ps ih => rw [List.flatMap_cons, ih]; rfl
    rw [this]
    exact ⟨fun x hx => by obtain ⟨p, hp, rfl⟩ := List.mem_map.mp hx; exact (h p hp).2, by rw [List.length_map]; omega⟩
  | sr h => exact ⟨fun x hx => by rw [List.mem_singleton.mp hx]; exact h, by simp [valsOf]⟩
  | sx h => exact ⟨fun x hx => by rw [List.mem_singleton.mp hx]; exact h, by simp [valsOf]⟩
  | _ => exact ⟨fun x hx => by simp [valsOf] at hx, by simp [valsOf]⟩
theorem fr0_len {m : Int} {Fr : D → Prop} {l : Lt} {d : D} (h : Fld m Fr l d) : (fr0 l d).length ≤ 8 := by
  have hv := (vals_ok h).2
  have hf := Nat.le_trans (List.length_filterMap_le refI (valsOf l d)) hv
  cases h with
  | a h g => simp [fr0]
  | b h g => simp only [fr0]; split <;> simp
  | _ => exact hf
theorem refsL_len {m : Int} {Fr : D → Prop} {f : Lt → D → List Int} {N : Nat} (hf : ∀ l d, Fld m Fr l d → (f l d).length ≤ N) : ∀ {ls : List Lt} {fs : List D}, All2 (Fld m Fr) ls fs → (refsL f ls fs).length ≤ N * ls.length
  | _, _, .nil => Nat.zero_le _
  | _, _, .cons (a := l) (as := ls) h t => by
    have h1 := hf _ _ h
    have h2 := refsL_len hf t
    show (_ ++ _ : List Int).length ≤ _
    rw [List.length_append, List.length_cons, Nat.mul_add]
    omega
theorem nodup_rows : (∀ r ∈ objectsR, lettersOf objectsR r.1 = r.2) ∧ (∀ r ∈ framesR, lettersOf framesR r.1 = r.2) ∧ (∀ r ∈ controlsR, lettersOf controlsR r.1 = r.2) := by decide +kernel
theorem lettersOf_ok {s : Srt} {r : Row} (h : r ∈ s.rows) : lettersOf s.rows r.1 = r.2 := by
  cases s with
  | object => exact nodup_rows.1 r h
  | frame => exact nodup_rows.2.1 r h
  | control => exact nodup_rows.2.2 r h
theorem rows_short {s : Srt} {r : Row} (h : r ∈ s.rows) : r.2.length ≤ 10 := by
  cases s with
  | object => exact objects_short r h
  | frame => exact frames_short r h
  | control => exact controls_short r h
theorem item_refs {m : Int} {Fr : D → Prop} {s : Srt} {r : Row} {fs : List D} {f : Lt → D → List Int} (hr : r ∈ s.rows) : itemRefs f s.rows (.tup (.str r.1 :: fs)) = refsL f r.2 fs := by
  show refsL f (lettersOf s.rows r.1) fs = _
  rw [lettersOf_ok hr]
theorem frameRefs_len {m : Int} {d : D} (h : Frame m d) : (frameRefs d).length ≤ 80 := by
  obtain ⟨r, hr, fs, rfl, h2⟩ := h
  unfold frameRefs
  rw [show framesR = Srt.frame.rows from rfl, item_refs (m := m) (Fr := fun _ => False) (s := .frame) hr]
  have := refsL_len (f := fr0) (fun l d h => fr0_len h) h2
  have := frames_short r hr
  omega
theorem fr1_len {m : Int} {l : Lt} {d : D} (h : Fld m (Frame m) l d) : (fr1 l d).length ≤ 160 := by
  have h0 := fr0_len h
  cases h with
  | @F ds l h =>
    show (ds.flatMap frameRefs).length ≤ 160
    have : ∀ ds : List D, (∀ d ∈ ds, Frame m d) → (ds.flatMap frameRefs).length ≤ 80 * ds.length := by
      intro ds h
      induction ds with
      | nil => exact Nat.le_refl _
      | cons d ds ih =>
        have h1 := frameRefs_len (h d (List.mem_cons_self ..))
        have h2 := ih fun d hd => h d (List.mem_cons_of_mem _ hd)
        rw [List.flatMap_cons, List.length_append, List.length_cons]
        omega
    have := this ds h
    omega
  | _ => exact Nat.le_trans h0 (by omega)
/-- a list in a store that has grown -/
def Lst (st : Store) (r : R T) (xs : List Int) : Prop := ∃ t ex, r = .ok t (st ++ ex) ∧ lstW (st ++ ex) t.d = some (xs.map D.int)
noncomputable def bodyP (c : Fn) : MS := (mIf (tOrF (tVal (fBin opEq (fVar 3) (fC (.str "a")))) (tAndF (tVal (fBin opEq (fVar 3) (fC (.str "b")))) (tVal (fBin opNe (fVar 4) (fUn unNeg (fC (.int 1)))))))
    (mExpr (fBML opAppend (fVar 2) (fCons (fVar 4) fNil)))
    (mIf (tVal (fBin opEq (fVar 3) (fC (.str "F"))))
    (mFor (fiSeq (fVar 4)) (gdName 5)
    (mExpr (fBML opExtend (fVar 2) (fCons (fCall0 c (fCons (fC (.str "frame")) (fCons (fVar 5) fNil))) fNil))))
    (mExpr (fBML opExtend (fVar 2) (fCons (fLc (fiSeq (fCall0 L_field_values (fCons (fVar 3) (fCons (fVar 4) fNil)))) (gdName 6) (tVal (fBin opEq (fBin opIx (fVar 6) (fC (.int 0))) (fC (.str "ref")))) (fBin opIx (fVar 6) (fC (.int 1))) [6]) fNil)))))
/-- one field -/
theorem bodyP_ok {c : Fn} {m : Int} {Fr : D → Prop} {l : Lt} {d : D} {st ex : Store} {acc : List D} {a0 a1 o5 o6 : Option D} {f : Lt → D → List Int} (h : Fld m Fr l d) (hac : acc.length + (f l d).length ≤ 100000)
    (h0 : l ≠ .F → f l d = fr0 l d)
    (hF : ∀ ds, l = .F → d = .tup ds → f l d = ds.flatMap frameRefs ∧ ∀ x ∈ ds, ∀ s, Lst s (c [.str "frame", x] s) (frameRefs x)) :
    ∃ o5' o6' ex', bodyP c [a0, a1, some (.ref st.length), some (.str ⟨#[l.c]⟩), some d, o5, o6] (st ++ .lst acc :: ex) = .nx [a0, a1, some (.ref st.length), some (.str ⟨#[l.c]⟩), some d, o5', o6'] (st ++ .lst (acc ++ (f l d).map D.int) :: ex') := by
  have hz : acc.length < sizeLine := by rw [← line_ge]; omega
  by_cases hl : l = .F
  · subst hl
    cases h with
    | @F ds hl2 hfr =>
    obtain ⟨h1, h2⟩ := hF ds rfl rfl
    have run : ∀ (xs : List D) (acc : List D) (ex : Store) (o5 : Option D), (∀ x ∈ xs, ∀ s, Lst s (c [.str "frame", x] s) (frameRefs x)) → acc.length + (xs.flatMap frameRefs).length ≤ 100000 →
        ∃ o5' ex', forL (.val ds) (gdName 5) (mExpr (fBML opExtend (fVar 2) (fCons (fCall0 c (fCons (fC (.str "frame")) (fCons (fVar 5) fNil))) fNil))) xs [a0, a1, some (.ref st.length), some (.str ⟨#[Lt.F.c]⟩), some (.tup ds), o5, o6] (st ++ .lst acc :: ex) = .nx [a0, a1, some (.ref st.length), some (.str ⟨#[Lt.F.c]⟩), some (.tup ds), o5', o6] (st ++ .lst (acc ++ (xs.flatMap frameRefs).map D.int) :: ex') := by
      intro xs
      induction xs with
      | nil => intro acc ex o5 _ _; exact ⟨o5, ex, by simp⟩
      | cons x xs ih =>
        intro acc ex o5 hx hlen
        rw [List.flatMap_cons, List.length_append] at hlen
        obtain ⟨t, ex1, e1, l1⟩ := hx x (List.mem_cons_self ..) (st ++ .lst acc :: ex)
        rw [List.append_assoc, List.cons_append] at e1 l1
        obtain ⟨o5', ex', e2⟩ := ih (acc ++ (frameRefs x).map D.int) (ex ++ ex1) (some x) (fun y hy => hx y (List.mem_cons_of_mem _ hy)) (by rw [List.length_append, List.length_map]; omega)
        refine ⟨o5', ex', ?_⟩
        have hz2 : acc.length + (frameRefs x).length ≤ sizeLine := by rw [← line_ge]; omega
        rw [forL_cons]
        simp [e1, l1, get_mid, set_mid, hz2, okS_eq]
        simpa using e2
    obtain ⟨o5', ex', e⟩ := run ds acc ex o5 h2 (by rw [← h1]; exact hac)
    refine ⟨o5', o6, ex', ?_⟩
    rw [h1]
    simp [bodyP, Lt.c, okS_eq]
    simpa [Lt.c] using e
  · have hf := h0 hl
    rw [hf]
    rw [hf] at hac
    by_cases ha : l = .a
    · subst ha
      cases h with
      | a hi hj => exact ⟨o5, o6, ex, by simp [bodyP, Lt.c, okS_eq, get_mid, set_mid, hz, fr0]⟩
    · have hv := field_values_ok (st := st ++ .lst acc :: ex) h ⟨hl, ha⟩
      obtain ⟨hg, hn⟩ := vals_ok h
      have hfm := List.length_filterMap_le refI (valsOf l d)
      have lc := lc_refs (m := m) (v := 6) (σ := [a0, a1, some (.ref st.length), some (.str ⟨#[l.c]⟩), some d, o5, none]) (st := st ++ .lst acc :: ex) (src := .val (valsOf l d)) trivial (fun o => rfl) (valsOf l d) [] hg (by simp; omega)
      have hz2 : acc.length + ((valsOf l d).filterMap refI).length ≤ sizeLine := by rw [← line_ge]; omega
      have els : (l.c ≠ 97) → (l.c ≠ 70) → (l.c = 98 → d = .int (-1)) → fr0 l d = (valsOf l d).filterMap refI → ∃ o5' o6' ex', bodyP c [a0, a1, some (.ref st.length), some (.str ⟨#[l.c]⟩), some d, o5, o6] (st ++ .lst acc :: ex) = .nx [a0, a1, some (.ref st.length), some (.str ⟨#[l.c]⟩), some d, o5', o6'] (st ++ .lst (acc ++ (fr0 l d).map D.int) :: ex') := by
        intro c1 c2 c3 c4
        refine ⟨o5, o6, ex, ?_⟩
        rw [c4]
        simp only [List.nil_append, o_ref] at lc
        by_cases cb : l.c = 98
        · have := c3 cb
          subst this
          rw [cb] at lc hv ⊢
          simp [bodyP, okS_eq, hv, lc, get_mid, set_mid, hz2]
        · simp [bodyP, c1, c2, cb, okS_eq, hv, lc, get_mid, set_mid, hz2]
      cases h with
      | a h g => exact absurd rfl ha
      | F l h => exact absurd rfl hl
      | @b i h g =>
        by_cases hi : i = -1
        · subst hi
          exact els (by decide) (by decide) (fun _ => rfl) rfl
        · exact ⟨o5, o6, ex, by simp [bodyP, Lt.c, okS_eq, get_mid, set_mid, hz, fr0, hi]⟩
      | _ => exact els (by decide) (by decide) (fun h => absurd h (by decide)) rfl
end Q3

/-! Q3: references, the whole; the law's own. -/
namespace Q3
open PySem PySem.Spec PyProof.Rows L2
theorem zip_cons {a : Lt} {as : List Lt} {b : D} {bs : List D} : ((((a :: as).map fun l => D.str ⟨#[l.c]⟩).zip (b :: bs)).map fun p => D.tup [p.1, p.2]) = .tup [.str ⟨#[a.c]⟩, b] :: (((as.map fun l => D.str ⟨#[l.c]⟩).zip bs).map fun p => D.tup [p.1, p.2]) := rfl
/-- all fields -/
theorem prun {c : Fn} {m : Int} {Fr : D → Prop} {f : Lt → D → List Int} {a0 a1 : Option D} {st : Store} {x0 : List D}
    (h0 : ∀ l d, l ≠ .F → f l d = fr0 l d)
    (hF : ∀ ds, Fld m Fr .F (.tup ds) → f .F (.tup ds) = ds.flatMap frameRefs ∧ ∀ x ∈ ds, ∀ s, Lst s (c [.str "frame", x] s) (frameRefs x)) :
    ∀ {ls : List Lt} {fs : List D}, All2 (Fld m Fr) ls fs → ∀ (acc : List D) (ex : Store) (o3 o4 o5 o6 : Option D), acc.length + (refsL f ls fs).length ≤ 100000 →
      ∃ o3' o4' o5' o6' ex', forL (.val x0) (gdTup 2 (gdCons (gdName 3) (gdCons (gdName 4) gdNil))) (bodyP c) (((ls.map fun l => D.str ⟨#[l.c]⟩).zip fs).map fun p => D.tup [p.1, p.2]) [a0, a1, some (.ref st.length), o3, o4, o5, o6] (st ++ .lst acc :: ex)
        = .nx [a0, a1, some (.ref st.length), o3', o4', o5', o6'] (st ++ .lst (acc ++ (refsL f ls fs).map D.int) :: ex')
  | _, _, .nil, acc, ex, o3, o4, o5, o6, hz => ⟨o3, o4, o5, o6, ex, by simp [refsL]⟩
  | _, _, .cons (a := l) (b := d) (as := ls) (bs := fs) h t, acc, ex, o3, o4, o5, o6, hz => by
    have e0 : refsL f (l :: ls) (d :: fs) = f l d ++ refsL f ls fs := rfl
    rw [e0, List.length_append] at hz
    obtain ⟨o5', o6', ex', e⟩ := bodyP_ok (c := c) (st := st) (ex := ex) (acc := acc) (a0 := a0) (a1 := a1) (o5 := o5) (o6 := o6) (f := f) h (by omega) (h0 l d) (fun ds hl hd => by subst hl hd; exact hF ds h)
    obtain ⟨q3, q4, q5, q6, ex2, e2⟩ := prun h0 hF t (acc ++ (f l d).map D.int) ex' (some (.str ⟨#[l.c]⟩)) (some d) o5' o6' (by rw [List.length_append, List.length_map]; omega)
    refine ⟨q3, q4, q5, q6, ex2, ?_⟩
    rw [zip_cons, forL_cons]
    simp only [gdTup_eq, gdCons_eq, gdName_eq, gdNil_eq, Option.bind_some, List.length_cons, List.length_nil, Nat.zero_add, Nat.reduceAdd, if_true, List.set_cons_succ, List.set_cons_zero, e]
    rw [e2, e0, List.map_append, List.append_assoc]
theorem refs_of {c : Fn} {m : Int} {Fr : D → Prop} {f : Lt → D → List Int} {s : Srt} {r : Row} {fs : List D} {st : Store}
    (h0 : ∀ l d, l ≠ .F → f l d = fr0 l d)
    (hF : ∀ ds, Fld m Fr .F (.tup ds) → f .F (.tup ds) = ds.flatMap frameRefs ∧ ∀ x ∈ ds, ∀ s, Lst s (c [.str "frame", x] s) (frameRefs x))
    (hr : r ∈ s.rows) (h : All2 (Fld m Fr) r.2 fs) (hz : (refsL f r.2 fs).length ≤ 100000) :
    Lst st (mFn0 7 (pb_references L_letters c L_field_values) [.str s.z, .tup (.str r.1 :: fs)] st) (refsL f r.2 fs) := by
  obtain ⟨o3', o4', o5', o6', ex', e⟩ := prun (c := c) (st := st) (a0 := some (.str s.z)) (a1 := some (.tup (.str r.1 :: fs))) (x0 := (((r.2.map fun l => D.str ⟨#[l.c]⟩).zip fs).map fun p => D.tup [p.1, p.2])) h0 hF h [] [] none none none none (by simpa using hz)
  refine ⟨.s (.ref st.length), .lst ((refsL f r.2 fs).map D.int) :: ex', ?_, by simp⟩
  have hl := letters_ok (st := st ++ [.lst []]) hr
  have h1 : HT.sIx (fs.length + 1) 0 (some 1) = 1 := by
    show min 1 (fs.length + 1) = 1
    omega
  have h2 : cutD (.str r.1 :: fs) (some 1) none = fs := by
    unfold cutD
    rw [List.length_cons, h1]
    show (fs.take (fs.length + 1 - 1)) = fs
    simp
  have hat : L2.atI (D.str r.1 :: fs) 0 = some (.str r.1) := by rw [atI_eq]; rfl
  unfold bodyP at e
  simp [zip2, zipD] at e
  simp only [mFn0_eq, mFn_eq, pb_references]
  have hz3 : (lsZ r.2).cps.toList = r.2.map Lt.c := by simp [lsZ]
  simp [okS_eq, hat, hl, h1, h2, zip2, zipD, hz3, Function.comp_def]
  simp [e]
theorem references0_ok {n : Nat} {m : Int} {d : D} {st : Store} (h : Frame m d) : Lst st (L_references (n + 1) [.str "frame", d] st) (frameRefs d) := by
  obtain ⟨r, hr, fs, rfl, h2⟩ := h
  have h3 := refsL_len (f := fr0) (fun l d h => fr0_len h) h2
  have h4 := frames_short r hr
  unfold frameRefs
  rw [show framesR = Srt.frame.rows from rfl, item_refs (m := m) (Fr := fun _ => False) (s := .frame) hr]
  have hno : ∀ ls : List Lt, (∀ l ∈ ls, l ≠ .F) → ∀ fs, All2 (Fld m fun _ => False) ls fs → All2 (Fld m fun _ => False) ls fs := fun _ _ _ h => h
  refine refs_of (c := L_references n) (s := .frame) (f := fr0) (Fr := fun _ => False) (fun _ _ _ => rfl) (fun ds hd => ?_) hr h2 (by omega)
  cases hd with
  | F l hh =>
    cases ds with
    | nil => exact ⟨rfl, fun x hx => by cases hx⟩
    | cons d ds => exact (hh d (List.mem_cons_self ..)).elim
theorem references_ok {n : Nat} {m : Int} {s : Srt} {r : Row} {d : D} {st : Store} (hr : r ∈ s.rows) (h : Item m (Frame m) r d) : Lst st (L_references (n + 2) [.str s.z, d] st) (itemRefs fr1 s.rows d) := by
  obtain ⟨fs, rfl, h2⟩ := h
  have h3 := refsL_len (f := fr1) (fun l d h => fr1_len h) h2
  have h4 := rows_short hr
  rw [item_refs (m := m) (Fr := Frame m) hr]
  refine refs_of (c := L_references (n + 1)) (f := fr1) (Fr := Frame m) (fun l d hl => ?_) (fun ds hd => ?_) hr h2 (by omega)
  · cases l <;> first | rfl | exact absurd rfl hl
  · cases hd with
    | F l hh => exact ⟨rfl, fun x hx s => references0_ok (hh x hx)⟩
/-! the law's own references -/
noncomputable def L_lawletters : Fn := mFn0 3 lb_letters
noncomputable def L_values : Fn := mFn0 4 lb_values
noncomputable def L_refs : Nat → Fn
  | 0 => fun _ _ => .bad
  | n + 1 => mFn0 8 (lb_refs L_lawletters (L_refs n) L_frames L_values)
theorem lawletters_ok {x : D} {R : List Row} {r : Row} {st : Store} (hx : lstW st x = some (R.map rowD)) (hr : r ∈ R) (hn : lettersOf R r.1 = r.2) : L_lawletters [x, .str r.1] st = .ok (.s (.str (lsZ r.2))) st := by
  unfold L_lawletters
  obtain ⟨src, e1, e2, e3⟩ := srcL hx
  have run : ∀ (R' : List Row) (o : Option D), r ∈ R' → lettersOf R' r.1 = r.2 → forL src (gdName 2) (mIf (tVal (fBin opEq (fBin opIx (fVar 2) (fC (.int 0))) (fVar 1)))
    (mRet (fBin opIx (fVar 2) (fC (.int 1))))
    mNil) (R'.map rowD) [some x, some (.str r.1), o] st = .rt (.s (.str (lsZ r.2))) st := by
    intro R'
    induction R' with
    | nil => intro o h; cases h
    | cons q R' ih =>
      intro o h hl
      unfold forL
      rw [List.map_cons]
      simp only [if_pos e3]
      by_cases hq : q.1 = r.1
      · have : q.2 = r.2 := by
          rw [← hl]
          unfold lettersOf
          rw [List.find?_cons_of_pos (by simp [hq])]
          rfl
        simp [rowD, okS_eq, atI_eq, hq, this]
      · have h2 : r ∈ R' := by
          rcases List.mem_cons.mp h with h | h
          · exact absurd (by rw [h]) hq
          · exact h
        have h3 : lettersOf R' r.1 = r.2 := by
          rw [← hl]
          unfold lettersOf
          rw [List.find?_cons_of_neg (by simp [hq])]
        have := ih (some (rowD q)) h2 h3
        simp [okS_eq, this]
        simp [rowD, okS_eq, atI_eq, hq]
        simp [rowD] at this
        simp [this]
  have := run R none hr hn
  simp only [mFn0_eq, mFn_eq, lb_letters]
  simp [e1, e2, this]
def LstD (st : Store) (r : R T) (xs : List D) : Prop := ∃ t ex, r = .ok t (st ++ ex) ∧ lstW (st ++ ex) t.d = some xs
theorem values_ok {m : Int} {Fr : D → Prop} {l : Lt} {d : D} {st : Store} (h : Fld m Fr l d) (hl : l ≠ .F) : LstD st (L_values [.str ⟨#[l.c]⟩, d] st) (valsOf l d) := by
  unfold L_values
  have nil : ∀ c : Nat, c ≠ 118 → c ≠ 86 → c ≠ 87 → c ≠ 88 → c ≠ 115 → mFn0 4 lb_values [.str ⟨#[c]⟩, d] st = .ok (.s (.ref st.length)) (st ++ [.lst []]) := fun c h1 h2 h3 h4 h5 => by
    simp [lb_values, okS_eq, h1, h2, h3, h4, h5]
  have z0 : (0 : Nat) < sizeLine := by rw [← line_ge]; omega
  cases h with
  | v h => exact ⟨.l [d], [], by simp [lb_values, okS_eq, Lt.c], by simp [valsOf]⟩
  | @V ds l h => exact ⟨.l ds, [], by simp [lb_values, okS_eq, Lt.c], by simp [valsOf]⟩
  | @W ps l h =>
    have run : ∀ (qs : List (D × D)) (acc : List D) (o : Option D), acc.length + 2 * qs.length ≤ 1000 → ∃ o', forL (.val (ps.map fun p => .tup [p.1, p.2])) (gdName 3) (mSeq (mExpr (fBML opAppend (fVar 2) (fCons (fBin opIx (fVar 3) (fC (.int 0))) fNil)))
      (mExpr (fBML opAppend (fVar 2) (fCons (fBin opIx (fVar 3) (fC (.int 1))) fNil)))) (qs.map fun p => .tup [p.1, p.2]) [some (.str ⟨#[87]⟩), some (.tup (ps.map fun p => .tup [p.1, p.2])), some (.ref st.length), o] (st ++ [.lst acc])
        = .nx [some (.str ⟨#[87]⟩), some (.tup (ps.map fun p => .tup [p.1, p.2])), some (.ref st.length), o'] (st ++ [.lst (acc ++ valsOf .W (.tup (qs.map fun p => .tup [p.1, p.2])))]) := by
      intro qs
      induction qs with
      | nil => intro acc o h; exact ⟨o, by simp [valsOf]⟩
      | cons q qs ih =>
        intro acc o h
        rw [List.length_cons] at h
        obtain ⟨o', e⟩ := ih (acc ++ [q.1, q.2]) (some (.tup [q.1, q.2])) (by simp; omega)
        refine ⟨o', ?_⟩
        have h1 : acc.length < sizeLine := by rw [← line_ge]; omega
        have h2 : acc.length + 1 < sizeLine := by rw [← line_ge]; omega
        rw [List.map_cons, forL_cons]
        simp [okS_eq, atI_eq, h1, h2]
        simp at e
        rw [e]
        simp [valsOf]
    obtain ⟨o', e⟩ := run ps [] none (by simp; omega)
    refine ⟨.s (.ref st.length), [.lst (valsOf .W (.tup (ps.map fun p => .tup [p.1, p.2])))], ?_, by simp⟩
    simp [lb_values, okS_eq, Lt.c, z0]
    simp at e
    simp [e]
  | @X ps l h =>
    obtain ⟨acc, st', e, _, h1, h2⟩ := lc_inv (tg := gdName 3) (ft := fun _ st => .ok true st) (fe := (fBin opIx (fVar 3) (fC (.int 1)))) (xs0 := ps.map fun p => .tup [.str p.1, p.2]) (σ := [some (.str ⟨#[88]⟩), some (.tup (ps.map fun p => .tup [.str p.1, p.2])), some (.ref st.length), none]) (items := ps.map fun p => .tup [.str p.1, p.2]) (st := st ++ [.lst []])
      (fun j acc s => s = st ++ [.lst []] ∧ acc = valsOf .X (.tup ((ps.take j).map (fun p => D.tup [.str p.1, p.2])))) ⟨rfl, rfl⟩ (by rw [← line_ge, List.length_map]; omega) (by
        intro j d acc s hj _ ⟨h1, h2⟩
        subst h1 h2
        rw [List.getElem?_map] at hj
        cases hg : ps[j]? with
        | none => rw [hg] at hj; cases hj
        | some p =>
          rw [hg] at hj
          cases hj
          simp [okS_eq, atI_eq, List.take_add_one, hg, valsOf])
    subst h1 h2
    rw [List.length_map, List.take_length] at e
    refine ⟨.s (.ref (st.length + 1)), [.lst [], .lst (valsOf .X (.tup (ps.map fun p => .tup [.str p.1, p.2])))], ?_, by simp⟩
    simp [lb_values, okS_eq, Lt.c]
    simp [e]
  | t h => exact ⟨_, _, nil 116 (by decide) (by decide) (by decide) (by decide) (by decide), by simp [valsOf]⟩
  | a h g => exact ⟨_, _, nil 97 (by decide) (by decide) (by decide) (by decide) (by decide), by simp [valsOf]⟩
  | b h g => exact ⟨_, _, nil 98 (by decide) (by decide) (by decide) (by decide) (by decide), by simp [valsOf]⟩
  | n h => exact ⟨_, _, nil 110 (by decide) (by decide) (by decide) (by decide) (by decide), by simp [valsOf]⟩
  | x h => exact ⟨_, _, nil 120 (by decide) (by decide) (by decide) (by decide) (by decide), by simp [valsOf]⟩
  | s0 => exact ⟨.s (.ref st.length), [.lst []], by simp [lb_values, okS_eq, Lt.c], by simp [valsOf]⟩
  | sb => exact ⟨.s (.ref st.length), [.lst []], by simp [lb_values, okS_eq, Lt.c], by simp [valsOf]⟩
  | sc => exact ⟨.s (.ref st.length), [.lst []], by simp [lb_values, okS_eq, Lt.c], by simp [valsOf]⟩
  | @sr d h => exact ⟨.s (.ref st.length), [.lst [d]], by simp [lb_values, okS_eq, Lt.c, atI_eq, z0], by simp [valsOf]⟩
  | @sx d h => exact ⟨.s (.ref st.length), [.lst [d]], by simp [lb_values, okS_eq, Lt.c, atI_eq, z0], by simp [valsOf]⟩
  | F l h => exact absurd rfl hl
noncomputable def bodyL (c cf : Fn) : MS := (mSeq (mSet 5 (fBin opIx (fVar 1) (fBin opAdd (fVar 4) (fC (.int 1)))))
    (mIf (tVal (fBin opEq (fBin opIx (fVar 2) (fVar 4)) (fC (.str "a"))))
    (mExpr (fBML opAppend (fVar 3) (fCons (fVar 5) fNil)))
    (mIf (tVal (fBin opEq (fBin opIx (fVar 2) (fVar 4)) (fC (.str "b"))))
    (mSet 3 (fMat (fBin opAdd (fVar 3) (fBin opMul (fLst (fCons (fVar 5) fNil)) (fArgs cInt (fCons (fBin (opCmp cGe) (fVar 5) (fC (.int 0))) fNil))))))
    (mIf (tVal (fBin opEq (fBin opIx (fVar 2) (fVar 4)) (fC (.str "F"))))
    (mFor (fiSeq (fVar 5)) (gdName 6)
    (mSet 3 (fMat (fBin opAdd (fVar 3) (fCall0 c (fCons (fCall0 cf fNil) (fCons (fVar 6) fNil)))))))
    (mSet 3 (fMat (fBin opAdd (fVar 3) (fLc (fiSeq (fCall0 L_values (fCons (fBin opIx (fVar 2) (fVar 4)) (fCons (fVar 5) fNil)))) (gdName 7) (tVal (fBin opEq (fBin opIx (fVar 7) (fC (.int 0))) (fC (.str "ref")))) (fBin opIx (fVar 7) (fC (.int 1))) [7]))))))))
/-- where found is, behind st -/
def At (st ex : Store) (k : Nat) (acc : List D) : Prop := st.length ≤ k ∧ (st ++ ex)[k]? = some (.lst acc)
theorem At.new {st ex : Store} {acc : List D} : At st (ex ++ [.lst acc]) (st ++ ex).length acc := ⟨by rw [List.length_append]; omega, by rw [← List.append_assoc]; exact get_mid⟩
theorem At.new' {st ex : Store} {acc : List D} : At st (ex ++ [.lst acc]) (st.length + ex.length) acc := by
  have := At.new (st := st) (ex := ex) (acc := acc)
  rwa [List.length_append] at this
theorem At.set {st ex : Store} {k : Nat} {acc acc' : List D} (h : At st ex k acc) : ∃ ex', (st ++ ex).set k (.lst acc') = st ++ ex' ∧ At st ex' k acc' := by
  obtain ⟨h1, h2⟩ := h
  have hlt := (List.getElem?_eq_some_iff.mp h2).1
  refine ⟨ex.set (k - st.length) (.lst acc'), ?_, h1, ?_⟩
  · rw [List.set_append_right _ _ h1]
  · rw [← List.set_append_right _ _ h1, List.getElem?_set_self hlt]
theorem At.app {st ex : Store} {k : Nat} {acc : List D} (h : At st ex k acc) (ex' : Store) : At st (ex ++ ex') k acc :=
  ⟨h.1, by rw [← List.append_assoc, List.getElem?_append_left (List.getElem?_eq_some_iff.mp h.2).1]; exact h.2⟩
theorem At.lst {st ex : Store} {k : Nat} {acc : List D} (h : At st ex k acc) : lstW (st ++ ex) (.ref k) = some acc := by rw [lstW_ref, h.2]
/-- + of two lists -/
theorem addL {st : Store} {x y : D} {xs ys : List D} (hx : lstW st x = some xs) (hy : lstW st y = some ys) (hz : xs.length + ys.length ≤ 1000000) : opAdd x y st = .ok (.l (xs ++ ys)) st := by
  have hz2 : xs.length + ys.length ≤ sizeLine := by rw [← line_ge]; omega
  cases x with
  | ro d =>
    rw [lstW_ro] at hx
    cases hx
    rw [opAdd_ro, hy]
    exact if_pos hz2
  | ref k =>
    rw [opAdd_ref]
    rw [lstW_ref] at hx
    cases e : st[k]? with
    | none => rw [e] at hx; cases hx
    | some so =>
      rw [e] at hx
      cases so with
      | lst d =>
        cases hx
        rw [hy]
        exact if_pos hz2
      | _ => cases hx
  | _ => cases hx
/-- one field of the law's own walk -/
theorem bodyL_ok {c cf : Fn} {FD : List D} (fo0 : ∀ s, cf [] s = .ok (.s (.ref s.length)) (s ++ [.lst FD])) {m : Int} {Fr : D → Prop} {ls : List Lt} {fs : List D} {l : Lt} {d n0 : D} {j : Nat} {st ex : Store} {acc : List D} {k : Nat} {a0 o5 o6 o7 : Option D} {f : Lt → D → List Int} (hj : ls[j]? = some l) (hd : fs[j]? = some d) (hn : ls.length ≤ 1000) (h : Fld m Fr l d) (hac : acc.length + (f l d).length ≤ 100000)
    (hA : At st ex k acc) (h0 : l ≠ .F → f l d = fr0 l d)
    (hF : ∀ ds, l = .F → d = .tup ds → f l d = ds.flatMap frameRefs ∧ ∀ x ∈ ds, ∀ s y, lstW s y = some FD → Lst s (c [y, x] s) (frameRefs x)) :
    ∃ k' o5' o6' o7' ex', bodyL c cf [a0, some (.tup (n0 :: fs)), some (.str (lsZ ls)), some (.ref k), some (.int j), o5, o6, o7] (st ++ ex) = .nx [a0, some (.tup (n0 :: fs)), some (.str (lsZ ls)), some (.ref k'), some (.int j), o5', o6', o7'] (st ++ ex') ∧ At st ex' k' (acc ++ (f l d).map D.int) := by
  have hz : acc.length < sizeLine := by rw [← line_ge]; omega
  have hA1 := hA.2
  have z1 : 1 ≤ sizeLine := by rw [← line_ge]; omega
  have at1 : L2.atI (n0 :: fs) ((j : Int) + 1) = some d := by
    rw [atI_eq, if_pos (by omega)]
    have : ((j : Int) + 1).toNat = j + 1 := by omega
    rw [this, List.getElem?_cons_succ, hd]
  have at2 : L2.atI (lsZ ls).cps.toList (j : Int) = some l.c := by
    rw [atI_eq, if_pos (by omega), Int.toNat_natCast]
    simp [lsZ, hj]
  have hls : ls.length ≤ sizeLine := by rw [← line_ge]; omega
  by_cases hl : l = .F
  · subst hl
    cases h with
    | @F ds hl2 hfr =>
    obtain ⟨h1, h2⟩ := hF ds rfl rfl
    have run : ∀ (xs : List D) (acc : List D) (ex : Store) (k : Nat) (o6 : Option D), At st ex k acc → (∀ x ∈ xs, ∀ s y, lstW s y = some FD → Lst s (c [y, x] s) (frameRefs x)) → acc.length + (xs.flatMap frameRefs).length ≤ 100000 →
        ∃ k' o6' ex', forL (.val ds) (gdName 6) (mSet 3 (fMat (fBin opAdd (fVar 3) (fCall0 c (fCons (fCall0 cf fNil) (fCons (fVar 6) fNil)))))) xs [a0, some (.tup (n0 :: fs)), some (.str (lsZ ls)), some (.ref k), some (.int j), some (.tup ds), o6, o7] (st ++ ex)
          = .nx [a0, some (.tup (n0 :: fs)), some (.str (lsZ ls)), some (.ref k'), some (.int j), some (.tup ds), o6', o7] (st ++ ex') ∧ At st ex' k' (acc ++ (xs.flatMap frameRefs).map D.int) := by
      intro xs
      induction xs with
      | nil => intro acc ex k o6 hA _ _; exact ⟨k, o6, ex, by simp, by simpa using hA⟩
      | cons x xs ih =>
        intro acc ex k o6 hA hx hlen
        rw [List.flatMap_cons, List.length_append] at hlen
        have hA2 := hA.app [.lst FD]
        obtain ⟨t, ex1, e1, l1⟩ := hx x (List.mem_cons_self ..) (st ++ (ex ++ [.lst FD])) (.ref (st ++ ex).length) (by rw [← List.append_assoc, lstW_ref, get_mid])
        have hA3 := hA2.app ex1
        rw [List.append_assoc] at e1 l1
        have ad := addL hA3.lst l1 (by rw [List.length_map]; omega)
        obtain ⟨k', o6', ex', e2, hA4⟩ := ih (acc ++ (frameRefs x).map D.int) ((ex ++ [.lst FD] ++ ex1) ++ [.lst (acc ++ (frameRefs x).map D.int)]) _ (some x) At.new (fun y hy => hx y (List.mem_cons_of_mem _ hy)) (by rw [List.length_append, List.length_map]; omega)
        refine ⟨k', o6', ex', ?_, by simpa using hA4⟩
        have fo := fo0 (st ++ ex)
        rw [forL_cons]
        simp only [List.append_assoc, List.cons_append, List.nil_append, List.length_append, List.length_cons, List.length_nil] at e1 ad e2 fo
        simp [fo, e1, ad, -opAdd_ref]
        simpa using e2
    obtain ⟨k', o6', ex', e, hA4⟩ := run ds acc ex k o6 hA h2 (by rw [← h1]; exact hac)
    refine ⟨k', some (.tup ds), o6', o7, ex', ?_, by rw [h1]; exact hA4⟩
    simp [bodyL, okS_eq, at1, at2, Lt.c, hls]
    simpa [Lt.c] using e
  · have hf := h0 hl
    rw [hf]
    rw [hf] at hac
    by_cases ha : l = .a
    · subst ha
      cases h with
      | @a i hi hj =>
        obtain ⟨ex', e, hA4⟩ := hA.set (acc' := acc ++ [.int i])
        exact ⟨k, some (.int i), o6, o7, ex', by simp [bodyL, okS_eq, at1, at2, Lt.c, hls, hA1, hz, e], by simpa [fr0] using hA4⟩
    · by_cases hb : l = .b
      · subst hb
        cases h with
        | @b i hi hj =>
          by_cases h1 : i = -1
          · subst h1
            have ad := addL (x := .ref k) (y := .ro []) (st := st ++ ex) (xs := acc) (ys := []) hA.lst rfl (by simp; simp [fr0] at hac; omega)
            refine ⟨_, some (.int (-1)), o6, o7, _, ?_, At.new (ex := ex)⟩
            rw [List.append_nil] at ad
            simp [bodyL, okS_eq, at1, at2, Lt.c, hls, cGe, ad, fr0, -opAdd_ref]
          · have hge : 0 ≤ i := by omega
            have ad := addL (x := .ref k) (y := .ro [.int i]) (st := st ++ ex) (xs := acc) (ys := [.int i]) hA.lst rfl (by simp [fr0, h1] at hac ⊢; omega)
            refine ⟨_, some (.int i), o6, o7, _, ?_, At.new (ex := ex)⟩
            simp [bodyL, okS_eq, at1, at2, Lt.c, hls, cGe, ad, fr0, h1, hge, z1, -opAdd_ref]
      · obtain ⟨t, ex1, e1, l1⟩ := values_ok (st := st ++ ex) h hl
        obtain ⟨hg, hnv⟩ := vals_ok h
        have hfm := List.length_filterMap_le refI (valsOf l d)
        obtain ⟨src, s1, s2, s3⟩ := srcL l1
        have lc := lc_refs (m := m) (v := 7) (σ := [a0, some (.tup (n0 :: fs)), some (.str (lsZ ls)), some (.ref k), some (.int j), some d, o6, none]) (st := st ++ ex ++ ex1) (src := src) s3 (fun o => rfl) (valsOf l d) [] hg (by simp; omega)
        have hA3 := hA.app ex1
        have els : (l.c ≠ 97) → (l.c ≠ 98) → (l.c ≠ 70) → fr0 l d = (valsOf l d).filterMap refI → ∃ k' o5' o6' o7' ex', bodyL c cf [a0, some (.tup (n0 :: fs)), some (.str (lsZ ls)), some (.ref k), some (.int j), o5, o6, o7] (st ++ ex) = .nx [a0, some (.tup (n0 :: fs)), some (.str (lsZ ls)), some (.ref k'), some (.int j), o5', o6', o7'] (st ++ ex') ∧ At st ex' k' (acc ++ (fr0 l d).map D.int) := by
          intro c1 c2 c3 c4
          rw [c4] at hac ⊢
          have ad := addL (x := .ref k) (y := .ro (((valsOf l d).filterMap refI).map D.int)) (st := st ++ (ex ++ ex1)) (xs := acc) hA3.lst rfl (by rw [List.length_map]; omega)
          refine ⟨_, some d, o6, o7, _, ?_, At.new (ex := ex ++ ex1)⟩
          simp only [List.nil_append, o_ref, List.append_assoc] at lc e1 s1
          simp [bodyL, okS_eq, at1, at2, hls, c1, c2, c3, e1, s1, s2, lc, ad, -opAdd_ref]
        cases h with
        | a h g => exact absurd rfl ha
        | b h g => exact absurd rfl hb
        | F l h => exact absurd rfl hl
        | _ => exact els (by decide) (by decide) (by decide) rfl
end Q3

/-! Q3: the law's own references, the whole. -/
namespace Q3
open PySem PySem.Spec PyProof.Rows L2
theorem All2.get {α β : Type} {R : α → β → Prop} : ∀ {as : List α} {bs : List β}, All2 R as bs → ∀ {j : Nat} {a : α}, as[j]? = some a → ∃ b, bs[j]? = some b ∧ R a b
  | _, _, .nil, j, a, h => by cases h
  | _, _, .cons g t, 0, a, h => by cases h; exact ⟨_, rfl, g⟩
  | _, _, .cons g t, j + 1, a, h => t.get h
theorem refsL_take {f : Lt → D → List Int} : ∀ {ls : List Lt} {fs : List D} {j : Nat} {l : Lt} {d : D}, ls[j]? = some l → fs[j]? = some d → refsL f (ls.take (j + 1)) (fs.take (j + 1)) = refsL f (ls.take j) (fs.take j) ++ f l d
  | [], _, _, _, _, h, _ => by cases h
  | _ :: _, [], _, _, _, _, h => by cases h
  | a :: ls, b :: fs, 0, l, d, h, g => by
    cases h
    cases g
    simp [refsL]
  | a :: ls, b :: fs, j + 1, l, d, h, g => by
    have ih := refsL_take (f := f) (ls := ls) (fs := fs) (j := j) h g
    show f a b ++ refsL f (ls.take (j + 1)) (fs.take (j + 1)) = (f a b ++ refsL f (ls.take j) (fs.take j)) ++ f l d
    rw [ih, List.append_assoc]
theorem refsL_mono {f : Lt → D → List Int} : ∀ {ls : List Lt} {fs : List D} {j : Nat}, (refsL f (ls.take j) (fs.take j)).length ≤ (refsL f ls fs).length
  | [], _, _ => by simp [refsL]
  | _ :: _, [], _ => by simp [refsL]
  | a :: ls, b :: fs, 0 => by simp [refsL]
  | a :: ls, b :: fs, j + 1 => by
    have ih := refsL_mono (f := f) (ls := ls) (fs := fs) (j := j)
    show (f a b ++ refsL f (ls.take j) (fs.take j)).length ≤ (f a b ++ refsL f ls fs).length
    rw [List.length_append, List.length_append]
    omega
theorem lawrefs_of {c : Fn} {m : Int} {Fr : D → Prop} {f : Lt → D → List Int} {R : List Row} {r : Row} {fs : List D} {st : Store} {x : D}
    (hx : lstW st x = some (R.map rowD)) (hr : r ∈ R) (hn : lettersOf R r.1 = r.2) (hs : r.2.length ≤ 1000)
    (h0 : ∀ l d, l ≠ .F → f l d = fr0 l d)
    (hF : ∀ ds, Fld m Fr .F (.tup ds) → f .F (.tup ds) = ds.flatMap frameRefs ∧ ∀ x ∈ ds, ∀ s y, lstW s y = some framesD → Lst s (c [y, x] s) (frameRefs x))
    (h : All2 (Fld m Fr) r.2 fs) (hz : (refsL f r.2 fs).length ≤ 100000) :
    Lst st (mFn0 8 (lb_refs L_lawletters c L_frames L_values) [x, .tup (.str r.1 :: fs)] st) (refsL f r.2 fs) := by
  obtain ⟨σ', st', e, ex, k, o4, o5, o6, o7, h1, h2, hA⟩ := rng_inv (lo := 0) (n := r.2.length) (xs0 := rngD 0 r.2.length) (tg := gdName 4) (b := bodyL c L_frames)
    (σ := [some x, some (.tup (.str r.1 :: fs)), some (.str (lsZ r.2)), some (.ref st.length), none, none, none, none]) (st := st ++ [.lst []])
    (fun j σ s => ∃ ex k o4 o5 o6 o7, σ = [some x, some (.tup (.str r.1 :: fs)), some (.str (lsZ r.2)), some (.ref k), o4, o5, o6, o7] ∧ s = st ++ ex ∧ At st ex k ((refsL f (r.2.take j) (fs.take j)).map D.int))
    ⟨[.lst []], st.length, none, none, none, none, rfl, rfl, by have := At.new' (st := st) (ex := []) (acc := []); simpa [refsL] using this⟩ (by
      intro j σ s hj ⟨ex, k, o4, o5, o6, o7, h1, h2, hA⟩
      subst h1 h2
      have hl : r.2[j]? = some r.2[j] := List.getElem?_eq_getElem hj
      obtain ⟨d, hd, hf⟩ := h.get hl
      have ht := refsL_take (f := f) hl hd
      have hm := refsL_mono (f := f) (ls := r.2) (fs := fs) (j := j + 1)
      rw [ht, List.length_append] at hm
      obtain ⟨k', o5', o6', o7', ex', e, hA2⟩ := bodyL_ok (c := c) (cf := L_frames) (fun s => frames_ok) (n0 := .str r.1) (a0 := some x) (o5 := o5) (o6 := o6) (o7 := o7) (f := f) hl hd hs hf (by rw [List.length_map]; omega) hA (h0 _ _) (fun ds h1 h2 => by subst h2; rw [h1] at hf ⊢; exact hF ds hf)
      simp only [gdName_eq, TgP_some, List.set_cons_succ, List.set_cons_zero, Int.zero_add, e, NxP_nx]
      exact ⟨ex', k', _, _, _, _, rfl, rfl, by rw [ht, List.map_append]; exact hA2⟩)
  subst h1 h2
  have hfl := h.length
  rw [List.take_length, hfl, List.take_length] at hA
  refine ⟨.s (.ref k), ex, ?_, hA.lst⟩
  have hl := lawletters_ok (st := st) hx hr hn
  have hat : L2.atI (D.str r.1 :: fs) 0 = some (.str r.1) := by rw [atI_eq]; rfl
  have hz2 : r.2.length ≤ sizeLine := by rw [← line_ge]; omega
  have hz3 : ((r.2.length : Int) < 4611686018427387904) := by omega
  unfold bodyL at e
  simp only [o_a, o_b, o_F, o_ref] at e
  simp only [mFn0_eq, mFn_eq, lb_refs]
  simp [okS_eq, hat, hl, hz2, hz3]
  simp [e]
theorem lawrefs0_ok {n : Nat} {m : Int} {d y : D} {st : Store} (h : Frame m d) (hy : lstW st y = some framesD) : Lst st (L_refs (n + 1) [y, d] st) (frameRefs d) := by
  obtain ⟨r, hr, fs, rfl, h2⟩ := h
  have h3 := refsL_len (f := fr0) (fun l d h => fr0_len h) h2
  have h4 := frames_short r hr
  unfold frameRefs
  rw [show framesR = Srt.frame.rows from rfl, item_refs (m := m) (Fr := fun _ => False) (s := .frame) hr]
  refine lawrefs_of (c := L_refs n) (f := fr0) (Fr := fun _ => False) hy hr (nodup_rows.2.1 r hr) (by omega) (fun _ _ _ => rfl) (fun ds hd => ?_) h2 (by omega)
  cases hd with
  | F l hh =>
    cases ds with
    | nil => exact ⟨rfl, fun x hx => by cases hx⟩
    | cons d ds => exact (hh d (List.mem_cons_self ..)).elim
theorem lawrefs_ok {n : Nat} {m : Int} {s : Srt} {r : Row} {d y : D} {st : Store} (hr : r ∈ s.rows) (h : Item m (Frame m) r d) (hy : lstW st y = some (s.rows.map rowD)) : Lst st (L_refs (n + 2) [y, d] st) (itemRefs fr1 s.rows d) := by
  obtain ⟨fs, rfl, h2⟩ := h
  have h3 := refsL_len (f := fr1) (fun l d h => fr1_len h) h2
  have h4 := rows_short hr
  rw [item_refs (m := m) (Fr := Frame m) hr]
  refine lawrefs_of (c := L_refs (n + 1)) (f := fr1) (Fr := Frame m) hy hr (lettersOf_ok hr) (by omega) (fun l d hl => ?_) (fun ds hd => ?_) h2 (by omega)
  · cases l <;> first | rfl | exact absurd rfl hl
  · cases hd with
    | F l hh => exact ⟨rfl, fun x hx s y hy => lawrefs0_ok (hh x hx) hy⟩
theorem itemRefs_len {m : Int} {s : Srt} {r : Row} {d : D} (hr : r ∈ s.rows) (h : Item m (Frame m) r d) : (itemRefs fr1 s.rows d).length ≤ 1600 := by
  obtain ⟨fs, rfl, h2⟩ := h
  have h3 := refsL_len (f := fr1) (fun l d h => fr1_len h) h2
  have h4 := rows_short hr
  rw [item_refs (m := m) (Fr := Frame m) hr]
  omega
end Q3

/-! Q3: the digits. -/
namespace Q3
open PySem PySem.Spec PyProof.Rows L2
noncomputable def L_digits : Fn := mFn0 8 (lb_digits L_cell)
noncomputable def dg60 : MS := (mIf (tVal (fBin (opCmp cGt) (fVar 5) (fC (.int 0))))
    (mSeq (mExpr (fBML opAppend (fVar 3) (fCons (fBin opMod (fArgs cInt (fCons (fVar 5) fNil)) (fC (.int 1000))) fNil)))
    (mSet 5 (fBin opFdiv (fVar 5) (fC (.int 1000)))))
    mNil)
noncomputable def dg12 : MS := (mSeq (mSet 7 (fBin opMod (fArgs cInt (fCons (fBin opAdd (fBin opAdd (fBin opMul (fVar 7) (fC (.int 16807))) (fBin opMul (fC (.int 7)) (fVar 6))) (fC (.int 1))) fNil)) (fC (.int 2147483647))))
    (mExpr (fBML opAppend (fVar 3) (fCons (fBin opMod (fArgs cInt (fCons (fBin opFdiv (fVar 7) (fC (.int 997))) fNil)) (fC (.int 1000))) fNil))))
noncomputable def dgIf : MS := (mIf (tVal (fBin (opCmp cGe) (fVar 5) (fBin opPow (fC (.int 10)) (fC (.int 18)))))
    (mFor (fiRng1 (fCons (fC (.int 60)) fNil)) (gdName 6) dg60)
    (mSeq (mSet 7 (fBin opMod (fArgs cInt (fCons (fBin opAdd (fBin opAdd (fBin opMul (fVar 5) (fC (.int 48271))) (fBin opMul (fVar 4) (fC (.int 69621)))) (fC (.int 11))) fNil)) (fC (.int 2147483647))))
    (mFor (fiRng1 (fCons (fC (.int 12)) fNil)) (gdName 6) dg12)))
noncomputable def dgBody : MS := (mSeq (mSet 5 (fCall0 L_cell (fCons (fVar 0) (fCons (fVar 4) fNil))))
    (mSeq (mIf (tVal (fBin (opCmp cLt) (fVar 5) (fC (.int 0))))
    (mSet 5 (fBin opSub (fC (.int 1)) (fBin opMul (fC (.int 2)) (fVar 5))))
    mNil) dgIf))
theorem lb_digits_eq : lb_digits L_cell = (mSeq (mSet 3 (fMat (fLst fNil)))
    (mSeq (mFor (fiRng2 (fCons (fVar 1) (fCons (fVar 2) fNil))) (gdName 4) dgBody) (mRet (fVar 3)))) := rfl
def DgP (x a b r : D) (st : Store) (L : Nat) (σ : DS) (s : Store) : Prop := ∃ (dg : List Int) (o4 o5 o6 o7 : Option D), σ = [some x, some a, some b, some r, o4, o5, o6, o7] ∧ s = st ++ [.lst (dg.map D.int)] ∧ dg.length ≤ L
theorem dgIf_ok {x a b r : D} {st : Store} {dg : List Int} {L : Nat} {cell i4 : Int} {o6 o7 : Option D} (hr : r = .ref st.length) (hl : dg.length ≤ L) (hL : L + 60 ≤ 100000) :
    NxP (DgP x a b r st (L + 60)) (dgIf [some x, some a, some b, some r, some (.int i4), some (.int cell), o6, o7] (st ++ [.lst (dg.map D.int)])) := by
  subst hr
  have i10 : Builtin.Int.intBits 10 = 4 := bits10
  by_cases hb : 1000000000000000000 ≤ cell
  · obtain ⟨σ', st', e, dg2, c2, o6', h1, h2, hl2⟩ := rng_inv (lo := 0) (n := 60) (xs0 := rngD 0 60) (tg := gdName 6) (b := dg60)
      (σ := [some x, some a, some b, some (.ref st.length), some (.int i4), some (.int cell), o6, o7]) (st := st ++ [.lst (dg.map D.int)])
      (fun i σ s => ∃ (dg2 : List Int) (c : Int) (o6 : Option D), σ = [some x, some a, some b, some (.ref st.length), some (.int i4), some (.int c), o6, o7] ∧ s = st ++ [.lst (dg2.map D.int)] ∧ dg2.length ≤ dg.length + i)
      ⟨dg, cell, o6, rfl, rfl, by omega⟩ (by
        intro i σ s hi ⟨dg2, c, o6, h1, h2, hl2⟩
        subst h1 h2
        have hz : dg2.length < sizeLine := by rw [← line_ge]; omega
        by_cases hp : 0 < c
        · simp [dg60, okS_eq, cGt, hp, hz]
          exact ⟨dg2 ++ [c % 1000], by simp, by simp; omega⟩
        · simp [dg60, okS_eq, cGt, hp]
          exact ⟨dg2, rfl, by omega⟩)
    subst h1 h2
    simp [dgIf, okS_eq, cGe, i10, hb, e]
    exact ⟨dg2, _, _, _, _, rfl, rfl, by omega⟩
  · obtain ⟨σ', st', e, dg2, c2, o6', h1, h2, hl2⟩ := rng_inv (lo := 0) (n := 12) (xs0 := rngD 0 12) (tg := gdName 6) (b := dg12)
      (σ := [some x, some a, some b, some (.ref st.length), some (.int i4), some (.int cell), o6, some (.int ((cell * 48271 + i4 * 69621 + 11) % 2147483647))]) (st := st ++ [.lst (dg.map D.int)])
      (fun i σ s => ∃ (dg2 : List Int) (c : Int) (o6 : Option D), σ = [some x, some a, some b, some (.ref st.length), some (.int i4), some (.int cell), o6, some (.int c)] ∧ s = st ++ [.lst (dg2.map D.int)] ∧ dg2.length ≤ dg.length + i)
      ⟨dg, _, o6, rfl, rfl, by omega⟩ (by
        intro i σ s hi ⟨dg2, c, o6, h1, h2, hl2⟩
        subst h1 h2
        have hz : dg2.length < sizeLine := by rw [← line_ge]; omega
        simp [dg12, okS_eq, hz]
        exact ⟨dg2 ++ [(c * 16807 + 7 * i + 1) % 2147483647 / 997 % 1000], by simp, by simp; omega⟩)
    subst h1 h2
    simp [dgIf, okS_eq, cGe, i10, hb, e]
    exact ⟨dg2, _, _, _, _, rfl, rfl, by omega⟩
theorem dgBody_ok {z : List Int} {a b r : D} {st : Store} {dg : List Int} {L : Nat} {i4 : Int} {o5 o6 o7 : Option D} (hr : r = .ref st.length) (h4 : 0 ≤ i4) (hl : dg.length ≤ L) (hL : L + 60 ≤ 100000) :
    NxP (DgP (.rk (z.map D.int)) a b r st (L + 60)) (dgBody [some (.rk (z.map D.int)), some a, some b, some r, some (.int i4), o5, o6, o7] (st ++ [.lst (dg.map D.int)])) := by
  have hc := fun (s : Store) => cell_int (z := z) (i := i4) (st := s) h4
  generalize z.getD i4.toNat 0 = cell at hc
  simp only [okS_eq] at hc
  by_cases hneg : cell < 0
  · have := dgIf_ok (x := .rk (z.map D.int)) (a := a) (b := b) (cell := 1 - 2 * cell) (i4 := i4) (o6 := o6) (o7 := o7) hr hl hL
    simpa [dgBody, okS_eq, hc, cLt, hneg] using this
  · have := dgIf_ok (x := .rk (z.map D.int)) (a := a) (b := b) (cell := cell) (i4 := i4) (o6 := o6) (o7 := o7) hr hl hL
    simpa [dgBody, okS_eq, hc, cLt, hneg] using this
theorem digits_ok {z : List Int} {a n : Nat} {st : Store} (hn : n ≤ 1000) (ha : a ≤ 1000) : ∃ dg : List Int, L_digits [.rk (z.map D.int), .int a, .int ((a + n : Nat) : Int)] st = .ok (.s (.ref st.length)) (st ++ [.lst (dg.map D.int)]) := by
  unfold L_digits
  rw [lb_digits_eq]
  generalize hb : D.int ((a + n : Nat) : Int) = b
  obtain ⟨σ', st', e, dg, o4, o5, o6, o7, h1, h2, hl⟩ := rng_inv (lo := a) (n := n) (xs0 := rngD a n) (tg := gdName 4) (b := dgBody)
    (σ := [some (.rk (z.map D.int)), some (.int a), some b, some (.ref st.length), none, none, none, none]) (st := st ++ [.lst []])
    (fun j σ s => DgP (.rk (z.map D.int)) (.int a) b (.ref st.length) st (60 * j) σ s) ⟨[], none, none, none, none, rfl, rfl, Nat.zero_le _⟩ (by
      intro j σ s hj ⟨dg, o4, o5, o6, o7, h1, h2, hl⟩
      subst h1 h2
      rw [show 60 * (j + 1) = 60 * j + 60 by omega]
      exact dgBody_ok (L := 60 * j) (a := .int a) (b := b) (st := st) (i4 := a + j) (o5 := o5) (o6 := o6) (o7 := o7) rfl (by omega) hl (by omega))
  subst h1 h2
  refine ⟨dg, ?_⟩
  have r2 : rng2 (st ++ [.lst []]) [.int a, b] = .ok (.val (rngD a n)) (st ++ [.lst []]) := by
    rw [← hb, rng2_int, if_pos (by omega)]
    have : (((a + n : Nat) : Int) - (a : Int)).toNat = n := by omega
    rw [this]
  simp only [mFn0_eq, mFn_eq]
  simp [r2, e]
/-- a fresh list, and what else was made forgotten -/
noncomputable def tempL (c : Fn) : Fn := fun args st => match c args st with
  | .ok (.s (.ref k)) st' => (match st'[k]? with
    | some (.lst ds) => if st.length ≤ k ∧ Store.lt st.length (st'.take st.length) = true ∧ D.lts st.length ds = true then .ok (.l ds) (st'.take st.length) else .bad
    | _ => .bad)
  | _ => .bad
theorem tempL_gc {c : Fn} {args : List D} {st : Store} (h : tempL c args st ≠ .bad) : Gc st.length (c args st) (tempL c args st) := by
  unfold tempL at h ⊢
  split at h
  · rename_i k st' e
    rw [e]
    split at h
    · rename_i ds es
      by_cases hc : st.length ≤ k ∧ Store.lt st.length (st'.take st.length) = true ∧ D.lts st.length ds = true
      · rw [if_pos hc] at h
        simp only [es, if_pos hc]
        exact .lst hc.2.1 hc.2.2 hc.1 es
      · rw [if_neg hc] at h
        exact absurd rfl h
    · exact absurd rfl h
  · exact absurd rfl h
theorem lts_ints {n : Nat} : ∀ xs : List Int, D.lts n (xs.map D.int) = true
  | [] => by rw [List.map_nil]; unfold D.lts; rfl
  | x :: xs => by
    rw [List.map_cons]
    unfold D.lts
    rw [lts_ints xs]
    unfold D.lt
    rfl
theorem tempL_ok {c : Fn} {args : List D} {st : Store} {ds : List D} (e : c args st = .ok (.s (.ref st.length)) (st ++ [.lst ds])) (hs : Store.lt st.length st = true) (hd : D.lts st.length ds = true) : tempL c args st = .ok (.l ds) st := by
  have h : (st ++ [SO.lst ds]).take st.length = st := by simp
  unfold tempL
  simp only [e, get_mid, h]
  exact if_pos ⟨Nat.le_refl _, hs, hd⟩
noncomputable def S_digits : Fn := tempL L_digits
theorem S_digits_ok {z : List Int} {a n : Nat} {st : Store} (hn : n ≤ 1000) (ha : a ≤ 1000) (hs : Store.lt st.length st = true) : ∃ dg : List Int, S_digits [.rk (z.map D.int), .int a, .int ((a + n : Nat) : Int)] st = .ok (.l (dg.map D.int)) st := by
  obtain ⟨dg, e⟩ := digits_ok (z := z) (st := st) hn ha
  exact ⟨dg, tempL_ok e hs (lts_ints _)⟩
end Q3

namespace L78
open PySem PySem.Spec PyProof.Rows L2 Q3
def topS (i : Nat) : Stmt := PySem.Challenge.pw_pyhold_k78_references.main.body.getD i (.Pass ⟨0, 0, 0, 0⟩)
structure Mods (mg : Str → Option Value) : Prop where
  m_bool : mg "bool" = none
  m_int : mg "int" = none
  m_isinstance : mg "isinstance" = none
  m_len : mg "len" = none
  m_list : mg "list" = none
  m_range : mg "range" = none
  m_str : mg "str" = none
  m_tuple : mg "tuple" = none
  m_zip : mg "zip" = none
def tab_FIELDS : List (Str × Str) := strs2 [("neg", ""), ("not", ""), ("bin1", "xta"), ("bin2", "xv"), ("and", "ta"), ("or", "ta"), ("choice", "tta"), ("cmp1", "ta"), ("cmp2", "vxta"), ("cmp3", "vta"), ("attr", "x"), ("item1", "ta"), ("item2", "v"), ("part1", "tta"), ("part2", "vta"), ("part3", "vv"), ("items", "xVta"), ("dict1", "Wtta"), ("dict2", "Wvta"), ("call1", "tta"), ("args", "vVtXta"), ("rest", "ta"), ("drop", ""), ("put", "ta"), ("del1", "ta"), ("del2", "v"), ("ret", ""), ("throw", ""), ("if", "tta"), ("while1", "ttan"), ("while2", "ttan"), ("for1", "ttan"), ("for2", "ttan"), ("for3", "vttan"), ("for4", "vttan"), ("for5", "vttan"), ("def", "xtttXta"), ("class1", "xtta"), ("class2", "xbaa"), ("catch", "ta"), ("match", "vta"), ("handling", "v"), ("final", "ta"), ("after", "s"), ("giving", "ta"), ("sent", "ta"), ("setattr", "xv"), ("seti1", "tva"), ("seti2", "vv"), ("unpack", "tVa"), ("forget", ""), ("body", "xn"), ("init", "v"), ("genbody", "axnx"), ("begin", "ta"), ("want", "x"), ("print", "vV"), ("gather1", "x"), ("gather", "xvV"), ("default", "v")]
def tab_OBJECTS : List (Str × Str) := strs2 [("list", "V"), ("tuple", "V"), ("dict", "W"), ("scope", "Xttbt"), ("func", "xtXtta"), ("class", "xbX"), ("inst", "aX"), ("bound", "vv"), ("iter", "vnn"), ("gen", "xxF")]
def tab_CONTROLS : List (Str × Str) := strs2 [("eval", "ta"), ("exec", "ta"), ("store", "tva"), ("call", "vVX"), ("resume", "axv"), ("value", "v"), ("done", ""), ("leave", "s"), ("give", "v"), ("ask", "xV")]
/-! ### letters -/
abbrev s_letters : Stmt := topS 4
theorem sc_letters : FnScope ["sort", "kind"] ["sort", "kind"] (defScope s_letters) := ⟨rfl, rfl, rfl, by decide +kernel, rfl, by decide +kernel, by decide +kernel⟩
noncomputable def b_letters : MS :=
    (mSeq (mIf (tVal (fBin opEq (fVar 0) (fC (.str "object"))))
    (mRet (fKIx (tabG tab_OBJECTS) (fVar 1)))
    mNil)
    (mSeq (mIf (tVal (fBin opEq (fVar 0) (fC (.str "frame"))))
    (mRet (fKIx (tabG tab_FIELDS) (fVar 1)))
    mNil)
    (mRet (fKIx (tabG tab_CONTROLS) (fVar 1)))))
theorem ok_letters {P : Program} {w : World} {K : PySem.W.Frag} {mg : Str → Option Value} {base : Heap} {k : Nat} (M : Mods mg) (Dd : DefAt K mg "letters" s_letters ["sort", "kind"]) {d_OBJECTS : Addr} (g_OBJECTS : mg "OBJECTS" = some (.ref d_OBJECTS)) (t_OBJECTS : KTab K w d_OBJECTS (tabV tab_OBJECTS)) {d_FIELDS : Addr} (g_FIELDS : mg "FIELDS" = some (.ref d_FIELDS)) (t_FIELDS : KTab K w d_FIELDS (tabV tab_FIELDS)) {d_CONTROLS : Addr} (g_CONTROLS : mg "CONTROLS" = some (.ref d_CONTROLS)) (t_CONTROLS : KTab K w d_CONTROLS (tabV tab_CONTROLS)) :
    FnAt P w K mg base "letters" (k + 1) 2 (mFn0 2 (b_letters)) :=
  fnAt Dd sc_letters fun f cdv A outer s H E hr => ⟨_, (pss_cons (ps_if (pt_cmpR (op_eqQ hr.units) (pv 0) pe_str (nomark _)) (pss_one (ps_ret (pe_ix ix_kdict (pe_glob (v := .ref d_OBJECTS) (by rfl) g_OBJECTS rfl) (pv 1) (fun _ _ => rfl)))) pss_nil) (pss_cons (ps_if (pt_cmpR (op_eqQ hr.units) (pv 0) pe_str (nomark _)) (pss_one (ps_ret (pe_ix ix_kdict (pe_glob (v := .ref d_FIELDS) (by rfl) g_FIELDS rfl) (pv 1) (fun _ _ => rfl)))) pss_nil) (pss_one (ps_ret (pe_ix ix_kdict (pe_glob (v := .ref d_CONTROLS) (by rfl) g_CONTROLS rfl) (pv 1) (fun _ _ => rfl)))))),
    (ls_seq (ls_if (lt_test (le_bin le_var (le_c fun _ _ => rfl) opEq_ok)) (ls_ret (le_kix t_OBJECTS tabG_ok le_var)) ls_nil) (ls_seq (ls_if (lt_test (le_bin le_var (le_c fun _ _ => rfl) opEq_ok)) (ls_ret (le_kix t_FIELDS tabG_ok le_var)) ls_nil) (ls_ret (le_kix t_CONTROLS tabG_ok le_var))))⟩
/-! ### field_values -/
abbrev s_field_values : Stmt := topS 6
theorem sc_field_values : FnScope ["letter", "field", "pair", "value"] ["letter", "field"] (defScope s_field_values) := ⟨rfl, rfl, rfl, by decide +kernel, rfl, by decide +kernel, by decide +kernel⟩
noncomputable def b_field_values : MS :=
    (mSeq (mIf (tVal (fBin opEq (fVar 0) (fC (.str "v"))))
    (mRet (fLst (fCons (fVar 1) fNil)))
    mNil)
    (mSeq (mIf (tVal (fBin opEq (fVar 0) (fC (.str "V"))))
    (mRet (fArgs cList (fCons (fVar 1) fNil)))
    mNil)
    (mSeq (mIf (tVal (fBin opEq (fVar 0) (fC (.str "W"))))
    (mRet (fLc2 (fiSeq (fVar 1)) (gdName 2) (fiSeq (fVar 2)) (gdName 3) (fun _ st => .ok true st) (fVar 3) [2, 3] [3]))
    mNil)
    (mSeq (mIf (tVal (fBin opEq (fVar 0) (fC (.str "X"))))
    (mRet (fLc (fiSeq (fVar 1)) (gdName 2) (fun _ st => .ok true st) (fBin opIx (fVar 2) (fC (.int 1))) [2]))
    mNil)
    (mSeq (mIf (tAndF (tVal (fBin opEq (fVar 0) (fC (.str "s")))) (tVal (fBin opEq (fArgs cLen (fCons (fVar 1) fNil)) (fC (.int 2)))))
    (mRet (fLst (fCons (fBin opIx (fVar 1) (fC (.int 1))) fNil)))
    mNil)
    (mRet (fLst fNil)))))))
theorem ok_field_values {P : Program} {w : World} {K : PySem.W.Frag} {mg : Str → Option Value} {base : Heap} {k : Nat} (M : Mods mg) (Dd : DefAt K mg "field_values" s_field_values ["letter", "field"]) :
    FnAt P w K mg base "field_values" (k + 1) 2 (mFn0 4 (b_field_values)) :=
  fnAt Dd sc_field_values fun f cdv A outer s H E hr => ⟨_, (pss_cons (ps_if (pt_cmpR (op_eqQ hr.units) (pv 0) pe_str (nomark _)) (pss_one (ps_ret (pe_lst (pa_cons (pv 1) pa_nil)))) pss_nil) (pss_cons (ps_if (pt_cmpR (op_eqQ hr.units) (pv 0) pe_str (nomark _)) (pss_one (ps_ret (pe_callTy call_list_of (by rfl) M.m_list bb_list (pa_cons (pv 1) pa_nil)))) pss_nil) (pss_cons (ps_if (pt_cmpR (op_eqQ hr.units) (pv 0) pe_str (nomark _)) (pss_one (ps_ret (pe_lc2 (own := [("pair", 2), ("value", 3)]) rfl sc_field_values.nd (pi_seq (pv 1)) (blkOk_by (N := ["letter", "field", "pair", "value"]) (sc := defScope s_field_values) (own := [("pair", 2), ("value", 3)]) (by decide +kernel)) (vs1 := [3]) (by decide) (fun _ _ _ _ _ => (pg_name (i := 2) sc_field_values.nd rfl (by first | exact .inl rfl | exact .inr rfl))) (fun _ _ _ _ _ => pts_nil) (fun _ _ _ _ _ => (pi_seq (pv 2))) (fun _ _ _ _ _ => (pg_name (i := 3) sc_field_values.nd rfl (by first | exact .inl rfl | exact .inr rfl))) (fun _ _ _ _ _ => pts_nil) (fun _ _ _ _ _ => (pv 3))))) pss_nil) (pss_cons (ps_if (pt_cmpR (op_eqQ hr.units) (pv 0) pe_str (nomark _)) (pss_one (ps_ret (pe_lc (own := [("pair", 2)]) rfl sc_field_values.nd (pi_seq (pv 1)) (blkOk_by (N := ["letter", "field", "pair", "value"]) (sc := defScope s_field_values) (own := [("pair", 2)]) (by decide +kernel)) (fun _ _ _ _ _ => (pg_name (i := 2) sc_field_values.nd rfl (by first | exact .inl rfl | exact .inr rfl))) (fun _ _ _ _ _ => pts_nil) (fun _ _ _ _ _ => (pe_ix ix_seq (pv 2) pe_int (fun _ _ => rfl)))))) pss_nil) (pss_cons (ps_if (PW.pt (pw_and (pt_cmpR (op_eqQ hr.units) (pv 0) pe_str (nomark _)) (pw_and1 (pt_cmpR (op_eqQ hr.units) (pe_callB call_lenQ (by rfl) M.m_len bb_len (pa_cons (pv 1) pa_nil)) pe_int (nomark _))))) (pss_one (ps_ret (pe_lst (pa_cons (pe_ix ix_seq (pv 1) pe_int (fun _ _ => rfl)) pa_nil)))) pss_nil) (pss_one (ps_ret (pe_lst pa_nil)))))))),
    (ls_seq (ls_if (lt_test (le_bin le_var (le_c fun _ _ => rfl) opEq_ok)) (ls_ret (le_lst (la_cons le_var la_nil) (len_cons len_nil) (by decide : 1 ≤ sizeLine))) ls_nil) (ls_seq (ls_if (lt_test (le_bin le_var (le_c fun _ _ => rfl) opEq_ok)) (ls_ret (le_args (la_cons le_var la_nil) cList_ok)) ls_nil) (ls_seq (ls_if (lt_test (le_bin le_var (le_c fun _ _ => rfl) opEq_ok)) (ls_ret (le_lc2 (li_seq le_var) lg_name (by decide) (li_seq le_var) lg_name (by decide) lt_yes le_var)) ls_nil) (ls_seq (ls_if (lt_test (le_bin le_var (le_c fun _ _ => rfl) opEq_ok)) (ls_ret (le_lc (li_seq le_var) lg_name (by decide) lt_yes (le_bin le_var (le_c fun _ _ => rfl) opIx_ok))) ls_nil) (ls_seq (ls_if (lt_and (lt_test (le_bin le_var (le_c fun _ _ => rfl) opEq_ok)) (lt_test (le_bin (le_args (la_cons le_var la_nil) cLen_ok) (le_c fun _ _ => rfl) opEq_ok))) (ls_ret (le_lst (la_cons (le_bin le_var (le_c fun _ _ => rfl) opIx_ok) la_nil) (len_cons len_nil) (by decide : 1 ≤ sizeLine))) ls_nil) (ls_ret (le_lst la_nil len_nil (by decide : 0 ≤ sizeLine))))))))⟩
/-! ### references -/
abbrev s_references : Stmt := topS 7
theorem sc_references : FnScope ["sort", "item", "found", "letter", "field", "frame", "value"] ["sort", "item"] (defScope s_references) := ⟨rfl, rfl, rfl, by decide +kernel, rfl, by decide +kernel, by decide +kernel⟩
noncomputable def b_references (c_letters : Fn) (c_references : Fn) (c_field_values : Fn) : MS :=
    (mSeq (mSet 2 (fMat (fLst fNil)))
    (mSeq (mFor (fiZip (fCons (fCall0 c_letters (fCons (fVar 0) (fCons (fBin opIx (fVar 1) (fC (.int 0))) fNil))) (fCons (fSl (fVar 1) (oSome (fC (.int 1))) oNone) fNil))) (gdTup 2 (gdCons (gdName 3) (gdCons (gdName 4) gdNil)))
    (mIf (tOrF (tVal (fBin opEq (fVar 3) (fC (.str "a")))) (tAndF (tVal (fBin opEq (fVar 3) (fC (.str "b")))) (tVal (fBin opNe (fVar 4) (fUn unNeg (fC (.int 1)))))))
    (mExpr (fBML opAppend (fVar 2) (fCons (fVar 4) fNil)))
    (mIf (tVal (fBin opEq (fVar 3) (fC (.str "F"))))
    (mFor (fiSeq (fVar 4)) (gdName 5)
    (mExpr (fBML opExtend (fVar 2) (fCons (fCall0 c_references (fCons (fC (.str "frame")) (fCons (fVar 5) fNil))) fNil))))
    (mExpr (fBML opExtend (fVar 2) (fCons (fLc (fiSeq (fCall0 c_field_values (fCons (fVar 3) (fCons (fVar 4) fNil)))) (gdName 6) (tVal (fBin opEq (fBin opIx (fVar 6) (fC (.int 0))) (fC (.str "ref")))) (fBin opIx (fVar 6) (fC (.int 1))) [6]) fNil))))))
    (mRet (fVar 2))))
theorem ok_references {P : Program} {w : World} {K : PySem.W.Frag} {mg : Str → Option Value} {base : Heap} {k : Nat} (M : Mods mg) (Dd : DefAt K mg "references" s_references ["sort", "item"]) {kk_letters : Nat} {c_letters : Fn} (h_letters : FnAt P w K mg base "letters" kk_letters 2 c_letters) (k_letters : kk_letters ≤ k) {kk_references : Nat} {c_references : Fn} (h_references : FnAt P w K mg base "references" kk_references 2 c_references) (k_references : kk_references ≤ k) {kk_field_values : Nat} {c_field_values : Fn} (h_field_values : FnAt P w K mg base "field_values" kk_field_values 2 c_field_values) (k_field_values : kk_field_values ≤ k) :
    FnAt P w K mg base "references" (k + 1) 2 (mFn0 7 (b_references c_letters c_references c_field_values)) :=
  fnAt Dd sc_references fun f cdv A outer s H E hr => ⟨_, (pss_cons (ps_set (i := 2) sc_references.nd rfl (by first | exact .inl rfl | exact .inr rfl) (pe_lst pa_nil)) (pss_cons (ps_for PassesOwn.never rfl (pi_zipG (by rfl) M.m_zip (pa_cons (pe_callA h_letters (hr.mono k_letters) (by rfl) (pa_cons (pv 0) (pa_cons (pe_ix ix_seq (pv 1) pe_int (fun _ _ => rfl)) pa_nil))) (pa_cons (pe_slice sl_Q (pv 1) (po_some pe_int) po_none) pa_nil))) (pg_tup rfl (pgs_cons (pg_name (i := 3) sc_references.nd rfl (by first | exact .inl rfl | exact .inr rfl)) (pgs_cons (pg_name (i := 4) sc_references.nd rfl (by first | exact .inl rfl | exact .inr rfl)) pgs_nil))) (pss_one (ps_if (PW.pt (pw_or (pt_cmpR (op_eqQ hr.units) (pv 3) pe_str (nomark _)) (pw_or1 (PW.pt (pw_and (pt_cmpR (op_eqQ hr.units) (pv 3) pe_str (nomark _)) (pw_and1 (pt_cmpR (op_neQ hr.units) (pv 4) (pe_un un_neg pe_int) (nomark _)))))))) (pss_one (ps_expr (pe_bm PySem.F.plainAttrs_list PySem.F.slot_list_append PySem.F.type_list_append mt_append (pv 2) (pa_cons (pv 4) pa_nil)))) (pss_one (ps_if (pt_cmpR (op_eqQ hr.units) (pv 3) pe_str (nomark _)) (pss_one (ps_for PassesOwn.never rfl (pi_seq (pv 4)) (pg_name (i := 5) sc_references.nd rfl (by first | exact .inl rfl | exact .inr rfl)) (pss_one (ps_expr (pe_bm PySem.F.plainAttrs_list PySem.F.slot_list_extend PySem.F.type_list_extend mt_extend (pv 2) (pa_cons (pe_callA h_references (hr.mono k_references) (by rfl) (pa_cons pe_str (pa_cons (pv 5) pa_nil))) pa_nil)))))) (pss_one (ps_expr (pe_bm PySem.F.plainAttrs_list PySem.F.slot_list_extend PySem.F.type_list_extend mt_extend (pv 2) (pa_cons (pe_lc (own := [("value", 6)]) rfl sc_references.nd (pi_seq (pe_callA h_field_values (hr.mono k_field_values) (by rfl) (pa_cons (pv 3) (pa_cons (pv 4) pa_nil)))) (blkOk_by (N := ["sort", "item", "found", "letter", "field", "frame", "value"]) (sc := defScope s_references) (own := [("value", 6)]) (by decide +kernel)) (fun _ _ _ _ _ => (pg_name (i := 6) sc_references.nd rfl (by first | exact .inl rfl | exact .inr rfl))) (fun _ _ _ _ _ => (pts_one (pt_cmpR (op_eqQ hr.units) (pe_ix ix_seq (pv 6) pe_int (fun _ _ => rfl)) pe_str (nomark _)))) (fun _ _ _ _ _ => (pe_ix ix_seq (pv 6) pe_int (fun _ _ => rfl)))) pa_nil))))))))) (pss_one (ps_ret (pv 2))))),
    (ls_seq (ls_set (le_mat (le_lst la_nil len_nil (by decide : 0 ≤ sizeLine)))) (ls_seq (ls_for (li_zip (la_cons (le_call0 (la_cons le_var (la_cons (le_bin le_var (le_c fun _ _ => rfl) opIx_ok) la_nil)) (len_cons (len_cons len_nil))) (la_cons (le_sl le_var (lo_some (le_c fun _ _ => rfl)) lo_none) la_nil))) (lg_tup (lgs_cons lg_name (lgs_cons lg_name lgs_nil))) (ls_if (lt_or (lt_test (le_bin le_var (le_c fun _ _ => rfl) opEq_ok)) (lt_and (lt_test (le_bin le_var (le_c fun _ _ => rfl) opEq_ok)) (lt_test (le_bin le_var (le_un (le_c fun _ _ => rfl) unNeg_ok) opNe_ok)))) (ls_expr (le_bml le_var (la_cons le_var la_nil) opAppend_ok)) (ls_if (lt_test (le_bin le_var (le_c fun _ _ => rfl) opEq_ok)) (ls_for (li_seq le_var) lg_name (ls_expr (le_bml le_var (la_cons (le_call0 (la_cons (le_c fun _ _ => rfl) (la_cons le_var la_nil)) (len_cons (len_cons len_nil))) la_nil) opExtend_ok))) (ls_expr (le_bml le_var (la_cons (le_lc (li_seq (le_call0 (la_cons le_var (la_cons le_var la_nil)) (len_cons (len_cons len_nil)))) lg_name (by decide) (lt_test (le_bin (le_bin le_var (le_c fun _ _ => rfl) opIx_ok) (le_c fun _ _ => rfl) opEq_ok)) (le_bin le_var (le_c fun _ _ => rfl) opIx_ok)) la_nil) opExtend_ok))))) (ls_ret le_var)))⟩
/-! ### object_references -/
abbrev s_object_references : Stmt := topS 8
theorem sc_object_references : FnScope ["item"] ["item"] (defScope s_object_references) := ⟨rfl, rfl, rfl, by decide +kernel, rfl, by decide +kernel, by decide +kernel⟩
noncomputable def b_object_references (c_references : Fn) : MS :=
    (mRet (fCall0 c_references (fCons (fC (.str "object")) (fCons (fVar 0) fNil))))
theorem ok_object_references {P : Program} {w : World} {K : PySem.W.Frag} {mg : Str → Option Value} {base : Heap} {k : Nat} (M : Mods mg) (Dd : DefAt K mg "object_references" s_object_references ["item"]) {kk_references : Nat} {c_references : Fn} (h_references : FnAt P w K mg base "references" kk_references 2 c_references) (k_references : kk_references ≤ k) :
    FnAt P w K mg base "object_references" (k + 1) 1 (mFn0 1 (b_object_references c_references)) :=
  fnAt Dd sc_object_references fun f cdv A outer s H E hr => ⟨_, (pss_one (ps_ret (pe_callA h_references (hr.mono k_references) (by rfl) (pa_cons pe_str (pa_cons (pv 0) pa_nil))))),
    (ls_ret (le_call0 (la_cons (le_c fun _ _ => rfl) (la_cons le_var la_nil)) (len_cons (len_cons len_nil))))⟩
/-! ### frame_references -/
abbrev s_frame_references : Stmt := topS 9
theorem sc_frame_references : FnScope ["frame"] ["frame"] (defScope s_frame_references) := ⟨rfl, rfl, rfl, by decide +kernel, rfl, by decide +kernel, by decide +kernel⟩
noncomputable def b_frame_references (c_references : Fn) : MS :=
    (mRet (fCall0 c_references (fCons (fC (.str "frame")) (fCons (fVar 0) fNil))))
theorem ok_frame_references {P : Program} {w : World} {K : PySem.W.Frag} {mg : Str → Option Value} {base : Heap} {k : Nat} (M : Mods mg) (Dd : DefAt K mg "frame_references" s_frame_references ["frame"]) {kk_references : Nat} {c_references : Fn} (h_references : FnAt P w K mg base "references" kk_references 2 c_references) (k_references : kk_references ≤ k) :
    FnAt P w K mg base "frame_references" (k + 1) 1 (mFn0 1 (b_frame_references c_references)) :=
  fnAt Dd sc_frame_references fun f cdv A outer s H E hr => ⟨_, (pss_one (ps_ret (pe_callA h_references (hr.mono k_references) (by rfl) (pa_cons pe_str (pa_cons (pv 0) pa_nil))))),
    (ls_ret (le_call0 (la_cons (le_c fun _ _ => rfl) (la_cons le_var la_nil)) (len_cons (len_cons len_nil))))⟩
/-! ### control_references -/
abbrev s_control_references : Stmt := topS 10
theorem sc_control_references : FnScope ["control"] ["control"] (defScope s_control_references) := ⟨rfl, rfl, rfl, by decide +kernel, rfl, by decide +kernel, by decide +kernel⟩
noncomputable def b_control_references (c_references : Fn) : MS :=
    (mRet (fCall0 c_references (fCons (fC (.str "control")) (fCons (fVar 0) fNil))))
theorem ok_control_references {P : Program} {w : World} {K : PySem.W.Frag} {mg : Str → Option Value} {base : Heap} {k : Nat} (M : Mods mg) (Dd : DefAt K mg "control_references" s_control_references ["control"]) {kk_references : Nat} {c_references : Fn} (h_references : FnAt P w K mg base "references" kk_references 2 c_references) (k_references : kk_references ≤ k) :
    FnAt P w K mg base "control_references" (k + 1) 1 (mFn0 1 (b_control_references c_references)) :=
  fnAt Dd sc_control_references fun f cdv A outer s H E hr => ⟨_, (pss_one (ps_ret (pe_callA h_references (hr.mono k_references) (by rfl) (pa_cons pe_str (pa_cons (pv 0) pa_nil))))),
    (ls_ret (le_call0 (la_cons (le_c fun _ _ => rfl) (la_cons le_var la_nil)) (len_cons (len_cons len_nil))))⟩
/-! ### _law_is_integer -/
abbrev s__law_is_integer : Stmt := topS 12
theorem sc__law_is_integer : FnScope ["actual"] ["actual"] (defScope s__law_is_integer) := ⟨rfl, rfl, rfl, by decide +kernel, rfl, by decide +kernel, by decide +kernel⟩
noncomputable def b__law_is_integer : MS :=
    (mRet (fAndV (fArgs cIsi (fCons (fVar 0) (fCons (fC (.vv (.ty "int"))) fNil))) (fNotV (fArgs cIsi (fCons (fVar 0) (fCons (fC (.vv (.ty "bool"))) fNil))))))
theorem ok__law_is_integer {P : Program} {w : World} {K : PySem.W.Frag} {mg : Str → Option Value} {base : Heap} {k : Nat} (M : Mods mg) (Dd : DefAt K mg "_law_is_integer" s__law_is_integer ["actual"]) :
    FnAt P w K mg base "_law_is_integer" (k + 1) 1 (mFn0 1 (b__law_is_integer)) :=
  fnAt Dd sc__law_is_integer fun f cdv A outer s H E hr => ⟨_, (pss_one (ps_ret (pe_and (pe_callB call_isi (by rfl) M.m_isinstance bb_isinstance (pa_cons (pv 0) (pa_cons (pe_bltn (v := .ty "int") (by rfl) M.m_int bb_int rfl) pa_nil))) (pe_one (pe_not (pe_callB call_isi (by rfl) M.m_isinstance bb_isinstance (pa_cons (pv 0) (pa_cons (pe_bltn (v := .ty "bool") (by rfl) M.m_bool bb_bool rfl) pa_nil)))))))),
    (ls_ret (le_andV (le_args (la_cons le_var (la_cons (le_c fun _ _ => rfl) la_nil)) cIsi_ok) (le_notV (le_args (la_cons le_var (la_cons (le_c fun _ _ => rfl) la_nil)) cIsi_ok))))⟩
/-! ### _law_cell -/
abbrev s__law_cell : Stmt := topS 13
theorem sc__law_cell : FnScope ["script", "k"] ["script", "k"] (defScope s__law_cell) := ⟨rfl, rfl, rfl, by decide +kernel, rfl, by decide +kernel, by decide +kernel⟩
noncomputable def b__law_cell : MS :=
    (mSeq (mIf (tVal (fBin (opCmp cLt) (fVar 1) (fArgs cLen (fCons (fVar 0) fNil))))
    (mRet (fBin opIx (fVar 0) (fVar 1)))
    mNil)
    (mRet (fC (.int 0))))
theorem ok__law_cell {P : Program} {w : World} {K : PySem.W.Frag} {mg : Str → Option Value} {base : Heap} {k : Nat} (M : Mods mg) (Dd : DefAt K mg "_law_cell" s__law_cell ["script", "k"]) :
    FnAt P w K mg base "_law_cell" (k + 1) 2 (mFn0 2 (b__law_cell)) :=
  fnAt Dd sc__law_cell fun f cdv A outer s H E hr => ⟨_, (pss_cons (ps_if (pt_cmpR op_lt (pv 1) (pe_callB call_lenQ (by rfl) M.m_len bb_len (pa_cons (pv 0) pa_nil)) (nomark _)) (pss_one (ps_ret (pe_ix ix_seq (pv 0) (pv 1) (fun _ _ => rfl)))) pss_nil) (pss_one (ps_ret pe_int))),
    (ls_seq (ls_if (lt_test (le_bin le_var (le_args (la_cons le_var la_nil) cLen_ok) opCmp_ok)) (ls_ret (le_bin le_var le_var opIx_ok)) ls_nil) (ls_ret (le_c fun _ _ => rfl)))⟩
/-! ### _law_list_is -/
abbrev s__law_list_is : Stmt := topS 14
theorem sc__law_list_is : FnScope ["actual", "due", "k"] ["actual", "due"] (defScope s__law_list_is) := ⟨rfl, rfl, rfl, by decide +kernel, rfl, by decide +kernel, by decide +kernel⟩
noncomputable def b__law_list_is (c__law_is_integer : Fn) : MS :=
    (mSeq (mIf (tOrF (tNotF (fTru (fArgs cIsi (fCons (fVar 0) (fCons (fC (.vv (.ty "list"))) fNil))))) (tVal (fBin opNe (fArgs cLen (fCons (fVar 0) fNil)) (fArgs cLen (fCons (fVar 1) fNil)))))
    (mRet (fC (.bl false)))
    mNil)
    (mSeq (mFor (fiRng1 (fCons (fArgs cLen (fCons (fVar 1) fNil)) fNil)) (gdName 2)
    (mIf (tOrF (tNotF (fTru (fCall0 c__law_is_integer (fCons (fBin opIx (fVar 0) (fVar 2)) fNil)))) (tVal (fBin opNe (fBin opIx (fVar 0) (fVar 2)) (fBin opIx (fVar 1) (fVar 2)))))
    (mRet (fC (.bl false)))
    mNil))
    (mRet (fC (.bl true)))))
theorem ok__law_list_is {P : Program} {w : World} {K : PySem.W.Frag} {mg : Str → Option Value} {base : Heap} {k : Nat} (M : Mods mg) (Dd : DefAt K mg "_law_list_is" s__law_list_is ["actual", "due"]) {kk__law_is_integer : Nat} {c__law_is_integer : Fn} (h__law_is_integer : FnAt P w K mg base "_law_is_integer" kk__law_is_integer 1 c__law_is_integer) (k__law_is_integer : kk__law_is_integer ≤ k) :
    FnAt P w K mg base "_law_list_is" (k + 1) 2 (mFn0 3 (b__law_list_is c__law_is_integer)) :=
  fnAt Dd sc__law_list_is fun f cdv A outer s H E hr => ⟨_, (pss_cons (ps_if (PW.pt (pw_or (pt_not (pt_tru (pe_callB call_isi (by rfl) M.m_isinstance bb_isinstance (pa_cons (pv 0) (pa_cons (pe_bltn (v := .ty "list") (by rfl) M.m_list bb_list rfl) pa_nil))))) (pw_or1 (pt_cmpR (op_neQ hr.units) (pe_callB call_lenQ (by rfl) M.m_len bb_len (pa_cons (pv 0) pa_nil)) (pe_callB call_lenQ (by rfl) M.m_len bb_len (pa_cons (pv 1) pa_nil)) (nomark _))))) (pss_one (ps_ret pe_bl)) pss_nil) (pss_cons (ps_for PassesOwn.never rfl (pi_range1 (by rfl) M.m_range (pa_cons (pe_callB call_lenQ (by rfl) M.m_len bb_len (pa_cons (pv 1) pa_nil)) pa_nil)) (pg_name (i := 2) sc__law_list_is.nd rfl (by first | exact .inl rfl | exact .inr rfl)) (pss_one (ps_if (PW.pt (pw_or (pt_not (pt_tru (pe_callA h__law_is_integer (hr.mono k__law_is_integer) (by rfl) (pa_cons (pe_ix ix_seq (pv 0) (pv 2) (fun _ _ => rfl)) pa_nil)))) (pw_or1 (pt_cmpR (op_neQ hr.units) (pe_ix ix_seq (pv 0) (pv 2) (fun _ _ => rfl)) (pe_ix ix_seq (pv 1) (pv 2) (fun _ _ => rfl)) (nomark _))))) (pss_one (ps_ret pe_bl)) pss_nil))) (pss_one (ps_ret pe_bl)))),
    (ls_seq (ls_if (lt_or (lt_not (lt_tru (le_args (la_cons le_var (la_cons (le_c fun _ _ => rfl) la_nil)) cIsi_ok))) (lt_test (le_bin (le_args (la_cons le_var la_nil) cLen_ok) (le_args (la_cons le_var la_nil) cLen_ok) opNe_ok))) (ls_ret (le_c fun _ _ => rfl)) ls_nil) (ls_seq (ls_for (li_rng1 (la_cons (le_args (la_cons le_var la_nil) cLen_ok) la_nil)) lg_name (ls_if (lt_or (lt_not (lt_tru (le_call0 (la_cons (le_bin le_var le_var opIx_ok) la_nil) (len_cons len_nil)))) (lt_test (le_bin (le_bin le_var le_var opIx_ok) (le_bin le_var le_var opIx_ok) opNe_ok))) (ls_ret (le_c fun _ _ => rfl)) ls_nil)) (ls_ret (le_c fun _ _ => rfl))))⟩
/-! ### _law_same -/
abbrev s__law_same : Stmt := topS 15
theorem sc__law_same : FnScope ["actual", "due", "k"] ["actual", "due"] (defScope s__law_same) := ⟨rfl, rfl, rfl, by decide +kernel, rfl, by decide +kernel, by decide +kernel⟩
noncomputable def b__law_same (c__law_same : Fn) (c__law_is_integer : Fn) : MS :=
    (mSeq (mIf (fTru (fArgs cIsi (fCons (fVar 1) (fCons (fC (.vv (.ty "tuple"))) fNil))))
    (mSeq (mIf (tOrF (tNotF (fTru (fArgs cIsi (fCons (fVar 0) (fCons (fC (.vv (.ty "tuple"))) fNil))))) (tVal (fBin opNe (fArgs cLen (fCons (fVar 0) fNil)) (fArgs cLen (fCons (fVar 1) fNil)))))
    (mRet (fC (.bl false)))
    mNil)
    (mSeq (mFor (fiRng1 (fCons (fArgs cLen (fCons (fVar 1) fNil)) fNil)) (gdName 2)
    (mIf (tNotF (fTru (fCall0 c__law_same (fCons (fBin opIx (fVar 0) (fVar 2)) (fCons (fBin opIx (fVar 1) (fVar 2)) fNil)))))
    (mRet (fC (.bl false)))
    mNil))
    (mRet (fC (.bl true)))))
    mNil)
    (mSeq (mIf (fTru (fArgs cIsi (fCons (fVar 1) (fCons (fC (.vv (.ty "bool"))) fNil))))
    (mRet (fAndV (fArgs cIsi (fCons (fVar 0) (fCons (fC (.vv (.ty "bool"))) fNil))) (fBin opEq (fVar 0) (fVar 1))))
    mNil)
    (mSeq (mIf (fTru (fArgs cIsi (fCons (fVar 1) (fCons (fC (.vv (.ty "int"))) fNil))))
    (mRet (fAndV (fCall0 c__law_is_integer (fCons (fVar 0) fNil)) (fBin opEq (fVar 0) (fVar 1))))
    mNil)
    (mRet (fAndV (fArgs cIsi (fCons (fVar 0) (fCons (fC (.vv (.ty "str"))) fNil))) (fBin opEq (fVar 0) (fVar 1)))))))
theorem ok__law_same {P : Program} {w : World} {K : PySem.W.Frag} {mg : Str → Option Value} {base : Heap} {k : Nat} (M : Mods mg) (Dd : DefAt K mg "_law_same" s__law_same ["actual", "due"]) {kk__law_same : Nat} {c__law_same : Fn} (h__law_same : FnAt P w K mg base "_law_same" kk__law_same 2 c__law_same) (k__law_same : kk__law_same ≤ k) {kk__law_is_integer : Nat} {c__law_is_integer : Fn} (h__law_is_integer : FnAt P w K mg base "_law_is_integer" kk__law_is_integer 1 c__law_is_integer) (k__law_is_integer : kk__law_is_integer ≤ k) :
    FnAt P w K mg base "_law_same" (k + 1) 2 (mFn0 3 (b__law_same c__law_same c__law_is_integer)) :=
  fnAt Dd sc__law_same fun f cdv A outer s H E hr => ⟨_, (pss_cons (ps_if (pt_tru (pe_callB call_isi (by rfl) M.m_isinstance bb_isinstance (pa_cons (pv 1) (pa_cons (pe_bltn (v := .ty "tuple") (by rfl) M.m_tuple bb_tuple rfl) pa_nil)))) (pss_cons (ps_if (PW.pt (pw_or (pt_not (pt_tru (pe_callB call_isi (by rfl) M.m_isinstance bb_isinstance (pa_cons (pv 0) (pa_cons (pe_bltn (v := .ty "tuple") (by rfl) M.m_tuple bb_tuple rfl) pa_nil))))) (pw_or1 (pt_cmpR (op_neQ hr.units) (pe_callB call_lenQ (by rfl) M.m_len bb_len (pa_cons (pv 0) pa_nil)) (pe_callB call_lenQ (by rfl) M.m_len bb_len (pa_cons (pv 1) pa_nil)) (nomark _))))) (pss_one (ps_ret pe_bl)) pss_nil) (pss_cons (ps_for PassesOwn.never rfl (pi_range1 (by rfl) M.m_range (pa_cons (pe_callB call_lenQ (by rfl) M.m_len bb_len (pa_cons (pv 1) pa_nil)) pa_nil)) (pg_name (i := 2) sc__law_same.nd rfl (by first | exact .inl rfl | exact .inr rfl)) (pss_one (ps_if (pt_not (pt_tru (pe_callA h__law_same (hr.mono k__law_same) (by rfl) (pa_cons (pe_ix ix_seq (pv 0) (pv 2) (fun _ _ => rfl)) (pa_cons (pe_ix ix_seq (pv 1) (pv 2) (fun _ _ => rfl)) pa_nil))))) (pss_one (ps_ret pe_bl)) pss_nil))) (pss_one (ps_ret pe_bl)))) pss_nil) (pss_cons (ps_if (pt_tru (pe_callB call_isi (by rfl) M.m_isinstance bb_isinstance (pa_cons (pv 1) (pa_cons (pe_bltn (v := .ty "bool") (by rfl) M.m_bool bb_bool rfl) pa_nil)))) (pss_one (ps_ret (pe_and (pe_callB call_isi (by rfl) M.m_isinstance bb_isinstance (pa_cons (pv 0) (pa_cons (pe_bltn (v := .ty "bool") (by rfl) M.m_bool bb_bool rfl) pa_nil))) (pe_one (pe_cmpR (op_eqQ hr.units) (pv 0) (pv 1) (nomark _)))))) pss_nil) (pss_cons (ps_if (pt_tru (pe_callB call_isi (by rfl) M.m_isinstance bb_isinstance (pa_cons (pv 1) (pa_cons (pe_bltn (v := .ty "int") (by rfl) M.m_int bb_int rfl) pa_nil)))) (pss_one (ps_ret (pe_and (pe_callA h__law_is_integer (hr.mono k__law_is_integer) (by rfl) (pa_cons (pv 0) pa_nil)) (pe_one (pe_cmpR (op_eqQ hr.units) (pv 0) (pv 1) (nomark _)))))) pss_nil) (pss_one (ps_ret (pe_and (pe_callB call_isi (by rfl) M.m_isinstance bb_isinstance (pa_cons (pv 0) (pa_cons (pe_bltn (v := .ty "str") (by rfl) M.m_str bb_str rfl) pa_nil))) (pe_one (pe_cmpR (op_eqQ hr.units) (pv 0) (pv 1) (nomark _))))))))),
    (ls_seq (ls_if (lt_tru (le_args (la_cons le_var (la_cons (le_c fun _ _ => rfl) la_nil)) cIsi_ok)) (ls_seq (ls_if (lt_or (lt_not (lt_tru (le_args (la_cons le_var (la_cons (le_c fun _ _ => rfl) la_nil)) cIsi_ok))) (lt_test (le_bin (le_args (la_cons le_var la_nil) cLen_ok) (le_args (la_cons le_var la_nil) cLen_ok) opNe_ok))) (ls_ret (le_c fun _ _ => rfl)) ls_nil) (ls_seq (ls_for (li_rng1 (la_cons (le_args (la_cons le_var la_nil) cLen_ok) la_nil)) lg_name (ls_if (lt_not (lt_tru (le_call0 (la_cons (le_bin le_var le_var opIx_ok) (la_cons (le_bin le_var le_var opIx_ok) la_nil)) (len_cons (len_cons len_nil))))) (ls_ret (le_c fun _ _ => rfl)) ls_nil)) (ls_ret (le_c fun _ _ => rfl)))) ls_nil) (ls_seq (ls_if (lt_tru (le_args (la_cons le_var (la_cons (le_c fun _ _ => rfl) la_nil)) cIsi_ok)) (ls_ret (le_andV (le_args (la_cons le_var (la_cons (le_c fun _ _ => rfl) la_nil)) cIsi_ok) (le_bin le_var le_var opEq_ok))) ls_nil) (ls_seq (ls_if (lt_tru (le_args (la_cons le_var (la_cons (le_c fun _ _ => rfl) la_nil)) cIsi_ok)) (ls_ret (le_andV (le_call0 (la_cons le_var la_nil) (len_cons len_nil)) (le_bin le_var le_var opEq_ok))) ls_nil) (ls_ret (le_andV (le_args (la_cons le_var (la_cons (le_c fun _ _ => rfl) la_nil)) cIsi_ok) (le_bin le_var le_var opEq_ok))))))⟩
/-! ### _law_pair_is -/
abbrev s__law_pair_is : Stmt := topS 16
theorem sc__law_pair_is : FnScope ["actual", "thing", "index"] ["actual", "thing", "index"] (defScope s__law_pair_is) := ⟨rfl, rfl, rfl, by decide +kernel, rfl, by decide +kernel, by decide +kernel⟩
noncomputable def b__law_pair_is (c__law_same : Fn) (c__law_is_integer : Fn) : MS :=
    (mSeq (mIf (tOrF (tNotF (fTru (fArgs cIsi (fCons (fVar 0) (fCons (fC (.vv (.ty "tuple"))) fNil))))) (tVal (fBin opNe (fArgs cLen (fCons (fVar 0) fNil)) (fC (.int 2)))))
    (mRet (fC (.bl false)))
    mNil)
    (mRet (fAndV (fCall0 c__law_same (fCons (fBin opIx (fVar 0) (fC (.int 0))) (fCons (fVar 1) fNil))) (fAndV (fCall0 c__law_is_integer (fCons (fBin opIx (fVar 0) (fC (.int 1))) fNil)) (fBin opEq (fBin opIx (fVar 0) (fC (.int 1))) (fVar 2))))))
theorem ok__law_pair_is {P : Program} {w : World} {K : PySem.W.Frag} {mg : Str → Option Value} {base : Heap} {k : Nat} (M : Mods mg) (Dd : DefAt K mg "_law_pair_is" s__law_pair_is ["actual", "thing", "index"]) {kk__law_same : Nat} {c__law_same : Fn} (h__law_same : FnAt P w K mg base "_law_same" kk__law_same 2 c__law_same) (k__law_same : kk__law_same ≤ k) {kk__law_is_integer : Nat} {c__law_is_integer : Fn} (h__law_is_integer : FnAt P w K mg base "_law_is_integer" kk__law_is_integer 1 c__law_is_integer) (k__law_is_integer : kk__law_is_integer ≤ k) :
    FnAt P w K mg base "_law_pair_is" (k + 1) 3 (mFn0 3 (b__law_pair_is c__law_same c__law_is_integer)) :=
  fnAt Dd sc__law_pair_is fun f cdv A outer s H E hr => ⟨_, (pss_cons (ps_if (PW.pt (pw_or (pt_not (pt_tru (pe_callB call_isi (by rfl) M.m_isinstance bb_isinstance (pa_cons (pv 0) (pa_cons (pe_bltn (v := .ty "tuple") (by rfl) M.m_tuple bb_tuple rfl) pa_nil))))) (pw_or1 (pt_cmpR (op_neQ hr.units) (pe_callB call_lenQ (by rfl) M.m_len bb_len (pa_cons (pv 0) pa_nil)) pe_int (nomark _))))) (pss_one (ps_ret pe_bl)) pss_nil) (pss_one (ps_ret (pe_and (pe_callA h__law_same (hr.mono k__law_same) (by rfl) (pa_cons (pe_ix ix_seq (pv 0) pe_int (fun _ _ => rfl)) (pa_cons (pv 1) pa_nil))) (pe_and (pe_callA h__law_is_integer (hr.mono k__law_is_integer) (by rfl) (pa_cons (pe_ix ix_seq (pv 0) pe_int (fun _ _ => rfl)) pa_nil)) (pe_one (pe_cmpR (op_eqQ hr.units) (pe_ix ix_seq (pv 0) pe_int (fun _ _ => rfl)) (pv 2) (nomark _)))))))),
    (ls_seq (ls_if (lt_or (lt_not (lt_tru (le_args (la_cons le_var (la_cons (le_c fun _ _ => rfl) la_nil)) cIsi_ok))) (lt_test (le_bin (le_args (la_cons le_var la_nil) cLen_ok) (le_c fun _ _ => rfl) opNe_ok))) (ls_ret (le_c fun _ _ => rfl)) ls_nil) (ls_ret (le_andV (le_call0 (la_cons (le_bin le_var (le_c fun _ _ => rfl) opIx_ok) (la_cons le_var la_nil)) (len_cons (len_cons len_nil))) (le_andV (le_call0 (la_cons (le_bin le_var (le_c fun _ _ => rfl) opIx_ok) la_nil) (len_cons len_nil)) (le_bin (le_bin le_var (le_c fun _ _ => rfl) opIx_ok) le_var opEq_ok)))))⟩
/-! ### _law_digits -/
abbrev s__law_digits : Stmt := topS 17
theorem sc__law_digits : FnScope ["script", "first", "last", "digits", "k", "cell", "turn", "seed"] ["script", "first", "last"] (defScope s__law_digits) := ⟨rfl, rfl, rfl, by decide +kernel, rfl, by decide +kernel, by decide +kernel⟩
noncomputable def b__law_digits (c__law_cell : Fn) : MS :=
    (mSeq (mSet 3 (fMat (fLst fNil)))
    (mSeq (mFor (fiRng2 (fCons (fVar 1) (fCons (fVar 2) fNil))) (gdName 4)
    (mSeq (mSet 5 (fCall0 c__law_cell (fCons (fVar 0) (fCons (fVar 4) fNil))))
    (mSeq (mIf (tVal (fBin (opCmp cLt) (fVar 5) (fC (.int 0))))
    (mSet 5 (fBin opSub (fC (.int 1)) (fBin opMul (fC (.int 2)) (fVar 5))))
    mNil)
    (mIf (tVal (fBin (opCmp cGe) (fVar 5) (fBin opPow (fC (.int 10)) (fC (.int 18)))))
    (mFor (fiRng1 (fCons (fC (.int 60)) fNil)) (gdName 6)
    (mIf (tVal (fBin (opCmp cGt) (fVar 5) (fC (.int 0))))
    (mSeq (mExpr (fBML opAppend (fVar 3) (fCons (fBin opMod (fArgs cInt (fCons (fVar 5) fNil)) (fC (.int 1000))) fNil)))
    (mSet 5 (fBin opFdiv (fVar 5) (fC (.int 1000)))))
    mNil))
    (mSeq (mSet 7 (fBin opMod (fArgs cInt (fCons (fBin opAdd (fBin opAdd (fBin opMul (fVar 5) (fC (.int 48271))) (fBin opMul (fVar 4) (fC (.int 69621)))) (fC (.int 11))) fNil)) (fC (.int 2147483647))))
    (mFor (fiRng1 (fCons (fC (.int 12)) fNil)) (gdName 6)
    (mSeq (mSet 7 (fBin opMod (fArgs cInt (fCons (fBin opAdd (fBin opAdd (fBin opMul (fVar 7) (fC (.int 16807))) (fBin opMul (fC (.int 7)) (fVar 6))) (fC (.int 1))) fNil)) (fC (.int 2147483647))))
    (mExpr (fBML opAppend (fVar 3) (fCons (fBin opMod (fArgs cInt (fCons (fBin opFdiv (fVar 7) (fC (.int 997))) fNil)) (fC (.int 1000))) fNil))))))))))
    (mRet (fVar 3))))
theorem ok__law_digits {P : Program} {w : World} {K : PySem.W.Frag} {mg : Str → Option Value} {base : Heap} {k : Nat} (M : Mods mg) (Dd : DefAt K mg "_law_digits" s__law_digits ["script", "first", "last"]) {kk__law_cell : Nat} {c__law_cell : Fn} (h__law_cell : FnAt P w K mg base "_law_cell" kk__law_cell 2 c__law_cell) (k__law_cell : kk__law_cell ≤ k) :
    FnAt P w K mg base "_law_digits" (k + 1) 3 (mFn0 8 (b__law_digits c__law_cell)) :=
  fnAt Dd sc__law_digits fun f cdv A outer s H E hr => ⟨_, (pss_cons (ps_set (i := 3) sc__law_digits.nd rfl (by first | exact .inl rfl | exact .inr rfl) (pe_lst pa_nil)) (pss_cons (ps_for PassesOwn.never rfl (pi_range2 (by rfl) M.m_range (pa_cons (pv 1) (pa_cons (pv 2) pa_nil))) (pg_name (i := 4) sc__law_digits.nd rfl (by first | exact .inl rfl | exact .inr rfl)) (pss_cons (ps_set (i := 5) sc__law_digits.nd rfl (by first | exact .inl rfl | exact .inr rfl) (pe_callA h__law_cell (hr.mono k__law_cell) (by rfl) (pa_cons (pv 0) (pa_cons (pv 4) pa_nil)))) (pss_cons (ps_if (pt_cmpR op_lt (pv 5) pe_int (nomark _)) (pss_one (ps_set (i := 5) sc__law_digits.nd rfl (by first | exact .inl rfl | exact .inr rfl) (pe_op op_sub pe_int (pe_op op_mulQ pe_int (pv 5))))) pss_nil) (pss_one (ps_if (pt_cmpR op_ge (pv 5) (pe_op op_powB pe_int pe_int) (nomark _)) (pss_one (ps_for PassesOwn.never rfl (pi_range1 (by rfl) M.m_range (pa_cons pe_int pa_nil)) (pg_name (i := 6) sc__law_digits.nd rfl (by first | exact .inl rfl | exact .inr rfl)) (pss_one (ps_if (pt_cmpR op_gt (pv 5) pe_int (nomark _)) (pss_cons (ps_expr (pe_bm PySem.F.plainAttrs_list PySem.F.slot_list_append PySem.F.type_list_append mt_append (pv 3) (pa_cons (pe_op op_mod (pe_callTy call_int1 (by rfl) M.m_int bb_int (pa_cons (pv 5) pa_nil)) pe_int) pa_nil))) (pss_one (ps_set (i := 5) sc__law_digits.nd rfl (by first | exact .inl rfl | exact .inr rfl) (pe_op op_fdiv (pv 5) pe_int)))) pss_nil)))) (pss_cons (ps_set (i := 7) sc__law_digits.nd rfl (by first | exact .inl rfl | exact .inr rfl) (pe_op op_mod (pe_callTy call_int1 (by rfl) M.m_int bb_int (pa_cons (pe_op op_addQ (pe_op op_addQ (pe_op op_mulQ (pv 5) pe_int) (pe_op op_mulQ (pv 4) pe_int)) pe_int) pa_nil)) pe_int)) (pss_one (ps_for PassesOwn.never rfl (pi_range1 (by rfl) M.m_range (pa_cons pe_int pa_nil)) (pg_name (i := 6) sc__law_digits.nd rfl (by first | exact .inl rfl | exact .inr rfl)) (pss_cons (ps_set (i := 7) sc__law_digits.nd rfl (by first | exact .inl rfl | exact .inr rfl) (pe_op op_mod (pe_callTy call_int1 (by rfl) M.m_int bb_int (pa_cons (pe_op op_addQ (pe_op op_addQ (pe_op op_mulQ (pv 7) pe_int) (pe_op op_mulQ pe_int (pv 6))) pe_int) pa_nil)) pe_int)) (pss_one (ps_expr (pe_bm PySem.F.plainAttrs_list PySem.F.slot_list_append PySem.F.type_list_append mt_append (pv 3) (pa_cons (pe_op op_mod (pe_callTy call_int1 (by rfl) M.m_int bb_int (pa_cons (pe_op op_fdiv (pv 7) pe_int) pa_nil)) pe_int) pa_nil))))))))))))) (pss_one (ps_ret (pv 3))))),
    (ls_seq (ls_set (le_mat (le_lst la_nil len_nil (by decide : 0 ≤ sizeLine)))) (ls_seq (ls_for (li_rng2 (la_cons le_var (la_cons le_var la_nil))) lg_name (ls_seq (ls_set (le_call0 (la_cons le_var (la_cons le_var la_nil)) (len_cons (len_cons len_nil)))) (ls_seq (ls_if (lt_test (le_bin le_var (le_c fun _ _ => rfl) opCmp_ok)) (ls_set (le_bin (le_c fun _ _ => rfl) (le_bin (le_c fun _ _ => rfl) le_var opMul_ok) opSub_ok)) ls_nil) (ls_if (lt_test (le_bin le_var (le_bin (le_c fun _ _ => rfl) (le_c fun _ _ => rfl) opPow_ok) opCmp_ok)) (ls_for (li_rng1 (la_cons (le_c fun _ _ => rfl) la_nil)) lg_name (ls_if (lt_test (le_bin le_var (le_c fun _ _ => rfl) opCmp_ok)) (ls_seq (ls_expr (le_bml le_var (la_cons (le_bin (le_args (la_cons le_var la_nil) cInt_ok) (le_c fun _ _ => rfl) opMod_ok) la_nil) opAppend_ok)) (ls_set (le_bin le_var (le_c fun _ _ => rfl) opFdiv_ok))) ls_nil)) (ls_seq (ls_set (le_bin (le_args (la_cons (le_bin (le_bin (le_bin le_var (le_c fun _ _ => rfl) opMul_ok) (le_bin le_var (le_c fun _ _ => rfl) opMul_ok) opAdd_ok) (le_c fun _ _ => rfl) opAdd_ok) la_nil) cInt_ok) (le_c fun _ _ => rfl) opMod_ok)) (ls_for (li_rng1 (la_cons (le_c fun _ _ => rfl) la_nil)) lg_name (ls_seq (ls_set (le_bin (le_args (la_cons (le_bin (le_bin (le_bin le_var (le_c fun _ _ => rfl) opMul_ok) (le_bin (le_c fun _ _ => rfl) le_var opMul_ok) opAdd_ok) (le_c fun _ _ => rfl) opAdd_ok) la_nil) cInt_ok) (le_c fun _ _ => rfl) opMod_ok)) (ls_expr (le_bml le_var (la_cons (le_bin (le_args (la_cons (le_bin le_var (le_c fun _ _ => rfl) opFdiv_ok) la_nil) cInt_ok) (le_c fun _ _ => rfl) opMod_ok) la_nil) opAppend_ok))))))))) (ls_ret le_var)))⟩
/-! ### _law_draw -/
abbrev s__law_draw : Stmt := topS 18
theorem sc__law_draw : FnScope ["box", "many", "at"] ["box", "many"] (defScope s__law_draw) := ⟨rfl, rfl, rfl, by decide +kernel, rfl, by decide +kernel, by decide +kernel⟩
noncomputable def b__law_draw : MS :=
    (mSeq (mSet 2 (fBin opIx (fVar 0) (fC (.int 1))))
    (mSeq (mSetIx (fBin opAdd (fVar 2) (fC (.int 1))) (fVar 0) (fC (.int 1)))
    (mSeq (mIf (tVal (fBin (opCmp cLt) (fVar 2) (fArgs cLen (fCons (fBin opIx (fVar 0) (fC (.int 0))) fNil))))
    (mRet (fBin opMod (fArgs cInt (fCons (fBin opIx (fBin opIx (fVar 0) (fC (.int 0))) (fVar 2)) fNil)) (fVar 1)))
    mNil)
    (mRet (fBin opMod (fArgs cInt (fCons (fBin opAdd (fBin opMul (fVar 2) (fC (.int 7))) (fC (.int 3))) fNil)) (fVar 1))))))
theorem ok__law_draw {P : Program} {w : World} {K : PySem.W.Frag} {mg : Str → Option Value} {base : Heap} {k : Nat} (M : Mods mg) (Dd : DefAt K mg "_law_draw" s__law_draw ["box", "many"]) :
    FnAt P w K mg base "_law_draw" (k + 1) 2 (mFn0 3 (b__law_draw)) :=
  fnAt Dd sc__law_draw fun f cdv A outer s H E hr => ⟨_, (pss_cons (ps_set (i := 2) sc__law_draw.nd rfl (by first | exact .inl rfl | exact .inr rfl) (pe_ix ix_seq (pv 0) pe_int (fun _ _ => rfl))) (pss_cons (ps_asg (pe_op op_addQ (pv 2) pe_int) (pg_sub (pv 0) pe_int set_list)) (pss_cons (ps_if (pt_cmpR op_lt (pv 2) (pe_callB call_lenQ (by rfl) M.m_len bb_len (pa_cons (pe_ix ix_seq (pv 0) pe_int (fun _ _ => rfl)) pa_nil)) (nomark _)) (pss_one (ps_ret (pe_op op_mod (pe_callTy call_int1 (by rfl) M.m_int bb_int (pa_cons (pe_ix ix_seq (pe_ix ix_seq (pv 0) pe_int (fun _ _ => rfl)) (pv 2) (fun _ _ => rfl)) pa_nil)) (pv 1)))) pss_nil) (pss_one (ps_ret (pe_op op_mod (pe_callTy call_int1 (by rfl) M.m_int bb_int (pa_cons (pe_op op_addQ (pe_op op_mulQ (pv 2) pe_int) pe_int) pa_nil)) (pv 1))))))),
    (ls_seq (ls_set (le_bin le_var (le_c fun _ _ => rfl) opIx_ok)) (ls_seq (ls_setIx (le_bin le_var (le_c fun _ _ => rfl) opAdd_ok) le_var (le_c fun _ _ => rfl)) (ls_seq (ls_if (lt_test (le_bin le_var (le_args (la_cons (le_bin le_var (le_c fun _ _ => rfl) opIx_ok) la_nil) cLen_ok) opCmp_ok)) (ls_ret (le_bin (le_args (la_cons (le_bin (le_bin le_var (le_c fun _ _ => rfl) opIx_ok) le_var opIx_ok) la_nil) cInt_ok) le_var opMod_ok)) ls_nil) (ls_ret (le_bin (le_args (la_cons (le_bin (le_bin le_var (le_c fun _ _ => rfl) opMul_ok) (le_c fun _ _ => rfl) opAdd_ok) la_nil) cInt_ok) le_var opMod_ok)))))⟩
/-! ### _law_signs -/
abbrev s__law_signs : Stmt := topS 19
theorem sc__law_signs : FnScope ["signs"] [] (defScope s__law_signs) := ⟨rfl, rfl, rfl, by decide +kernel, rfl, by decide +kernel, by decide +kernel⟩
noncomputable def b__law_signs : MS :=
    (mSeq (mSet 0 (fC (.str "\x0a !\"#$&'()*+,-./0123456789:;<=>?@ABCDEFGHIJKLMNOPQRSTUVWXYZ[\\]^_`")))
    (mRet (fBin opAdd (fVar 0) (fC (.str "abcdefghijklmnopqrstuvwxyz{|}~")))))
theorem ok__law_signs {P : Program} {w : World} {K : PySem.W.Frag} {mg : Str → Option Value} {base : Heap} {k : Nat} (M : Mods mg) (Dd : DefAt K mg "_law_signs" s__law_signs []) :
    FnAt P w K mg base "_law_signs" (k + 1) 0 (mFn0 1 (b__law_signs)) :=
  fnAt Dd sc__law_signs fun f cdv A outer s H E hr => ⟨_, (pss_cons (ps_set (i := 0) sc__law_signs.nd rfl (by first | exact .inl rfl | exact .inr rfl) pe_str) (pss_one (ps_ret (pe_op op_addQ (pv 0) pe_str)))),
    (ls_seq (ls_set (le_c fun _ _ => rfl)) (ls_ret (le_bin le_var (le_c fun _ _ => rfl) opAdd_ok)))⟩
/-! ### _law_text -/
abbrev s__law_text : Stmt := topS 20
theorem sc__law_text : FnScope ["box", "up", "signs", "size", "k"] ["box", "up"] (defScope s__law_text) := ⟨rfl, rfl, rfl, by decide +kernel, rfl, by decide +kernel, by decide +kernel⟩
noncomputable def b__law_text (c__law_signs : Fn) (c__law_draw : Fn) : MS :=
    (mSeq (mSet 2 (fCall0 c__law_signs fNil))
    (mSeq (mSet 3 (fCall0 c__law_draw (fCons (fVar 0) (fCons (fBin opAdd (fVar 1) (fC (.int 1))) fNil))))
    (mRet (fM1 opJoin (fC (.str "")) (fLc (fiRng1 (fCons (fVar 3) fNil)) (gdName 4) (fun _ st => .ok true st) (fBin opIx (fVar 2) (fCall0 c__law_draw (fCons (fVar 0) (fCons (fC (.int 95)) fNil)))) [4])))))
theorem ok__law_text {P : Program} {w : World} {K : PySem.W.Frag} {mg : Str → Option Value} {base : Heap} {k : Nat} (M : Mods mg) (Dd : DefAt K mg "_law_text" s__law_text ["box", "up"]) {kk__law_signs : Nat} {c__law_signs : Fn} (h__law_signs : FnAt P w K mg base "_law_signs" kk__law_signs 0 c__law_signs) (k__law_signs : kk__law_signs ≤ k) {kk__law_draw : Nat} {c__law_draw : Fn} (h__law_draw : FnAt P w K mg base "_law_draw" kk__law_draw 2 c__law_draw) (k__law_draw : kk__law_draw ≤ k) :
    FnAt P w K mg base "_law_text" (k + 1) 2 (mFn0 5 (b__law_text c__law_signs c__law_draw)) :=
  fnAt Dd sc__law_text fun f cdv A outer s H E hr => ⟨_, (pss_cons (ps_set (i := 2) sc__law_text.nd rfl (by first | exact .inl rfl | exact .inr rfl) (pe_callA0 h__law_signs (hr.mono k__law_signs) (by rfl))) (pss_cons (ps_set (i := 3) sc__law_text.nd rfl (by first | exact .inl rfl | exact .inr rfl) (pe_callA h__law_draw (hr.mono k__law_draw) (by rfl) (pa_cons (pv 0) (pa_cons (pe_op op_addQ (pv 1) pe_int) pa_nil)))) (pss_one (ps_ret (pe_join pe_str (pe_lc (own := [("k", 4)]) rfl sc__law_text.nd (pi_range1 (by rfl) M.m_range (pa_cons (pv 3) pa_nil)) (blkOk_by (N := ["box", "up", "signs", "size", "k"]) (sc := defScope s__law_text) (own := [("k", 4)]) (by decide +kernel)) (fun _ _ _ _ _ => (pg_name (i := 4) sc__law_text.nd rfl (by first | exact .inl rfl | exact .inr rfl))) (fun _ _ _ _ _ => pts_nil) (fun _ _ _ _ _ => (pe_ix ix_seq (pv 2) (pe_callA h__law_draw (hr.mono k__law_draw) (by rfl) (pa_cons (pv 0) (pa_cons pe_int pa_nil))) (fun _ _ => rfl))))))))),
    (ls_seq (ls_set (le_call0 la_nil len_nil)) (ls_seq (ls_set (le_call0 (la_cons le_var (la_cons (le_bin le_var (le_c fun _ _ => rfl) opAdd_ok) la_nil)) (len_cons (len_cons len_nil)))) (ls_ret (le_m1 (le_c fun _ _ => rfl) (le_lc (li_rng1 (la_cons le_var la_nil)) lg_name (by decide) lt_yes (le_bin le_var (le_call0 (la_cons le_var (la_cons (le_c fun _ _ => rfl) la_nil)) (len_cons (len_cons len_nil))) opIx_ok)) opJoin_ok))))⟩
/-! ### _law_name -/
abbrev s__law_name : Stmt := topS 21
theorem sc__law_name : FnScope ["box", "letters_v", "size", "k"] ["box"] (defScope s__law_name) := ⟨rfl, rfl, rfl, by decide +kernel, rfl, by decide +kernel, by decide +kernel⟩
noncomputable def b__law_name (c__law_draw : Fn) : MS :=
    (mSeq (mSet 1 (fC (.str "abcdefghijklmnopqrstuvwxyz_")))
    (mSeq (mSet 2 (fBin opAdd (fC (.int 1)) (fCall0 c__law_draw (fCons (fVar 0) (fCons (fC (.int 5)) fNil)))))
    (mRet (fM1 opJoin (fC (.str "")) (fLc (fiRng1 (fCons (fVar 2) fNil)) (gdName 3) (fun _ st => .ok true st) (fBin opIx (fVar 1) (fCall0 c__law_draw (fCons (fVar 0) (fCons (fC (.int 27)) fNil)))) [3])))))
theorem ok__law_name {P : Program} {w : World} {K : PySem.W.Frag} {mg : Str → Option Value} {base : Heap} {k : Nat} (M : Mods mg) (Dd : DefAt K mg "_law_name" s__law_name ["box"]) {kk__law_draw : Nat} {c__law_draw : Fn} (h__law_draw : FnAt P w K mg base "_law_draw" kk__law_draw 2 c__law_draw) (k__law_draw : kk__law_draw ≤ k) :
    FnAt P w K mg base "_law_name" (k + 1) 1 (mFn0 4 (b__law_name c__law_draw)) :=
  fnAt Dd sc__law_name fun f cdv A outer s H E hr => ⟨_, (pss_cons (ps_set (i := 1) sc__law_name.nd rfl (by first | exact .inl rfl | exact .inr rfl) pe_str) (pss_cons (ps_set (i := 2) sc__law_name.nd rfl (by first | exact .inl rfl | exact .inr rfl) (pe_op op_addQ pe_int (pe_callA h__law_draw (hr.mono k__law_draw) (by rfl) (pa_cons (pv 0) (pa_cons pe_int pa_nil))))) (pss_one (ps_ret (pe_join pe_str (pe_lc (own := [("k", 3)]) rfl sc__law_name.nd (pi_range1 (by rfl) M.m_range (pa_cons (pv 2) pa_nil)) (blkOk_by (N := ["box", "letters_v", "size", "k"]) (sc := defScope s__law_name) (own := [("k", 3)]) (by decide +kernel)) (fun _ _ _ _ _ => (pg_name (i := 3) sc__law_name.nd rfl (by first | exact .inl rfl | exact .inr rfl))) (fun _ _ _ _ _ => pts_nil) (fun _ _ _ _ _ => (pe_ix ix_seq (pv 1) (pe_callA h__law_draw (hr.mono k__law_draw) (by rfl) (pa_cons (pv 0) (pa_cons pe_int pa_nil))) (fun _ _ => rfl))))))))),
    (ls_seq (ls_set (le_c fun _ _ => rfl)) (ls_seq (ls_set (le_bin (le_c fun _ _ => rfl) (le_call0 (la_cons le_var (la_cons (le_c fun _ _ => rfl) la_nil)) (len_cons (len_cons len_nil))) opAdd_ok)) (ls_ret (le_m1 (le_c fun _ _ => rfl) (le_lc (li_rng1 (la_cons le_var la_nil)) lg_name (by decide) lt_yes (le_bin le_var (le_call0 (la_cons le_var (la_cons (le_c fun _ _ => rfl) la_nil)) (len_cons (len_cons len_nil))) opIx_ok)) opJoin_ok))))⟩
/-! ### _law_number -/
abbrev s__law_number : Stmt := topS 22
theorem sc__law_number : FnScope ["box", "bound", "kind", "number", "k"] ["box"] (defScope s__law_number) := ⟨rfl, rfl, rfl, by decide +kernel, rfl, by decide +kernel, by decide +kernel⟩
noncomputable def b__law_number (c__law_draw : Fn) : MS :=
    (mSeq (mSet 1 (fBin opPow (fBin opPow (fC (.int 2)) (fC (.int 64))) (fC (.int 4))))
    (mSeq (mSet 2 (fCall0 c__law_draw (fCons (fVar 0) (fCons (fC (.int 8)) fNil))))
    (mSeq (mSet 3 (fCall0 c__law_draw (fCons (fVar 0) (fCons (fC (.int 300)) fNil))))
    (mSeq (mIf (tVal (fBin opEq (fVar 2) (fC (.int 0))))
    (mSet 3 (fBin opSub (fBin opSub (fVar 1) (fC (.int 1))) (fVar 3)))
    (mIf (tVal (fBin opEq (fVar 2) (fC (.int 1))))
    (mFor (fiRng1 (fCons (fCall0 c__law_draw (fCons (fVar 0) (fCons (fC (.int 24)) fNil))) fNil)) (gdName 4)
    (mSet 3 (fBin opMod (fArgs cInt (fCons (fBin opAdd (fBin opMul (fVar 3) (fC (.int 1000))) (fCall0 c__law_draw (fCons (fVar 0) (fCons (fC (.int 1000)) fNil)))) fNil)) (fVar 1))))
    (mIf (tVal (fBin opEq (fVar 2) (fC (.int 2))))
    (mSet 3 (fBin opIx (fLst (fCons (fC (.int 0)) (fCons (fC (.int 1)) (fCons (fC (.int 63)) (fCons (fC (.int 64)) (fCons (fC (.int 127)) (fCons (fC (.int 128)) (fCons (fC (.int 8191)) (fCons (fC (.int 8192)) fNil))))))))) (fCall0 c__law_draw (fCons (fVar 0) (fCons (fC (.int 8)) fNil)))))
    mNil)))
    (mSeq (mIf (tVal (fBin opEq (fCall0 c__law_draw (fCons (fVar 0) (fCons (fC (.int 2)) fNil))) (fC (.int 1))))
    (mRet (fUn unNeg (fVar 3)))
    mNil)
    (mRet (fVar 3)))))))
theorem ok__law_number {P : Program} {w : World} {K : PySem.W.Frag} {mg : Str → Option Value} {base : Heap} {k : Nat} (M : Mods mg) (Dd : DefAt K mg "_law_number" s__law_number ["box"]) {kk__law_draw : Nat} {c__law_draw : Fn} (h__law_draw : FnAt P w K mg base "_law_draw" kk__law_draw 2 c__law_draw) (k__law_draw : kk__law_draw ≤ k) :
    FnAt P w K mg base "_law_number" (k + 1) 1 (mFn0 5 (b__law_number c__law_draw)) :=
  fnAt Dd sc__law_number fun f cdv A outer s H E hr => ⟨_, (pss_cons (ps_set (i := 1) sc__law_number.nd rfl (by first | exact .inl rfl | exact .inr rfl) (pe_op op_powB (pe_op op_powB pe_int pe_int) pe_int)) (pss_cons (ps_set (i := 2) sc__law_number.nd rfl (by first | exact .inl rfl | exact .inr rfl) (pe_callA h__law_draw (hr.mono k__law_draw) (by rfl) (pa_cons (pv 0) (pa_cons pe_int pa_nil)))) (pss_cons (ps_set (i := 3) sc__law_number.nd rfl (by first | exact .inl rfl | exact .inr rfl) (pe_callA h__law_draw (hr.mono k__law_draw) (by rfl) (pa_cons (pv 0) (pa_cons pe_int pa_nil)))) (pss_cons (ps_if (pt_cmpR (op_eqQ hr.units) (pv 2) pe_int (nomark _)) (pss_one (ps_set (i := 3) sc__law_number.nd rfl (by first | exact .inl rfl | exact .inr rfl) (pe_op op_sub (pe_op op_sub (pv 1) pe_int) (pv 3)))) (pss_one (ps_if (pt_cmpR (op_eqQ hr.units) (pv 2) pe_int (nomark _)) (pss_one (ps_for PassesOwn.never rfl (pi_range1 (by rfl) M.m_range (pa_cons (pe_callA h__law_draw (hr.mono k__law_draw) (by rfl) (pa_cons (pv 0) (pa_cons pe_int pa_nil))) pa_nil)) (pg_name (i := 4) sc__law_number.nd rfl (by first | exact .inl rfl | exact .inr rfl)) (pss_one (ps_set (i := 3) sc__law_number.nd rfl (by first | exact .inl rfl | exact .inr rfl) (pe_op op_mod (pe_callTy call_int1 (by rfl) M.m_int bb_int (pa_cons (pe_op op_addQ (pe_op op_mulQ (pv 3) pe_int) (pe_callA h__law_draw (hr.mono k__law_draw) (by rfl) (pa_cons (pv 0) (pa_cons pe_int pa_nil)))) pa_nil)) (pv 1)))))) (pss_one (ps_if (pt_cmpR (op_eqQ hr.units) (pv 2) pe_int (nomark _)) (pss_one (ps_set (i := 3) sc__law_number.nd rfl (by first | exact .inl rfl | exact .inr rfl) (pe_ix ix_seq (pe_lst (pa_cons pe_int (pa_cons pe_int (pa_cons pe_int (pa_cons pe_int (pa_cons pe_int (pa_cons pe_int (pa_cons pe_int (pa_cons pe_int pa_nil))))))))) (pe_callA h__law_draw (hr.mono k__law_draw) (by rfl) (pa_cons (pv 0) (pa_cons pe_int pa_nil))) (fun _ _ => rfl)))) pss_nil))))) (pss_cons (ps_if (pt_cmpR (op_eqQ hr.units) (pe_callA h__law_draw (hr.mono k__law_draw) (by rfl) (pa_cons (pv 0) (pa_cons pe_int pa_nil))) pe_int (nomark _)) (pss_one (ps_ret (pe_un un_neg (pv 3)))) pss_nil) (pss_one (ps_ret (pv 3)))))))),
    (ls_seq (ls_set (le_bin (le_bin (le_c fun _ _ => rfl) (le_c fun _ _ => rfl) opPow_ok) (le_c fun _ _ => rfl) opPow_ok)) (ls_seq (ls_set (le_call0 (la_cons le_var (la_cons (le_c fun _ _ => rfl) la_nil)) (len_cons (len_cons len_nil)))) (ls_seq (ls_set (le_call0 (la_cons le_var (la_cons (le_c fun _ _ => rfl) la_nil)) (len_cons (len_cons len_nil)))) (ls_seq (ls_if (lt_test (le_bin le_var (le_c fun _ _ => rfl) opEq_ok)) (ls_set (le_bin (le_bin le_var (le_c fun _ _ => rfl) opSub_ok) le_var opSub_ok)) (ls_if (lt_test (le_bin le_var (le_c fun _ _ => rfl) opEq_ok)) (ls_for (li_rng1 (la_cons (le_call0 (la_cons le_var (la_cons (le_c fun _ _ => rfl) la_nil)) (len_cons (len_cons len_nil))) la_nil)) lg_name (ls_set (le_bin (le_args (la_cons (le_bin (le_bin le_var (le_c fun _ _ => rfl) opMul_ok) (le_call0 (la_cons le_var (la_cons (le_c fun _ _ => rfl) la_nil)) (len_cons (len_cons len_nil))) opAdd_ok) la_nil) cInt_ok) le_var opMod_ok))) (ls_if (lt_test (le_bin le_var (le_c fun _ _ => rfl) opEq_ok)) (ls_set (le_bin (le_lst (la_cons (le_c fun _ _ => rfl) (la_cons (le_c fun _ _ => rfl) (la_cons (le_c fun _ _ => rfl) (la_cons (le_c fun _ _ => rfl) (la_cons (le_c fun _ _ => rfl) (la_cons (le_c fun _ _ => rfl) (la_cons (le_c fun _ _ => rfl) (la_cons (le_c fun _ _ => rfl) la_nil)))))))) (len_cons (len_cons (len_cons (len_cons (len_cons (len_cons (len_cons (len_cons len_nil)))))))) (by decide : 8 ≤ sizeLine)) (le_call0 (la_cons le_var (la_cons (le_c fun _ _ => rfl) la_nil)) (len_cons (len_cons len_nil))) opIx_ok)) ls_nil))) (ls_seq (ls_if (lt_test (le_bin (le_call0 (la_cons le_var (la_cons (le_c fun _ _ => rfl) la_nil)) (len_cons (len_cons len_nil))) (le_c fun _ _ => rfl) opEq_ok)) (ls_ret (le_un le_var unNeg_ok)) ls_nil) (ls_ret le_var))))))⟩
/-! ### _law_value -/
abbrev s__law_value : Stmt := topS 23
theorem sc__law_value : FnScope ["box", "many", "kind", "low"] ["box", "many"] (defScope s__law_value) := ⟨rfl, rfl, rfl, by decide +kernel, rfl, by decide +kernel, by decide +kernel⟩
noncomputable def b__law_value (c__law_draw : Fn) (c__law_number : Fn) (c__law_text : Fn) (c__law_name : Fn) : MS :=
    (mSeq (mSet 2 (fCall0 c__law_draw (fCons (fVar 0) (fCons (fC (.int 10)) fNil))))
    (mSeq (mIf (tVal (fBin opEq (fVar 2) (fC (.int 0))))
    (mRet (fTup (fCons (fC (.str "none")) fNil)))
    mNil)
    (mSeq (mIf (tVal (fBin opEq (fVar 2) (fC (.int 1))))
    (mRet (fTup (fCons (fC (.str "bool")) (fCons (fBin opEq (fCall0 c__law_draw (fCons (fVar 0) (fCons (fC (.int 2)) fNil))) (fC (.int 1))) fNil))))
    mNil)
    (mSeq (mIf (tVal (fBin opEq (fVar 2) (fC (.int 2))))
    (mRet (fTup (fCons (fC (.str "int")) (fCons (fCall0 c__law_number (fCons (fVar 0) fNil)) fNil))))
    mNil)
    (mSeq (mIf (tVal (fBin opEq (fVar 2) (fC (.int 3))))
    (mRet (fTup (fCons (fC (.str "text")) (fCons (fCall0 c__law_text (fCons (fVar 0) (fCons (fC (.int 12)) fNil))) fNil))))
    mNil)
    (mSeq (mIf (tVal (fBin opEq (fVar 2) (fC (.int 4))))
    (mSeq (mSet 3 (fCall0 c__law_number (fCons (fVar 0) fNil)))
    (mRet (fTup (fCons (fC (.str "span")) (fCons (fVar 3) (fCons (fBin opAdd (fVar 3) (fBin opMul (fCall0 c__law_draw (fCons (fVar 0) (fCons (fC (.int 3)) fNil))) (fArgs cInt (fCons (fBin (opCmp cLt) (fVar 3) (fBin opPow (fC (.int 10)) (fC (.int 20)))) fNil)))) fNil))))))
    mNil)
    (mSeq (mIf (tVal (fBin opEq (fVar 2) (fC (.int 5))))
    (mRet (fTup (fCons (fC (.str "built")) (fCons (fCall0 c__law_name (fCons (fVar 0) fNil)) fNil))))
    mNil)
    (mSeq (mIf (tVal (fBin opEq (fVar 2) (fC (.int 6))))
    (mRet (fTup (fCons (fC (.str "host")) (fCons (fCall0 c__law_name (fCons (fVar 0) fNil)) fNil))))
    mNil)
    (mRet (fTup (fCons (fC (.str "ref")) (fCons (fBin opMod (fArgs cInt (fCons (fBin opAdd (fBin opMul (fCall0 c__law_draw (fCons (fVar 0) (fCons (fC (.int 1000)) fNil))) (fC (.int 1000))) (fCall0 c__law_draw (fCons (fVar 0) (fCons (fC (.int 1000)) fNil)))) fNil)) (fVar 1)) fNil))))))))))))
theorem ok__law_value {P : Program} {w : World} {K : PySem.W.Frag} {mg : Str → Option Value} {base : Heap} {k : Nat} (M : Mods mg) (Dd : DefAt K mg "_law_value" s__law_value ["box", "many"]) {kk__law_draw : Nat} {c__law_draw : Fn} (h__law_draw : FnAt P w K mg base "_law_draw" kk__law_draw 2 c__law_draw) (k__law_draw : kk__law_draw ≤ k) {kk__law_number : Nat} {c__law_number : Fn} (h__law_number : FnAt P w K mg base "_law_number" kk__law_number 1 c__law_number) (k__law_number : kk__law_number ≤ k) {kk__law_text : Nat} {c__law_text : Fn} (h__law_text : FnAt P w K mg base "_law_text" kk__law_text 2 c__law_text) (k__law_text : kk__law_text ≤ k) {kk__law_name : Nat} {c__law_name : Fn} (h__law_name : FnAt P w K mg base "_law_name" kk__law_name 1 c__law_name) (k__law_name : kk__law_name ≤ k) :
    FnAt P w K mg base "_law_value" (k + 1) 2 (mFn0 4 (b__law_value c__law_draw c__law_number c__law_text c__law_name)) :=
  fnAt Dd sc__law_value fun f cdv A outer s H E hr => ⟨_, (pss_cons (ps_set (i := 2) sc__law_value.nd rfl (by first | exact .inl rfl | exact .inr rfl) (pe_callA h__law_draw (hr.mono k__law_draw) (by rfl) (pa_cons (pv 0) (pa_cons pe_int pa_nil)))) (pss_cons (ps_if (pt_cmpR (op_eqQ hr.units) (pv 2) pe_int (nomark _)) (pss_one (ps_ret (pe_tup (pa_cons pe_str pa_nil)))) pss_nil) (pss_cons (ps_if (pt_cmpR (op_eqQ hr.units) (pv 2) pe_int (nomark _)) (pss_one (ps_ret (pe_tup (pa_cons pe_str (pa_cons (pe_cmpR (op_eqQ hr.units) (pe_callA h__law_draw (hr.mono k__law_draw) (by rfl) (pa_cons (pv 0) (pa_cons pe_int pa_nil))) pe_int (nomark _)) pa_nil))))) pss_nil) (pss_cons (ps_if (pt_cmpR (op_eqQ hr.units) (pv 2) pe_int (nomark _)) (pss_one (ps_ret (pe_tup (pa_cons pe_str (pa_cons (pe_callA h__law_number (hr.mono k__law_number) (by rfl) (pa_cons (pv 0) pa_nil)) pa_nil))))) pss_nil) (pss_cons (ps_if (pt_cmpR (op_eqQ hr.units) (pv 2) pe_int (nomark _)) (pss_one (ps_ret (pe_tup (pa_cons pe_str (pa_cons (pe_callA h__law_text (hr.mono k__law_text) (by rfl) (pa_cons (pv 0) (pa_cons pe_int pa_nil))) pa_nil))))) pss_nil) (pss_cons (ps_if (pt_cmpR (op_eqQ hr.units) (pv 2) pe_int (nomark _)) (pss_cons (ps_set (i := 3) sc__law_value.nd rfl (by first | exact .inl rfl | exact .inr rfl) (pe_callA h__law_number (hr.mono k__law_number) (by rfl) (pa_cons (pv 0) pa_nil))) (pss_one (ps_ret (pe_tup (pa_cons pe_str (pa_cons (pv 3) (pa_cons (pe_op op_addQ (pv 3) (pe_op op_mulQ (pe_callA h__law_draw (hr.mono k__law_draw) (by rfl) (pa_cons (pv 0) (pa_cons pe_int pa_nil))) (pe_callTy call_int1 (by rfl) M.m_int bb_int (pa_cons (pe_cmpR op_lt (pv 3) (pe_op op_powB pe_int pe_int) (nomark _)) pa_nil)))) pa_nil))))))) pss_nil) (pss_cons (ps_if (pt_cmpR (op_eqQ hr.units) (pv 2) pe_int (nomark _)) (pss_one (ps_ret (pe_tup (pa_cons pe_str (pa_cons (pe_callA h__law_name (hr.mono k__law_name) (by rfl) (pa_cons (pv 0) pa_nil)) pa_nil))))) pss_nil) (pss_cons (ps_if (pt_cmpR (op_eqQ hr.units) (pv 2) pe_int (nomark _)) (pss_one (ps_ret (pe_tup (pa_cons pe_str (pa_cons (pe_callA h__law_name (hr.mono k__law_name) (by rfl) (pa_cons (pv 0) pa_nil)) pa_nil))))) pss_nil) (pss_one (ps_ret (pe_tup (pa_cons pe_str (pa_cons (pe_op op_mod (pe_callTy call_int1 (by rfl) M.m_int bb_int (pa_cons (pe_op op_addQ (pe_op op_mulQ (pe_callA h__law_draw (hr.mono k__law_draw) (by rfl) (pa_cons (pv 0) (pa_cons pe_int pa_nil))) pe_int) (pe_callA h__law_draw (hr.mono k__law_draw) (by rfl) (pa_cons (pv 0) (pa_cons pe_int pa_nil)))) pa_nil)) (pv 1)) pa_nil))))))))))))),
    (ls_seq (ls_set (le_call0 (la_cons le_var (la_cons (le_c fun _ _ => rfl) la_nil)) (len_cons (len_cons len_nil)))) (ls_seq (ls_if (lt_test (le_bin le_var (le_c fun _ _ => rfl) opEq_ok)) (ls_ret (le_tup (la_cons (le_c fun _ _ => rfl) la_nil) (len_cons len_nil) (by decide : 1 ≤ sizeLine))) ls_nil) (ls_seq (ls_if (lt_test (le_bin le_var (le_c fun _ _ => rfl) opEq_ok)) (ls_ret (le_tup (la_cons (le_c fun _ _ => rfl) (la_cons (le_bin (le_call0 (la_cons le_var (la_cons (le_c fun _ _ => rfl) la_nil)) (len_cons (len_cons len_nil))) (le_c fun _ _ => rfl) opEq_ok) la_nil)) (len_cons (len_cons len_nil)) (by decide : 2 ≤ sizeLine))) ls_nil) (ls_seq (ls_if (lt_test (le_bin le_var (le_c fun _ _ => rfl) opEq_ok)) (ls_ret (le_tup (la_cons (le_c fun _ _ => rfl) (la_cons (le_call0 (la_cons le_var la_nil) (len_cons len_nil)) la_nil)) (len_cons (len_cons len_nil)) (by decide : 2 ≤ sizeLine))) ls_nil) (ls_seq (ls_if (lt_test (le_bin le_var (le_c fun _ _ => rfl) opEq_ok)) (ls_ret (le_tup (la_cons (le_c fun _ _ => rfl) (la_cons (le_call0 (la_cons le_var (la_cons (le_c fun _ _ => rfl) la_nil)) (len_cons (len_cons len_nil))) la_nil)) (len_cons (len_cons len_nil)) (by decide : 2 ≤ sizeLine))) ls_nil) (ls_seq (ls_if (lt_test (le_bin le_var (le_c fun _ _ => rfl) opEq_ok)) (ls_seq (ls_set (le_call0 (la_cons le_var la_nil) (len_cons len_nil))) (ls_ret (le_tup (la_cons (le_c fun _ _ => rfl) (la_cons le_var (la_cons (le_bin le_var (le_bin (le_call0 (la_cons le_var (la_cons (le_c fun _ _ => rfl) la_nil)) (len_cons (len_cons len_nil))) (le_args (la_cons (le_bin le_var (le_bin (le_c fun _ _ => rfl) (le_c fun _ _ => rfl) opPow_ok) opCmp_ok) la_nil) cInt_ok) opMul_ok) opAdd_ok) la_nil))) (len_cons (len_cons (len_cons len_nil))) (by decide : 3 ≤ sizeLine)))) ls_nil) (ls_seq (ls_if (lt_test (le_bin le_var (le_c fun _ _ => rfl) opEq_ok)) (ls_ret (le_tup (la_cons (le_c fun _ _ => rfl) (la_cons (le_call0 (la_cons le_var la_nil) (len_cons len_nil)) la_nil)) (len_cons (len_cons len_nil)) (by decide : 2 ≤ sizeLine))) ls_nil) (ls_seq (ls_if (lt_test (le_bin le_var (le_c fun _ _ => rfl) opEq_ok)) (ls_ret (le_tup (la_cons (le_c fun _ _ => rfl) (la_cons (le_call0 (la_cons le_var la_nil) (len_cons len_nil)) la_nil)) (len_cons (len_cons len_nil)) (by decide : 2 ≤ sizeLine))) ls_nil) (ls_ret (le_tup (la_cons (le_c fun _ _ => rfl) (la_cons (le_bin (le_args (la_cons (le_bin (le_bin (le_call0 (la_cons le_var (la_cons (le_c fun _ _ => rfl) la_nil)) (len_cons (len_cons len_nil))) (le_c fun _ _ => rfl) opMul_ok) (le_call0 (la_cons le_var (la_cons (le_c fun _ _ => rfl) la_nil)) (len_cons (len_cons len_nil))) opAdd_ok) la_nil) cInt_ok) le_var opMod_ok) la_nil)) (len_cons (len_cons len_nil)) (by decide : 2 ≤ sizeLine)))))))))))⟩
/-! ### _law_tree -/
abbrev s__law_tree : Stmt := topS 24
theorem sc__law_tree : FnScope ["box", "depth", "kind", "number", "size", "k"] ["box", "depth"] (defScope s__law_tree) := ⟨rfl, rfl, rfl, by decide +kernel, rfl, by decide +kernel, by decide +kernel⟩
noncomputable def b__law_tree (c__law_draw : Fn) (c__law_text : Fn) (c__law_number : Fn) (c__law_name : Fn) (c__law_tree : Fn) : MS :=
    (mSeq (mSet 2 (fCall0 c__law_draw (fCons (fVar 0) (fCons (fC (.int 8)) fNil))))
    (mSeq (mIf (tVal (fBin opEq (fVar 2) (fC (.int 0))))
    (mRet (fCall0 c__law_text (fCons (fVar 0) (fCons (fC (.int 6)) fNil))))
    mNil)
    (mSeq (mIf (tVal (fBin opEq (fVar 2) (fC (.int 1))))
    (mSeq (mSet 3 (fCall0 c__law_number (fCons (fVar 0) fNil)))
    (mRet (fBin opAdd (fVar 3) (fBin opMul (fC (.int 2)) (fArgs cInt (fCons (fOrV (fBin opEq (fVar 3) (fC (.int 0))) (fBin opEq (fVar 3) (fC (.int 1)))) fNil))))))
    mNil)
    (mSeq (mIf (tVal (fBin opEq (fVar 2) (fC (.int 2))))
    (mRet (fBin opEq (fCall0 c__law_draw (fCons (fVar 0) (fCons (fC (.int 2)) fNil))) (fC (.int 1))))
    mNil)
    (mSeq (mIf (tOrF (tVal (fBin opEq (fVar 2) (fC (.int 3)))) (tVal (fBin opEq (fVar 1) (fC (.int 0)))))
    (mRet (fCall0 c__law_name (fCons (fVar 0) fNil)))
    mNil)
    (mSeq (mSet 4 (fCall0 c__law_draw (fCons (fVar 0) (fCons (fC (.int 4)) fNil))))
    (mRet (fArgs cTup (fCons (fLc (fiRng1 (fCons (fVar 4) fNil)) (gdName 5) (fun _ st => .ok true st) (fCall0 c__law_tree (fCons (fVar 0) (fCons (fBin opSub (fVar 1) (fC (.int 1))) fNil))) [5]) fNil)))))))))
theorem ok__law_tree {P : Program} {w : World} {K : PySem.W.Frag} {mg : Str → Option Value} {base : Heap} {k : Nat} (M : Mods mg) (Dd : DefAt K mg "_law_tree" s__law_tree ["box", "depth"]) {kk__law_draw : Nat} {c__law_draw : Fn} (h__law_draw : FnAt P w K mg base "_law_draw" kk__law_draw 2 c__law_draw) (k__law_draw : kk__law_draw ≤ k) {kk__law_text : Nat} {c__law_text : Fn} (h__law_text : FnAt P w K mg base "_law_text" kk__law_text 2 c__law_text) (k__law_text : kk__law_text ≤ k) {kk__law_number : Nat} {c__law_number : Fn} (h__law_number : FnAt P w K mg base "_law_number" kk__law_number 1 c__law_number) (k__law_number : kk__law_number ≤ k) {kk__law_name : Nat} {c__law_name : Fn} (h__law_name : FnAt P w K mg base "_law_name" kk__law_name 1 c__law_name) (k__law_name : kk__law_name ≤ k) {kk__law_tree : Nat} {c__law_tree : Fn} (h__law_tree : FnAt P w K mg base "_law_tree" kk__law_tree 2 c__law_tree) (k__law_tree : kk__law_tree ≤ k) :
    FnAt P w K mg base "_law_tree" (k + 1) 2 (mFn0 6 (b__law_tree c__law_draw c__law_text c__law_number c__law_name c__law_tree)) :=
  fnAt Dd sc__law_tree fun f cdv A outer s H E hr => ⟨_, (pss_cons (ps_set (i := 2) sc__law_tree.nd rfl (by first | exact .inl rfl | exact .inr rfl) (pe_callA h__law_draw (hr.mono k__law_draw) (by rfl) (pa_cons (pv 0) (pa_cons pe_int pa_nil)))) (pss_cons (ps_if (pt_cmpR (op_eqQ hr.units) (pv 2) pe_int (nomark _)) (pss_one (ps_ret (pe_callA h__law_text (hr.mono k__law_text) (by rfl) (pa_cons (pv 0) (pa_cons pe_int pa_nil))))) pss_nil) (pss_cons (ps_if (pt_cmpR (op_eqQ hr.units) (pv 2) pe_int (nomark _)) (pss_cons (ps_set (i := 3) sc__law_tree.nd rfl (by first | exact .inl rfl | exact .inr rfl) (pe_callA h__law_number (hr.mono k__law_number) (by rfl) (pa_cons (pv 0) pa_nil))) (pss_one (ps_ret (pe_op op_addQ (pv 3) (pe_op op_mulQ pe_int (pe_callTy call_int1 (by rfl) M.m_int bb_int (pa_cons (pe_or (pe_cmpR (op_eqQ hr.units) (pv 3) pe_int (nomark _)) (pe_one (pe_cmpR (op_eqQ hr.units) (pv 3) pe_int (nomark _)))) pa_nil))))))) pss_nil) (pss_cons (ps_if (pt_cmpR (op_eqQ hr.units) (pv 2) pe_int (nomark _)) (pss_one (ps_ret (pe_cmpR (op_eqQ hr.units) (pe_callA h__law_draw (hr.mono k__law_draw) (by rfl) (pa_cons (pv 0) (pa_cons pe_int pa_nil))) pe_int (nomark _)))) pss_nil) (pss_cons (ps_if (PW.pt (pw_or (pt_cmpR (op_eqQ hr.units) (pv 2) pe_int (nomark _)) (pw_or1 (pt_cmpR (op_eqQ hr.units) (pv 1) pe_int (nomark _))))) (pss_one (ps_ret (pe_callA h__law_name (hr.mono k__law_name) (by rfl) (pa_cons (pv 0) pa_nil)))) pss_nil) (pss_cons (ps_set (i := 4) sc__law_tree.nd rfl (by first | exact .inl rfl | exact .inr rfl) (pe_callA h__law_draw (hr.mono k__law_draw) (by rfl) (pa_cons (pv 0) (pa_cons pe_int pa_nil)))) (pss_one (ps_ret (pe_callTy call_tuple_of (by rfl) M.m_tuple bb_tuple (pa_cons (pe_lc (own := [("k", 5)]) rfl sc__law_tree.nd (pi_range1 (by rfl) M.m_range (pa_cons (pv 4) pa_nil)) (blkOk_by (N := ["box", "depth", "kind", "number", "size", "k"]) (sc := defScope s__law_tree) (own := [("k", 5)]) (by decide +kernel)) (fun _ _ _ _ _ => (pg_name (i := 5) sc__law_tree.nd rfl (by first | exact .inl rfl | exact .inr rfl))) (fun _ _ _ _ _ => pts_nil) (fun _ _ _ _ _ => (pe_callA h__law_tree (hr.mono k__law_tree) (by rfl) (pa_cons (pv 0) (pa_cons (pe_op op_sub (pv 1) pe_int) pa_nil))))) pa_nil)))))))))),
    (ls_seq (ls_set (le_call0 (la_cons le_var (la_cons (le_c fun _ _ => rfl) la_nil)) (len_cons (len_cons len_nil)))) (ls_seq (ls_if (lt_test (le_bin le_var (le_c fun _ _ => rfl) opEq_ok)) (ls_ret (le_call0 (la_cons le_var (la_cons (le_c fun _ _ => rfl) la_nil)) (len_cons (len_cons len_nil)))) ls_nil) (ls_seq (ls_if (lt_test (le_bin le_var (le_c fun _ _ => rfl) opEq_ok)) (ls_seq (ls_set (le_call0 (la_cons le_var la_nil) (len_cons len_nil))) (ls_ret (le_bin le_var (le_bin (le_c fun _ _ => rfl) (le_args (la_cons (le_orV (le_bin le_var (le_c fun _ _ => rfl) opEq_ok) (le_bin le_var (le_c fun _ _ => rfl) opEq_ok)) la_nil) cInt_ok) opMul_ok) opAdd_ok))) ls_nil) (ls_seq (ls_if (lt_test (le_bin le_var (le_c fun _ _ => rfl) opEq_ok)) (ls_ret (le_bin (le_call0 (la_cons le_var (la_cons (le_c fun _ _ => rfl) la_nil)) (len_cons (len_cons len_nil))) (le_c fun _ _ => rfl) opEq_ok)) ls_nil) (ls_seq (ls_if (lt_or (lt_test (le_bin le_var (le_c fun _ _ => rfl) opEq_ok)) (lt_test (le_bin le_var (le_c fun _ _ => rfl) opEq_ok))) (ls_ret (le_call0 (la_cons le_var la_nil) (len_cons len_nil))) ls_nil) (ls_seq (ls_set (le_call0 (la_cons le_var (la_cons (le_c fun _ _ => rfl) la_nil)) (len_cons (len_cons len_nil)))) (ls_ret (le_args (la_cons (le_lc (li_rng1 (la_cons le_var la_nil)) lg_name (by decide) lt_yes (le_call0 (la_cons le_var (la_cons (le_bin le_var (le_c fun _ _ => rfl) opSub_ok) la_nil)) (len_cons (len_cons len_nil)))) la_nil) cTup_ok))))))))⟩
/-! ### _law_field -/
abbrev s__law_field : Stmt := topS 25
theorem sc__law_field : FnScope ["box", "letter", "many", "size", "kind", "k"] ["box", "letter", "many"] (defScope s__law_field) := ⟨rfl, rfl, rfl, by decide +kernel, rfl, by decide +kernel, by decide +kernel⟩
noncomputable def b__law_field (c__law_value : Fn) (c__law_draw : Fn) (c__law_name : Fn) (c__law_tree : Fn) (c__law_number : Fn) (c__law_shape : Fn) (c__law_frames : Fn) : MS :=
    (mSeq (mIf (tVal (fBin opEq (fVar 1) (fC (.str "v"))))
    (mRet (fCall0 c__law_value (fCons (fVar 0) (fCons (fVar 2) fNil))))
    mNil)
    (mSeq (mIf (tVal (fBin opEq (fVar 1) (fC (.str "V"))))
    (mSeq (mSet 3 (fCall0 c__law_draw (fCons (fVar 0) (fCons (fC (.int 5)) fNil))))
    (mRet (fArgs cTup (fCons (fLc (fiRng1 (fCons (fVar 3) fNil)) (gdName 5) (fun _ st => .ok true st) (fCall0 c__law_value (fCons (fVar 0) (fCons (fVar 2) fNil))) [5]) fNil))))
    mNil)
    (mSeq (mIf (tVal (fBin opEq (fVar 1) (fC (.str "W"))))
    (mSeq (mSet 3 (fCall0 c__law_draw (fCons (fVar 0) (fCons (fC (.int 4)) fNil))))
    (mRet (fArgs cTup (fCons (fLc (fiRng1 (fCons (fVar 3) fNil)) (gdName 5) (fun _ st => .ok true st) (fTup (fCons (fCall0 c__law_value (fCons (fVar 0) (fCons (fVar 2) fNil))) (fCons (fCall0 c__law_value (fCons (fVar 0) (fCons (fVar 2) fNil))) fNil))) [5]) fNil))))
    mNil)
    (mSeq (mIf (tVal (fBin opEq (fVar 1) (fC (.str "X"))))
    (mSeq (mSet 3 (fCall0 c__law_draw (fCons (fVar 0) (fCons (fC (.int 4)) fNil))))
    (mRet (fArgs cTup (fCons (fLc (fiRng1 (fCons (fVar 3) fNil)) (gdName 5) (fun _ st => .ok true st) (fTup (fCons (fCall0 c__law_name (fCons (fVar 0) fNil)) (fCons (fCall0 c__law_value (fCons (fVar 0) (fCons (fVar 2) fNil))) fNil))) [5]) fNil))))
    mNil)
    (mSeq (mIf (tVal (fBin opEq (fVar 1) (fC (.str "t"))))
    (mRet (fCall0 c__law_tree (fCons (fVar 0) (fCons (fC (.int 3)) fNil))))
    mNil)
    (mSeq (mIf (tVal (fBin opEq (fVar 1) (fC (.str "a"))))
    (mRet (fBin opMod (fArgs cInt (fCons (fBin opAdd (fBin opMul (fCall0 c__law_draw (fCons (fVar 0) (fCons (fC (.int 1000)) fNil))) (fC (.int 1000))) (fCall0 c__law_draw (fCons (fVar 0) (fCons (fC (.int 1000)) fNil)))) fNil)) (fVar 2)))
    mNil)
    (mSeq (mIf (tVal (fBin opEq (fVar 1) (fC (.str "b"))))
    (mRet (fBin opSub (fBin opMod (fArgs cInt (fCons (fBin opAdd (fBin opMul (fCall0 c__law_draw (fCons (fVar 0) (fCons (fC (.int 1000)) fNil))) (fC (.int 1000))) (fCall0 c__law_draw (fCons (fVar 0) (fCons (fC (.int 1000)) fNil)))) fNil)) (fBin opAdd (fVar 2) (fC (.int 1)))) (fC (.int 1))))
    mNil)
    (mSeq (mIf (tVal (fBin opEq (fVar 1) (fC (.str "n"))))
    (mRet (fCall0 c__law_number (fCons (fVar 0) fNil)))
    mNil)
    (mSeq (mIf (tVal (fBin opEq (fVar 1) (fC (.str "x"))))
    (mRet (fCall0 c__law_name (fCons (fVar 0) fNil)))
    mNil)
    (mSeq (mIf (tVal (fBin opEq (fVar 1) (fC (.str "s"))))
    (mSeq (mSet 4 (fCall0 c__law_draw (fCons (fVar 0) (fCons (fC (.int 5)) fNil))))
    (mSeq (mIf (tVal (fBin (opCmp cLt) (fVar 4) (fC (.int 3))))
    (mRet (fBin opIx (fLst (fCons (fTup fNil) (fCons (fTup (fCons (fC (.str "break")) fNil)) (fCons (fTup (fCons (fC (.str "continue")) fNil)) fNil)))) (fVar 4)))
    mNil)
    (mRet (fTup (fCons (fBin opIx (fLst (fCons (fC (.str "return")) (fCons (fC (.str "raise")) fNil))) (fBin opSub (fVar 4) (fC (.int 3)))) (fCons (fCall0 c__law_value (fCons (fVar 0) (fCons (fVar 2) fNil))) fNil))))))
    mNil)
    (mSeq (mSet 3 (fCall0 c__law_draw (fCons (fVar 0) (fCons (fC (.int 3)) fNil))))
    (mRet (fArgs cTup (fCons (fLc (fiRng1 (fCons (fVar 3) fNil)) (gdName 5) (fun _ st => .ok true st) (fCall0 c__law_shape (fCons (fVar 0) (fCons (fCall0 c__law_frames fNil) (fCons (fVar 2) fNil)))) [5]) fNil))))))))))))))
theorem ok__law_field {P : Program} {w : World} {K : PySem.W.Frag} {mg : Str → Option Value} {base : Heap} {k : Nat} (M : Mods mg) (Dd : DefAt K mg "_law_field" s__law_field ["box", "letter", "many"]) {kk__law_value : Nat} {c__law_value : Fn} (h__law_value : FnAt P w K mg base "_law_value" kk__law_value 2 c__law_value) (k__law_value : kk__law_value ≤ k) {kk__law_draw : Nat} {c__law_draw : Fn} (h__law_draw : FnAt P w K mg base "_law_draw" kk__law_draw 2 c__law_draw) (k__law_draw : kk__law_draw ≤ k) {kk__law_name : Nat} {c__law_name : Fn} (h__law_name : FnAt P w K mg base "_law_name" kk__law_name 1 c__law_name) (k__law_name : kk__law_name ≤ k) {kk__law_tree : Nat} {c__law_tree : Fn} (h__law_tree : FnAt P w K mg base "_law_tree" kk__law_tree 2 c__law_tree) (k__law_tree : kk__law_tree ≤ k) {kk__law_number : Nat} {c__law_number : Fn} (h__law_number : FnAt P w K mg base "_law_number" kk__law_number 1 c__law_number) (k__law_number : kk__law_number ≤ k) {kk__law_shape : Nat} {c__law_shape : Fn} (h__law_shape : FnAt P w K mg base "_law_shape" kk__law_shape 3 c__law_shape) (k__law_shape : kk__law_shape ≤ k) {kk__law_frames : Nat} {c__law_frames : Fn} (h__law_frames : FnAt P w K mg base "_law_frames" kk__law_frames 0 c__law_frames) (k__law_frames : kk__law_frames ≤ k) :
    FnAt P w K mg base "_law_field" (k + 1) 3 (mFn0 6 (b__law_field c__law_value c__law_draw c__law_name c__law_tree c__law_number c__law_shape c__law_frames)) :=
  fnAt Dd sc__law_field fun f cdv A outer s H E hr => ⟨_, (pss_cons (ps_if (pt_cmpR (op_eqQ hr.units) (pv 1) pe_str (nomark _)) (pss_one (ps_ret (pe_callA h__law_value (hr.mono k__law_value) (by rfl) (pa_cons (pv 0) (pa_cons (pv 2) pa_nil))))) pss_nil) (pss_cons (ps_if (pt_cmpR (op_eqQ hr.units) (pv 1) pe_str (nomark _)) (pss_cons (ps_set (i := 3) sc__law_field.nd rfl (by first | exact .inl rfl | exact .inr rfl) (pe_callA h__law_draw (hr.mono k__law_draw) (by rfl) (pa_cons (pv 0) (pa_cons pe_int pa_nil)))) (pss_one (ps_ret (pe_callTy call_tuple_of (by rfl) M.m_tuple bb_tuple (pa_cons (pe_lc (own := [("k", 5)]) rfl sc__law_field.nd (pi_range1 (by rfl) M.m_range (pa_cons (pv 3) pa_nil)) (blkOk_by (N := ["box", "letter", "many", "size", "kind", "k"]) (sc := defScope s__law_field) (own := [("k", 5)]) (by decide +kernel)) (fun _ _ _ _ _ => (pg_name (i := 5) sc__law_field.nd rfl (by first | exact .inl rfl | exact .inr rfl))) (fun _ _ _ _ _ => pts_nil) (fun _ _ _ _ _ => (pe_callA h__law_value (hr.mono k__law_value) (by rfl) (pa_cons (pv 0) (pa_cons (pv 2) pa_nil))))) pa_nil))))) pss_nil) (pss_cons (ps_if (pt_cmpR (op_eqQ hr.units) (pv 1) pe_str (nomark _)) (pss_cons (ps_set (i := 3) sc__law_field.nd rfl (by first | exact .inl rfl | exact .inr rfl) (pe_callA h__law_draw (hr.mono k__law_draw) (by rfl) (pa_cons (pv 0) (pa_cons pe_int pa_nil)))) (pss_one (ps_ret (pe_callTy call_tuple_of (by rfl) M.m_tuple bb_tuple (pa_cons (pe_lc (own := [("k", 5)]) rfl sc__law_field.nd (pi_range1 (by rfl) M.m_range (pa_cons (pv 3) pa_nil)) (blkOk_by (N := ["box", "letter", "many", "size", "kind", "k"]) (sc := defScope s__law_field) (own := [("k", 5)]) (by decide +kernel)) (fun _ _ _ _ _ => (pg_name (i := 5) sc__law_field.nd rfl (by first | exact .inl rfl | exact .inr rfl))) (fun _ _ _ _ _ => pts_nil) (fun _ _ _ _ _ => (pe_tup (pa_cons (pe_callA h__law_value (hr.mono k__law_value) (by rfl) (pa_cons (pv 0) (pa_cons (pv 2) pa_nil))) (pa_cons (pe_callA h__law_value (hr.mono k__law_value) (by rfl) (pa_cons (pv 0) (pa_cons (pv 2) pa_nil))) pa_nil))))) pa_nil))))) pss_nil) (pss_cons (ps_if (pt_cmpR (op_eqQ hr.units) (pv 1) pe_str (nomark _)) (pss_cons (ps_set (i := 3) sc__law_field.nd rfl (by first | exact .inl rfl | exact .inr rfl) (pe_callA h__law_draw (hr.mono k__law_draw) (by rfl) (pa_cons (pv 0) (pa_cons pe_int pa_nil)))) (pss_one (ps_ret (pe_callTy call_tuple_of (by rfl) M.m_tuple bb_tuple (pa_cons (pe_lc (own := [("k", 5)]) rfl sc__law_field.nd (pi_range1 (by rfl) M.m_range (pa_cons (pv 3) pa_nil)) (blkOk_by (N := ["box", "letter", "many", "size", "kind", "k"]) (sc := defScope s__law_field) (own := [("k", 5)]) (by decide +kernel)) (fun _ _ _ _ _ => (pg_name (i := 5) sc__law_field.nd rfl (by first | exact .inl rfl | exact .inr rfl))) (fun _ _ _ _ _ => pts_nil) (fun _ _ _ _ _ => (pe_tup (pa_cons (pe_callA h__law_name (hr.mono k__law_name) (by rfl) (pa_cons (pv 0) pa_nil)) (pa_cons (pe_callA h__law_value (hr.mono k__law_value) (by rfl) (pa_cons (pv 0) (pa_cons (pv 2) pa_nil))) pa_nil))))) pa_nil))))) pss_nil) (pss_cons (ps_if (pt_cmpR (op_eqQ hr.units) (pv 1) pe_str (nomark _)) (pss_one (ps_ret (pe_callA h__law_tree (hr.mono k__law_tree) (by rfl) (pa_cons (pv 0) (pa_cons pe_int pa_nil))))) pss_nil) (pss_cons (ps_if (pt_cmpR (op_eqQ hr.units) (pv 1) pe_str (nomark _)) (pss_one (ps_ret (pe_op op_mod (pe_callTy call_int1 (by rfl) M.m_int bb_int (pa_cons (pe_op op_addQ (pe_op op_mulQ (pe_callA h__law_draw (hr.mono k__law_draw) (by rfl) (pa_cons (pv 0) (pa_cons pe_int pa_nil))) pe_int) (pe_callA h__law_draw (hr.mono k__law_draw) (by rfl) (pa_cons (pv 0) (pa_cons pe_int pa_nil)))) pa_nil)) (pv 2)))) pss_nil) (pss_cons (ps_if (pt_cmpR (op_eqQ hr.units) (pv 1) pe_str (nomark _)) (pss_one (ps_ret (pe_op op_sub (pe_op op_mod (pe_callTy call_int1 (by rfl) M.m_int bb_int (pa_cons (pe_op op_addQ (pe_op op_mulQ (pe_callA h__law_draw (hr.mono k__law_draw) (by rfl) (pa_cons (pv 0) (pa_cons pe_int pa_nil))) pe_int) (pe_callA h__law_draw (hr.mono k__law_draw) (by rfl) (pa_cons (pv 0) (pa_cons pe_int pa_nil)))) pa_nil)) (pe_op op_addQ (pv 2) pe_int)) pe_int))) pss_nil) (pss_cons (ps_if (pt_cmpR (op_eqQ hr.units) (pv 1) pe_str (nomark _)) (pss_one (ps_ret (pe_callA h__law_number (hr.mono k__law_number) (by rfl) (pa_cons (pv 0) pa_nil)))) pss_nil) (pss_cons (ps_if (pt_cmpR (op_eqQ hr.units) (pv 1) pe_str (nomark _)) (pss_one (ps_ret (pe_callA h__law_name (hr.mono k__law_name) (by rfl) (pa_cons (pv 0) pa_nil)))) pss_nil) (pss_cons (ps_if (pt_cmpR (op_eqQ hr.units) (pv 1) pe_str (nomark _)) (pss_cons (ps_set (i := 4) sc__law_field.nd rfl (by first | exact .inl rfl | exact .inr rfl) (pe_callA h__law_draw (hr.mono k__law_draw) (by rfl) (pa_cons (pv 0) (pa_cons pe_int pa_nil)))) (pss_cons (ps_if (pt_cmpR op_lt (pv 4) pe_int (nomark _)) (pss_one (ps_ret (pe_ix ix_seq (pe_lst (pa_cons (pe_tup pa_nil) (pa_cons (pe_tup (pa_cons pe_str pa_nil)) (pa_cons (pe_tup (pa_cons pe_str pa_nil)) pa_nil)))) (pv 4) (fun _ _ => rfl)))) pss_nil) (pss_one (ps_ret (pe_tup (pa_cons (pe_ix ix_seq (pe_lst (pa_cons pe_str (pa_cons pe_str pa_nil))) (pe_op op_sub (pv 4) pe_int) (fun _ _ => rfl)) (pa_cons (pe_callA h__law_value (hr.mono k__law_value) (by rfl) (pa_cons (pv 0) (pa_cons (pv 2) pa_nil))) pa_nil))))))) pss_nil) (pss_cons (ps_set (i := 3) sc__law_field.nd rfl (by first | exact .inl rfl | exact .inr rfl) (pe_callA h__law_draw (hr.mono k__law_draw) (by rfl) (pa_cons (pv 0) (pa_cons pe_int pa_nil)))) (pss_one (ps_ret (pe_callTy call_tuple_of (by rfl) M.m_tuple bb_tuple (pa_cons (pe_lc (own := [("k", 5)]) rfl sc__law_field.nd (pi_range1 (by rfl) M.m_range (pa_cons (pv 3) pa_nil)) (blkOk_by (N := ["box", "letter", "many", "size", "kind", "k"]) (sc := defScope s__law_field) (own := [("k", 5)]) (by decide +kernel)) (fun _ _ _ _ _ => (pg_name (i := 5) sc__law_field.nd rfl (by first | exact .inl rfl | exact .inr rfl))) (fun _ _ _ _ _ => pts_nil) (fun _ _ _ _ _ => (pe_callA h__law_shape (hr.mono k__law_shape) (by rfl) (pa_cons (pv 0) (pa_cons (pe_callA0 h__law_frames (hr.mono k__law_frames) (by rfl)) (pa_cons (pv 2) pa_nil)))))) pa_nil))))))))))))))),
    (ls_seq (ls_if (lt_test (le_bin le_var (le_c fun _ _ => rfl) opEq_ok)) (ls_ret (le_call0 (la_cons le_var (la_cons le_var la_nil)) (len_cons (len_cons len_nil)))) ls_nil) (ls_seq (ls_if (lt_test (le_bin le_var (le_c fun _ _ => rfl) opEq_ok)) (ls_seq (ls_set (le_call0 (la_cons le_var (la_cons (le_c fun _ _ => rfl) la_nil)) (len_cons (len_cons len_nil)))) (ls_ret (le_args (la_cons (le_lc (li_rng1 (la_cons le_var la_nil)) lg_name (by decide) lt_yes (le_call0 (la_cons le_var (la_cons le_var la_nil)) (len_cons (len_cons len_nil)))) la_nil) cTup_ok))) ls_nil) (ls_seq (ls_if (lt_test (le_bin le_var (le_c fun _ _ => rfl) opEq_ok)) (ls_seq (ls_set (le_call0 (la_cons le_var (la_cons (le_c fun _ _ => rfl) la_nil)) (len_cons (len_cons len_nil)))) (ls_ret (le_args (la_cons (le_lc (li_rng1 (la_cons le_var la_nil)) lg_name (by decide) lt_yes (le_tup (la_cons (le_call0 (la_cons le_var (la_cons le_var la_nil)) (len_cons (len_cons len_nil))) (la_cons (le_call0 (la_cons le_var (la_cons le_var la_nil)) (len_cons (len_cons len_nil))) la_nil)) (len_cons (len_cons len_nil)) (by decide : 2 ≤ sizeLine))) la_nil) cTup_ok))) ls_nil) (ls_seq (ls_if (lt_test (le_bin le_var (le_c fun _ _ => rfl) opEq_ok)) (ls_seq (ls_set (le_call0 (la_cons le_var (la_cons (le_c fun _ _ => rfl) la_nil)) (len_cons (len_cons len_nil)))) (ls_ret (le_args (la_cons (le_lc (li_rng1 (la_cons le_var la_nil)) lg_name (by decide) lt_yes (le_tup (la_cons (le_call0 (la_cons le_var la_nil) (len_cons len_nil)) (la_cons (le_call0 (la_cons le_var (la_cons le_var la_nil)) (len_cons (len_cons len_nil))) la_nil)) (len_cons (len_cons len_nil)) (by decide : 2 ≤ sizeLine))) la_nil) cTup_ok))) ls_nil) (ls_seq (ls_if (lt_test (le_bin le_var (le_c fun _ _ => rfl) opEq_ok)) (ls_ret (le_call0 (la_cons le_var (la_cons (le_c fun _ _ => rfl) la_nil)) (len_cons (len_cons len_nil)))) ls_nil) (ls_seq (ls_if (lt_test (le_bin le_var (le_c fun _ _ => rfl) opEq_ok)) (ls_ret (le_bin (le_args (la_cons (le_bin (le_bin (le_call0 (la_cons le_var (la_cons (le_c fun _ _ => rfl) la_nil)) (len_cons (len_cons len_nil))) (le_c fun _ _ => rfl) opMul_ok) (le_call0 (la_cons le_var (la_cons (le_c fun _ _ => rfl) la_nil)) (len_cons (len_cons len_nil))) opAdd_ok) la_nil) cInt_ok) le_var opMod_ok)) ls_nil) (ls_seq (ls_if (lt_test (le_bin le_var (le_c fun _ _ => rfl) opEq_ok)) (ls_ret (le_bin (le_bin (le_args (la_cons (le_bin (le_bin (le_call0 (la_cons le_var (la_cons (le_c fun _ _ => rfl) la_nil)) (len_cons (len_cons len_nil))) (le_c fun _ _ => rfl) opMul_ok) (le_call0 (la_cons le_var (la_cons (le_c fun _ _ => rfl) la_nil)) (len_cons (len_cons len_nil))) opAdd_ok) la_nil) cInt_ok) (le_bin le_var (le_c fun _ _ => rfl) opAdd_ok) opMod_ok) (le_c fun _ _ => rfl) opSub_ok)) ls_nil) (ls_seq (ls_if (lt_test (le_bin le_var (le_c fun _ _ => rfl) opEq_ok)) (ls_ret (le_call0 (la_cons le_var la_nil) (len_cons len_nil))) ls_nil) (ls_seq (ls_if (lt_test (le_bin le_var (le_c fun _ _ => rfl) opEq_ok)) (ls_ret (le_call0 (la_cons le_var la_nil) (len_cons len_nil))) ls_nil) (ls_seq (ls_if (lt_test (le_bin le_var (le_c fun _ _ => rfl) opEq_ok)) (ls_seq (ls_set (le_call0 (la_cons le_var (la_cons (le_c fun _ _ => rfl) la_nil)) (len_cons (len_cons len_nil)))) (ls_seq (ls_if (lt_test (le_bin le_var (le_c fun _ _ => rfl) opCmp_ok)) (ls_ret (le_bin (le_lst (la_cons (le_tup la_nil len_nil (by decide : 0 ≤ sizeLine)) (la_cons (le_tup (la_cons (le_c fun _ _ => rfl) la_nil) (len_cons len_nil) (by decide : 1 ≤ sizeLine)) (la_cons (le_tup (la_cons (le_c fun _ _ => rfl) la_nil) (len_cons len_nil) (by decide : 1 ≤ sizeLine)) la_nil))) (len_cons (len_cons (len_cons len_nil))) (by decide : 3 ≤ sizeLine)) le_var opIx_ok)) ls_nil) (ls_ret (le_tup (la_cons (le_bin (le_lst (la_cons (le_c fun _ _ => rfl) (la_cons (le_c fun _ _ => rfl) la_nil)) (len_cons (len_cons len_nil)) (by decide : 2 ≤ sizeLine)) (le_bin le_var (le_c fun _ _ => rfl) opSub_ok) opIx_ok) (la_cons (le_call0 (la_cons le_var (la_cons le_var la_nil)) (len_cons (len_cons len_nil))) la_nil)) (len_cons (len_cons len_nil)) (by decide : 2 ≤ sizeLine))))) ls_nil) (ls_seq (ls_set (le_call0 (la_cons le_var (la_cons (le_c fun _ _ => rfl) la_nil)) (len_cons (len_cons len_nil)))) (ls_ret (le_args (la_cons (le_lc (li_rng1 (la_cons le_var la_nil)) lg_name (by decide) lt_yes (le_call0 (la_cons le_var (la_cons (le_call0 la_nil len_nil) (la_cons le_var la_nil))) (len_cons (len_cons (len_cons len_nil))))) la_nil) cTup_ok)))))))))))))⟩
/-! ### _law_shape -/
abbrev s__law_shape : Stmt := topS 26
theorem sc__law_shape : FnScope ["box", "table", "many", "row"] ["box", "table", "many"] (defScope s__law_shape) := ⟨rfl, rfl, rfl, by decide +kernel, rfl, by decide +kernel, by decide +kernel⟩
noncomputable def b__law_shape (c__law_draw : Fn) (c__law_shape_of : Fn) : MS :=
    (mSeq (mSet 3 (fBin opIx (fVar 1) (fBin opMod (fArgs cInt (fCons (fBin opAdd (fBin opMul (fCall0 c__law_draw (fCons (fVar 0) (fCons (fC (.int 1000)) fNil))) (fC (.int 1000))) (fCall0 c__law_draw (fCons (fVar 0) (fCons (fC (.int 1000)) fNil)))) fNil)) (fArgs cLen (fCons (fVar 1) fNil)))))
    (mRet (fCall0 c__law_shape_of (fCons (fVar 0) (fCons (fVar 3) (fCons (fVar 2) fNil))))))
theorem ok__law_shape {P : Program} {w : World} {K : PySem.W.Frag} {mg : Str → Option Value} {base : Heap} {k : Nat} (M : Mods mg) (Dd : DefAt K mg "_law_shape" s__law_shape ["box", "table", "many"]) {kk__law_draw : Nat} {c__law_draw : Fn} (h__law_draw : FnAt P w K mg base "_law_draw" kk__law_draw 2 c__law_draw) (k__law_draw : kk__law_draw ≤ k) {kk__law_shape_of : Nat} {c__law_shape_of : Fn} (h__law_shape_of : FnAt P w K mg base "_law_shape_of" kk__law_shape_of 3 c__law_shape_of) (k__law_shape_of : kk__law_shape_of ≤ k) :
    FnAt P w K mg base "_law_shape" (k + 1) 3 (mFn0 4 (b__law_shape c__law_draw c__law_shape_of)) :=
  fnAt Dd sc__law_shape fun f cdv A outer s H E hr => ⟨_, (pss_cons (ps_set (i := 3) sc__law_shape.nd rfl (by first | exact .inl rfl | exact .inr rfl) (pe_ix ix_seq (pv 1) (pe_op op_mod (pe_callTy call_int1 (by rfl) M.m_int bb_int (pa_cons (pe_op op_addQ (pe_op op_mulQ (pe_callA h__law_draw (hr.mono k__law_draw) (by rfl) (pa_cons (pv 0) (pa_cons pe_int pa_nil))) pe_int) (pe_callA h__law_draw (hr.mono k__law_draw) (by rfl) (pa_cons (pv 0) (pa_cons pe_int pa_nil)))) pa_nil)) (pe_callB call_lenQ (by rfl) M.m_len bb_len (pa_cons (pv 1) pa_nil))) (fun _ _ => rfl))) (pss_one (ps_ret (pe_callA h__law_shape_of (hr.mono k__law_shape_of) (by rfl) (pa_cons (pv 0) (pa_cons (pv 3) (pa_cons (pv 2) pa_nil))))))),
    (ls_seq (ls_set (le_bin le_var (le_bin (le_args (la_cons (le_bin (le_bin (le_call0 (la_cons le_var (la_cons (le_c fun _ _ => rfl) la_nil)) (len_cons (len_cons len_nil))) (le_c fun _ _ => rfl) opMul_ok) (le_call0 (la_cons le_var (la_cons (le_c fun _ _ => rfl) la_nil)) (len_cons (len_cons len_nil))) opAdd_ok) la_nil) cInt_ok) (le_args (la_cons le_var la_nil) cLen_ok) opMod_ok) opIx_ok)) (ls_ret (le_call0 (la_cons le_var (la_cons le_var (la_cons le_var la_nil))) (len_cons (len_cons (len_cons len_nil))))))⟩
/-! ### _law_shape_of -/
abbrev s__law_shape_of : Stmt := topS 27
theorem sc__law_shape_of : FnScope ["box", "row", "many", "item", "letter"] ["box", "row", "many"] (defScope s__law_shape_of) := ⟨rfl, rfl, rfl, by decide +kernel, rfl, by decide +kernel, by decide +kernel⟩
noncomputable def b__law_shape_of (c__law_field : Fn) : MS :=
    (mSeq (mSet 3 (fTup (fCons (fBin opIx (fVar 1) (fC (.int 0))) fNil)))
    (mSeq (mFor (fiSeq (fBin opIx (fVar 1) (fC (.int 1)))) (gdName 4)
    (mSet 3 (fBin opAdd (fVar 3) (fTup (fCons (fCall0 c__law_field (fCons (fVar 0) (fCons (fVar 4) (fCons (fVar 2) fNil)))) fNil)))))
    (mRet (fVar 3))))
theorem ok__law_shape_of {P : Program} {w : World} {K : PySem.W.Frag} {mg : Str → Option Value} {base : Heap} {k : Nat} (M : Mods mg) (Dd : DefAt K mg "_law_shape_of" s__law_shape_of ["box", "row", "many"]) {kk__law_field : Nat} {c__law_field : Fn} (h__law_field : FnAt P w K mg base "_law_field" kk__law_field 3 c__law_field) (k__law_field : kk__law_field ≤ k) :
    FnAt P w K mg base "_law_shape_of" (k + 1) 3 (mFn0 5 (b__law_shape_of c__law_field)) :=
  fnAt Dd sc__law_shape_of fun f cdv A outer s H E hr => ⟨_, (pss_cons (ps_set (i := 3) sc__law_shape_of.nd rfl (by first | exact .inl rfl | exact .inr rfl) (pe_tup (pa_cons (pe_ix ix_seq (pv 1) pe_int (fun _ _ => rfl)) pa_nil))) (pss_cons (ps_for PassesOwn.never rfl (pi_seq (pe_ix ix_seq (pv 1) pe_int (fun _ _ => rfl))) (pg_name (i := 4) sc__law_shape_of.nd rfl (by first | exact .inl rfl | exact .inr rfl)) (pss_one (ps_set (i := 3) sc__law_shape_of.nd rfl (by first | exact .inl rfl | exact .inr rfl) (pe_op op_addQ (pv 3) (pe_tup (pa_cons (pe_callA h__law_field (hr.mono k__law_field) (by rfl) (pa_cons (pv 0) (pa_cons (pv 4) (pa_cons (pv 2) pa_nil)))) pa_nil)))))) (pss_one (ps_ret (pv 3))))),
    (ls_seq (ls_set (le_tup (la_cons (le_bin le_var (le_c fun _ _ => rfl) opIx_ok) la_nil) (len_cons len_nil) (by decide : 1 ≤ sizeLine))) (ls_seq (ls_for (li_seq (le_bin le_var (le_c fun _ _ => rfl) opIx_ok)) lg_name (ls_set (le_bin le_var (le_tup (la_cons (le_call0 (la_cons le_var (la_cons le_var (la_cons le_var la_nil))) (len_cons (len_cons (len_cons len_nil)))) la_nil) (len_cons len_nil) (by decide : 1 ≤ sizeLine)) opAdd_ok))) (ls_ret le_var)))⟩
/-! ### _law_objects -/
abbrev s__law_objects : Stmt := topS 28
theorem sc__law_objects : FnScope [] [] (defScope s__law_objects) := ⟨rfl, rfl, rfl, by decide +kernel, rfl, by decide +kernel, by decide +kernel⟩
noncomputable def b__law_objects : MS :=
    (mRet (fLst (fCons (fLst (fCons (fC (.str "list")) (fCons (fC (.str "V")) fNil))) (fCons (fLst (fCons (fC (.str "tuple")) (fCons (fC (.str "V")) fNil))) (fCons (fLst (fCons (fC (.str "dict")) (fCons (fC (.str "W")) fNil))) (fCons (fLst (fCons (fC (.str "scope")) (fCons (fC (.str "Xttbt")) fNil))) (fCons (fLst (fCons (fC (.str "func")) (fCons (fC (.str "xtXtta")) fNil))) (fCons (fLst (fCons (fC (.str "class")) (fCons (fC (.str "xbX")) fNil))) (fCons (fLst (fCons (fC (.str "inst")) (fCons (fC (.str "aX")) fNil))) (fCons (fLst (fCons (fC (.str "bound")) (fCons (fC (.str "vv")) fNil))) (fCons (fLst (fCons (fC (.str "iter")) (fCons (fC (.str "vnn")) fNil))) (fCons (fLst (fCons (fC (.str "gen")) (fCons (fC (.str "xxF")) fNil))) fNil))))))))))))
theorem ok__law_objects {P : Program} {w : World} {K : PySem.W.Frag} {mg : Str → Option Value} {base : Heap} {k : Nat} (M : Mods mg) (Dd : DefAt K mg "_law_objects" s__law_objects []) :
    FnAt P w K mg base "_law_objects" (k + 1) 0 (mFn0 0 (b__law_objects)) :=
  fnAt Dd sc__law_objects fun f cdv A outer s H E hr => ⟨_, (pss_one (ps_ret (pe_lst (pa_cons (pe_lst (pa_cons pe_str (pa_cons pe_str pa_nil))) (pa_cons (pe_lst (pa_cons pe_str (pa_cons pe_str pa_nil))) (pa_cons (pe_lst (pa_cons pe_str (pa_cons pe_str pa_nil))) (pa_cons (pe_lst (pa_cons pe_str (pa_cons pe_str pa_nil))) (pa_cons (pe_lst (pa_cons pe_str (pa_cons pe_str pa_nil))) (pa_cons (pe_lst (pa_cons pe_str (pa_cons pe_str pa_nil))) (pa_cons (pe_lst (pa_cons pe_str (pa_cons pe_str pa_nil))) (pa_cons (pe_lst (pa_cons pe_str (pa_cons pe_str pa_nil))) (pa_cons (pe_lst (pa_cons pe_str (pa_cons pe_str pa_nil))) (pa_cons (pe_lst (pa_cons pe_str (pa_cons pe_str pa_nil))) pa_nil))))))))))))),
    (ls_ret (le_lst (la_cons (le_lst (la_cons (le_c fun _ _ => rfl) (la_cons (le_c fun _ _ => rfl) la_nil)) (len_cons (len_cons len_nil)) (by decide : 2 ≤ sizeLine)) (la_cons (le_lst (la_cons (le_c fun _ _ => rfl) (la_cons (le_c fun _ _ => rfl) la_nil)) (len_cons (len_cons len_nil)) (by decide : 2 ≤ sizeLine)) (la_cons (le_lst (la_cons (le_c fun _ _ => rfl) (la_cons (le_c fun _ _ => rfl) la_nil)) (len_cons (len_cons len_nil)) (by decide : 2 ≤ sizeLine)) (la_cons (le_lst (la_cons (le_c fun _ _ => rfl) (la_cons (le_c fun _ _ => rfl) la_nil)) (len_cons (len_cons len_nil)) (by decide : 2 ≤ sizeLine)) (la_cons (le_lst (la_cons (le_c fun _ _ => rfl) (la_cons (le_c fun _ _ => rfl) la_nil)) (len_cons (len_cons len_nil)) (by decide : 2 ≤ sizeLine)) (la_cons (le_lst (la_cons (le_c fun _ _ => rfl) (la_cons (le_c fun _ _ => rfl) la_nil)) (len_cons (len_cons len_nil)) (by decide : 2 ≤ sizeLine)) (la_cons (le_lst (la_cons (le_c fun _ _ => rfl) (la_cons (le_c fun _ _ => rfl) la_nil)) (len_cons (len_cons len_nil)) (by decide : 2 ≤ sizeLine)) (la_cons (le_lst (la_cons (le_c fun _ _ => rfl) (la_cons (le_c fun _ _ => rfl) la_nil)) (len_cons (len_cons len_nil)) (by decide : 2 ≤ sizeLine)) (la_cons (le_lst (la_cons (le_c fun _ _ => rfl) (la_cons (le_c fun _ _ => rfl) la_nil)) (len_cons (len_cons len_nil)) (by decide : 2 ≤ sizeLine)) (la_cons (le_lst (la_cons (le_c fun _ _ => rfl) (la_cons (le_c fun _ _ => rfl) la_nil)) (len_cons (len_cons len_nil)) (by decide : 2 ≤ sizeLine)) la_nil)))))))))) (len_cons (len_cons (len_cons (len_cons (len_cons (len_cons (len_cons (len_cons (len_cons (len_cons len_nil)))))))))) (by decide : 10 ≤ sizeLine)))⟩
/-! ### _law_controls -/
abbrev s__law_controls : Stmt := topS 29
theorem sc__law_controls : FnScope [] [] (defScope s__law_controls) := ⟨rfl, rfl, rfl, by decide +kernel, rfl, by decide +kernel, by decide +kernel⟩
noncomputable def b__law_controls : MS :=
    (mRet (fLst (fCons (fLst (fCons (fC (.str "eval")) (fCons (fC (.str "ta")) fNil))) (fCons (fLst (fCons (fC (.str "exec")) (fCons (fC (.str "ta")) fNil))) (fCons (fLst (fCons (fC (.str "store")) (fCons (fC (.str "tva")) fNil))) (fCons (fLst (fCons (fC (.str "call")) (fCons (fC (.str "vVX")) fNil))) (fCons (fLst (fCons (fC (.str "resume")) (fCons (fC (.str "axv")) fNil))) (fCons (fLst (fCons (fC (.str "value")) (fCons (fC (.str "v")) fNil))) (fCons (fLst (fCons (fC (.str "done")) (fCons (fC (.str "")) fNil))) (fCons (fLst (fCons (fC (.str "leave")) (fCons (fC (.str "s")) fNil))) (fCons (fLst (fCons (fC (.str "give")) (fCons (fC (.str "v")) fNil))) (fCons (fLst (fCons (fC (.str "ask")) (fCons (fC (.str "xV")) fNil))) fNil))))))))))))
theorem ok__law_controls {P : Program} {w : World} {K : PySem.W.Frag} {mg : Str → Option Value} {base : Heap} {k : Nat} (M : Mods mg) (Dd : DefAt K mg "_law_controls" s__law_controls []) :
    FnAt P w K mg base "_law_controls" (k + 1) 0 (mFn0 0 (b__law_controls)) :=
  fnAt Dd sc__law_controls fun f cdv A outer s H E hr => ⟨_, (pss_one (ps_ret (pe_lst (pa_cons (pe_lst (pa_cons pe_str (pa_cons pe_str pa_nil))) (pa_cons (pe_lst (pa_cons pe_str (pa_cons pe_str pa_nil))) (pa_cons (pe_lst (pa_cons pe_str (pa_cons pe_str pa_nil))) (pa_cons (pe_lst (pa_cons pe_str (pa_cons pe_str pa_nil))) (pa_cons (pe_lst (pa_cons pe_str (pa_cons pe_str pa_nil))) (pa_cons (pe_lst (pa_cons pe_str (pa_cons pe_str pa_nil))) (pa_cons (pe_lst (pa_cons pe_str (pa_cons pe_str pa_nil))) (pa_cons (pe_lst (pa_cons pe_str (pa_cons pe_str pa_nil))) (pa_cons (pe_lst (pa_cons pe_str (pa_cons pe_str pa_nil))) (pa_cons (pe_lst (pa_cons pe_str (pa_cons pe_str pa_nil))) pa_nil))))))))))))),
    (ls_ret (le_lst (la_cons (le_lst (la_cons (le_c fun _ _ => rfl) (la_cons (le_c fun _ _ => rfl) la_nil)) (len_cons (len_cons len_nil)) (by decide : 2 ≤ sizeLine)) (la_cons (le_lst (la_cons (le_c fun _ _ => rfl) (la_cons (le_c fun _ _ => rfl) la_nil)) (len_cons (len_cons len_nil)) (by decide : 2 ≤ sizeLine)) (la_cons (le_lst (la_cons (le_c fun _ _ => rfl) (la_cons (le_c fun _ _ => rfl) la_nil)) (len_cons (len_cons len_nil)) (by decide : 2 ≤ sizeLine)) (la_cons (le_lst (la_cons (le_c fun _ _ => rfl) (la_cons (le_c fun _ _ => rfl) la_nil)) (len_cons (len_cons len_nil)) (by decide : 2 ≤ sizeLine)) (la_cons (le_lst (la_cons (le_c fun _ _ => rfl) (la_cons (le_c fun _ _ => rfl) la_nil)) (len_cons (len_cons len_nil)) (by decide : 2 ≤ sizeLine)) (la_cons (le_lst (la_cons (le_c fun _ _ => rfl) (la_cons (le_c fun _ _ => rfl) la_nil)) (len_cons (len_cons len_nil)) (by decide : 2 ≤ sizeLine)) (la_cons (le_lst (la_cons (le_c fun _ _ => rfl) (la_cons (le_c fun _ _ => rfl) la_nil)) (len_cons (len_cons len_nil)) (by decide : 2 ≤ sizeLine)) (la_cons (le_lst (la_cons (le_c fun _ _ => rfl) (la_cons (le_c fun _ _ => rfl) la_nil)) (len_cons (len_cons len_nil)) (by decide : 2 ≤ sizeLine)) (la_cons (le_lst (la_cons (le_c fun _ _ => rfl) (la_cons (le_c fun _ _ => rfl) la_nil)) (len_cons (len_cons len_nil)) (by decide : 2 ≤ sizeLine)) (la_cons (le_lst (la_cons (le_c fun _ _ => rfl) (la_cons (le_c fun _ _ => rfl) la_nil)) (len_cons (len_cons len_nil)) (by decide : 2 ≤ sizeLine)) la_nil)))))))))) (len_cons (len_cons (len_cons (len_cons (len_cons (len_cons (len_cons (len_cons (len_cons (len_cons len_nil)))))))))) (by decide : 10 ≤ sizeLine)))⟩
/-! ### _law_frames -/
abbrev s__law_frames : Stmt := topS 30
theorem sc__law_frames : FnScope ["words", "rows", "word", "parts"] [] (defScope s__law_frames) := ⟨rfl, rfl, rfl, by decide +kernel, rfl, by decide +kernel, by decide +kernel⟩
noncomputable def b__law_frames : MS :=
    (mSeq (mSet 0 (fC (.str "neg|not|bin1 xta|bin2 xv|and ta|or ta|choice tta|cmp1 ta|cmp2 vxta|cmp3 vta|attr x|item1 ta|item2 v|")))
    (mSeq (mSet 0 (fBin opAdd (fVar 0) (fC (.str "part1 tta|part2 vta|part3 vv|items xVta|dict1 Wtta|dict2 Wvta|call1 tta|args vVtXta|rest ta|drop|"))))
    (mSeq (mSet 0 (fBin opAdd (fVar 0) (fC (.str "put ta|del1 ta|del2 v|ret|throw|if tta|while1 ttan|while2 ttan|for1 ttan|for2 ttan|for3 vttan|"))))
    (mSeq (mSet 0 (fBin opAdd (fVar 0) (fC (.str "for4 vttan|for5 vttan|def xtttXta|class1 xtta|class2 xbaa|catch ta|match vta|handling v|final ta|"))))
    (mSeq (mSet 0 (fBin opAdd (fVar 0) (fC (.str "after s|giving ta|sent ta|setattr xv|seti1 tva|seti2 vv|unpack tVa|forget|body xn|init v|"))))
    (mSeq (mSet 0 (fBin opAdd (fVar 0) (fC (.str "genbody axnx|begin ta|want x|print vV|gather1 x|gather xvV|default v"))))
    (mSeq (mSet 1 (fMat (fLst fNil)))
    (mSeq (mFor (fiSeq (fM1 opSplit (fVar 0) (fC (.str "|")))) (gdName 2)
    (mSeq (mSet 3 (fM0 opWords (fVar 2)))
    (mIf (tVal (fBin opEq (fArgs cLen (fCons (fVar 3) fNil)) (fC (.int 1))))
    (mExpr (fBML opAppend (fVar 1) (fCons (fLst (fCons (fBin opIx (fVar 3) (fC (.int 0))) (fCons (fC (.str "")) fNil))) fNil)))
    (mExpr (fBML opAppend (fVar 1) (fCons (fLst (fCons (fBin opIx (fVar 3) (fC (.int 0))) (fCons (fBin opIx (fVar 3) (fC (.int 1))) fNil))) fNil))))))
    (mRet (fVar 1))))))))))
theorem ok__law_frames {P : Program} {w : World} {K : PySem.W.Frag} {mg : Str → Option Value} {base : Heap} {k : Nat} (M : Mods mg) (Dd : DefAt K mg "_law_frames" s__law_frames []) :
    FnAt P w K mg base "_law_frames" (k + 1) 0 (mFn0 4 (b__law_frames)) :=
  fnAt Dd sc__law_frames fun f cdv A outer s H E hr => ⟨_, (pss_cons (ps_set (i := 0) sc__law_frames.nd rfl (by first | exact .inl rfl | exact .inr rfl) pe_str) (pss_cons (ps_set (i := 0) sc__law_frames.nd rfl (by first | exact .inl rfl | exact .inr rfl) (pe_op op_addQ (pv 0) pe_str)) (pss_cons (ps_set (i := 0) sc__law_frames.nd rfl (by first | exact .inl rfl | exact .inr rfl) (pe_op op_addQ (pv 0) pe_str)) (pss_cons (ps_set (i := 0) sc__law_frames.nd rfl (by first | exact .inl rfl | exact .inr rfl) (pe_op op_addQ (pv 0) pe_str)) (pss_cons (ps_set (i := 0) sc__law_frames.nd rfl (by first | exact .inl rfl | exact .inr rfl) (pe_op op_addQ (pv 0) pe_str)) (pss_cons (ps_set (i := 0) sc__law_frames.nd rfl (by first | exact .inl rfl | exact .inr rfl) (pe_op op_addQ (pv 0) pe_str)) (pss_cons (ps_set (i := 1) sc__law_frames.nd rfl (by first | exact .inl rfl | exact .inr rfl) (pe_lst pa_nil)) (pss_cons (ps_for PassesOwn.never rfl (pi_seq (pe_split (pv 0) pe_str)) (pg_name (i := 2) sc__law_frames.nd rfl (by first | exact .inl rfl | exact .inr rfl)) (pss_cons (ps_set (i := 3) sc__law_frames.nd rfl (by first | exact .inl rfl | exact .inr rfl) (pe_words (pv 2))) (pss_one (ps_if (pt_cmpR (op_eqQ hr.units) (pe_callB call_lenQ (by rfl) M.m_len bb_len (pa_cons (pv 3) pa_nil)) pe_int (nomark _)) (pss_one (ps_expr (pe_bm PySem.F.plainAttrs_list PySem.F.slot_list_append PySem.F.type_list_append mt_append (pv 1) (pa_cons (pe_lst (pa_cons (pe_ix ix_seq (pv 3) pe_int (fun _ _ => rfl)) (pa_cons pe_str pa_nil))) pa_nil)))) (pss_one (ps_expr (pe_bm PySem.F.plainAttrs_list PySem.F.slot_list_append PySem.F.type_list_append mt_append (pv 1) (pa_cons (pe_lst (pa_cons (pe_ix ix_seq (pv 3) pe_int (fun _ _ => rfl)) (pa_cons (pe_ix ix_seq (pv 3) pe_int (fun _ _ => rfl)) pa_nil))) pa_nil)))))))) (pss_one (ps_ret (pv 1))))))))))),
    (ls_seq (ls_set (le_c fun _ _ => rfl)) (ls_seq (ls_set (le_bin le_var (le_c fun _ _ => rfl) opAdd_ok)) (ls_seq (ls_set (le_bin le_var (le_c fun _ _ => rfl) opAdd_ok)) (ls_seq (ls_set (le_bin le_var (le_c fun _ _ => rfl) opAdd_ok)) (ls_seq (ls_set (le_bin le_var (le_c fun _ _ => rfl) opAdd_ok)) (ls_seq (ls_set (le_bin le_var (le_c fun _ _ => rfl) opAdd_ok)) (ls_seq (ls_set (le_mat (le_lst la_nil len_nil (by decide : 0 ≤ sizeLine)))) (ls_seq (ls_for (li_seq (le_m1 le_var (le_c fun _ _ => rfl) opSplit_ok)) lg_name (ls_seq (ls_set (le_m0 le_var opWords_ok)) (ls_if (lt_test (le_bin (le_args (la_cons le_var la_nil) cLen_ok) (le_c fun _ _ => rfl) opEq_ok)) (ls_expr (le_bml le_var (la_cons (le_lst (la_cons (le_bin le_var (le_c fun _ _ => rfl) opIx_ok) (la_cons (le_c fun _ _ => rfl) la_nil)) (len_cons (len_cons len_nil)) (by decide : 2 ≤ sizeLine)) la_nil) opAppend_ok)) (ls_expr (le_bml le_var (la_cons (le_lst (la_cons (le_bin le_var (le_c fun _ _ => rfl) opIx_ok) (la_cons (le_bin le_var (le_c fun _ _ => rfl) opIx_ok) la_nil)) (len_cons (len_cons len_nil)) (by decide : 2 ≤ sizeLine)) la_nil) opAppend_ok))))) (ls_ret le_var)))))))))⟩
/-! ### _law_letters -/
abbrev s__law_letters : Stmt := topS 31
theorem sc__law_letters : FnScope ["table", "kind", "row"] ["table", "kind"] (defScope s__law_letters) := ⟨rfl, rfl, rfl, by decide +kernel, rfl, by decide +kernel, by decide +kernel⟩
noncomputable def b__law_letters : MS :=
    (mSeq (mFor (fiSeq (fVar 0)) (gdName 2)
    (mIf (tVal (fBin opEq (fBin opIx (fVar 2) (fC (.int 0))) (fVar 1)))
    (mRet (fBin opIx (fVar 2) (fC (.int 1))))
    mNil))
    (mRet (fC (.str ""))))
theorem ok__law_letters {P : Program} {w : World} {K : PySem.W.Frag} {mg : Str → Option Value} {base : Heap} {k : Nat} (M : Mods mg) (Dd : DefAt K mg "_law_letters" s__law_letters ["table", "kind"]) :
    FnAt P w K mg base "_law_letters" (k + 1) 2 (mFn0 3 (b__law_letters)) :=
  fnAt Dd sc__law_letters fun f cdv A outer s H E hr => ⟨_, (pss_cons (ps_for PassesOwn.never rfl (pi_seq (pv 0)) (pg_name (i := 2) sc__law_letters.nd rfl (by first | exact .inl rfl | exact .inr rfl)) (pss_one (ps_if (pt_cmpR (op_eqQ hr.units) (pe_ix ix_seq (pv 2) pe_int (fun _ _ => rfl)) (pv 1) (nomark _)) (pss_one (ps_ret (pe_ix ix_seq (pv 2) pe_int (fun _ _ => rfl)))) pss_nil))) (pss_one (ps_ret pe_str))),
    (ls_seq (ls_for (li_seq le_var) lg_name (ls_if (lt_test (le_bin (le_bin le_var (le_c fun _ _ => rfl) opIx_ok) le_var opEq_ok)) (ls_ret (le_bin le_var (le_c fun _ _ => rfl) opIx_ok)) ls_nil)) (ls_ret (le_c fun _ _ => rfl)))⟩
/-! ### _law_values -/
abbrev s__law_values : Stmt := topS 32
theorem sc__law_values : FnScope ["letter", "field", "values", "pair"] ["letter", "field"] (defScope s__law_values) := ⟨rfl, rfl, rfl, by decide +kernel, rfl, by decide +kernel, by decide +kernel⟩
noncomputable def b__law_values : MS :=
    (mSeq (mIf (tVal (fBin opEq (fVar 0) (fC (.str "v"))))
    (mRet (fLst (fCons (fVar 1) fNil)))
    mNil)
    (mSeq (mIf (tVal (fBin opEq (fVar 0) (fC (.str "V"))))
    (mRet (fArgs cList (fCons (fVar 1) fNil)))
    mNil)
    (mSeq (mSet 2 (fMat (fLst fNil)))
    (mSeq (mIf (tVal (fBin opEq (fVar 0) (fC (.str "W"))))
    (mFor (fiSeq (fVar 1)) (gdName 3)
    (mSeq (mExpr (fBML opAppend (fVar 2) (fCons (fBin opIx (fVar 3) (fC (.int 0))) fNil)))
    (mExpr (fBML opAppend (fVar 2) (fCons (fBin opIx (fVar 3) (fC (.int 1))) fNil)))))
    mNil)
    (mSeq (mIf (tVal (fBin opEq (fVar 0) (fC (.str "X"))))
    (mSet 2 (fMat (fLc (fiSeq (fVar 1)) (gdName 3) (fun _ st => .ok true st) (fBin opIx (fVar 3) (fC (.int 1))) [3])))
    mNil)
    (mSeq (mIf (tAndF (tVal (fBin opEq (fVar 0) (fC (.str "s")))) (tVal (fBin opEq (fArgs cLen (fCons (fVar 1) fNil)) (fC (.int 2)))))
    (mExpr (fBML opAppend (fVar 2) (fCons (fBin opIx (fVar 1) (fC (.int 1))) fNil)))
    mNil)
    (mRet (fVar 2))))))))
theorem ok__law_values {P : Program} {w : World} {K : PySem.W.Frag} {mg : Str → Option Value} {base : Heap} {k : Nat} (M : Mods mg) (Dd : DefAt K mg "_law_values" s__law_values ["letter", "field"]) :
    FnAt P w K mg base "_law_values" (k + 1) 2 (mFn0 4 (b__law_values)) :=
  fnAt Dd sc__law_values fun f cdv A outer s H E hr => ⟨_, (pss_cons (ps_if (pt_cmpR (op_eqQ hr.units) (pv 0) pe_str (nomark _)) (pss_one (ps_ret (pe_lst (pa_cons (pv 1) pa_nil)))) pss_nil) (pss_cons (ps_if (pt_cmpR (op_eqQ hr.units) (pv 0) pe_str (nomark _)) (pss_one (ps_ret (pe_callTy call_list_of (by rfl) M.m_list bb_list (pa_cons (pv 1) pa_nil)))) pss_nil) (pss_cons (ps_set (i := 2) sc__law_values.nd rfl (by first | exact .inl rfl | exact .inr rfl) (pe_lst pa_nil)) (pss_cons (ps_if (pt_cmpR (op_eqQ hr.units) (pv 0) pe_str (nomark _)) (pss_one (ps_for PassesOwn.never rfl (pi_seq (pv 1)) (pg_name (i := 3) sc__law_values.nd rfl (by first | exact .inl rfl | exact .inr rfl)) (pss_cons (ps_expr (pe_bm PySem.F.plainAttrs_list PySem.F.slot_list_append PySem.F.type_list_append mt_append (pv 2) (pa_cons (pe_ix ix_seq (pv 3) pe_int (fun _ _ => rfl)) pa_nil))) (pss_one (ps_expr (pe_bm PySem.F.plainAttrs_list PySem.F.slot_list_append PySem.F.type_list_append mt_append (pv 2) (pa_cons (pe_ix ix_seq (pv 3) pe_int (fun _ _ => rfl)) pa_nil))))))) pss_nil) (pss_cons (ps_if (pt_cmpR (op_eqQ hr.units) (pv 0) pe_str (nomark _)) (pss_one (ps_setLc (i := 2) (own := [("pair", 3)]) rfl sc__law_values.nd rfl rfl (sw_true rfl rfl rfl (by decide +kernel)) (pi_seq (pv 1)) (blkOk_by (N := ["letter", "field", "values", "pair"]) (sc := defScope s__law_values) (own := [("pair", 3)]) (by decide +kernel)) (fun _ _ _ _ _ => (pg_name (i := 3) sc__law_values.nd rfl (by first | exact .inl rfl | exact .inr rfl))) (fun _ _ _ _ _ => pts_nil) (fun _ _ _ _ _ => (pe_ix ix_seq (pv 3) pe_int (fun _ _ => rfl))))) pss_nil) (pss_cons (ps_if (PW.pt (pw_and (pt_cmpR (op_eqQ hr.units) (pv 0) pe_str (nomark _)) (pw_and1 (pt_cmpR (op_eqQ hr.units) (pe_callB call_lenQ (by rfl) M.m_len bb_len (pa_cons (pv 1) pa_nil)) pe_int (nomark _))))) (pss_one (ps_expr (pe_bm PySem.F.plainAttrs_list PySem.F.slot_list_append PySem.F.type_list_append mt_append (pv 2) (pa_cons (pe_ix ix_seq (pv 1) pe_int (fun _ _ => rfl)) pa_nil)))) pss_nil) (pss_one (ps_ret (pv 2))))))))),
    (ls_seq (ls_if (lt_test (le_bin le_var (le_c fun _ _ => rfl) opEq_ok)) (ls_ret (le_lst (la_cons le_var la_nil) (len_cons len_nil) (by decide : 1 ≤ sizeLine))) ls_nil) (ls_seq (ls_if (lt_test (le_bin le_var (le_c fun _ _ => rfl) opEq_ok)) (ls_ret (le_args (la_cons le_var la_nil) cList_ok)) ls_nil) (ls_seq (ls_set (le_mat (le_lst la_nil len_nil (by decide : 0 ≤ sizeLine)))) (ls_seq (ls_if (lt_test (le_bin le_var (le_c fun _ _ => rfl) opEq_ok)) (ls_for (li_seq le_var) lg_name (ls_seq (ls_expr (le_bml le_var (la_cons (le_bin le_var (le_c fun _ _ => rfl) opIx_ok) la_nil) opAppend_ok)) (ls_expr (le_bml le_var (la_cons (le_bin le_var (le_c fun _ _ => rfl) opIx_ok) la_nil) opAppend_ok)))) ls_nil) (ls_seq (ls_if (lt_test (le_bin le_var (le_c fun _ _ => rfl) opEq_ok)) (ls_set (le_mat (le_lc (li_seq le_var) lg_name (by decide) lt_yes (le_bin le_var (le_c fun _ _ => rfl) opIx_ok)))) ls_nil) (ls_seq (ls_if (lt_and (lt_test (le_bin le_var (le_c fun _ _ => rfl) opEq_ok)) (lt_test (le_bin (le_args (la_cons le_var la_nil) cLen_ok) (le_c fun _ _ => rfl) opEq_ok))) (ls_expr (le_bml le_var (la_cons (le_bin le_var (le_c fun _ _ => rfl) opIx_ok) la_nil) opAppend_ok)) ls_nil) (ls_ret le_var)))))))⟩
/-! ### _law_refs -/
abbrev s__law_refs : Stmt := topS 33
theorem sc__law_refs : FnScope ["table", "item", "letters_v", "found", "k", "field", "frame", "value"] ["table", "item"] (defScope s__law_refs) := ⟨rfl, rfl, rfl, by decide +kernel, rfl, by decide +kernel, by decide +kernel⟩
noncomputable def b__law_refs (c__law_letters : Fn) (c__law_refs : Fn) (c__law_frames : Fn) (c__law_values : Fn) : MS :=
    (mSeq (mSet 2 (fCall0 c__law_letters (fCons (fVar 0) (fCons (fBin opIx (fVar 1) (fC (.int 0))) fNil))))
    (mSeq (mSet 3 (fMat (fLst fNil)))
    (mSeq (mFor (fiRng1 (fCons (fArgs cLen (fCons (fVar 2) fNil)) fNil)) (gdName 4)
    (mSeq (mSet 5 (fBin opIx (fVar 1) (fBin opAdd (fVar 4) (fC (.int 1)))))
    (mIf (tVal (fBin opEq (fBin opIx (fVar 2) (fVar 4)) (fC (.str "a"))))
    (mExpr (fBML opAppend (fVar 3) (fCons (fVar 5) fNil)))
    (mIf (tVal (fBin opEq (fBin opIx (fVar 2) (fVar 4)) (fC (.str "b"))))
    (mSet 3 (fMat (fBin opAdd (fVar 3) (fBin opMul (fLst (fCons (fVar 5) fNil)) (fArgs cInt (fCons (fBin (opCmp cGe) (fVar 5) (fC (.int 0))) fNil))))))
    (mIf (tVal (fBin opEq (fBin opIx (fVar 2) (fVar 4)) (fC (.str "F"))))
    (mFor (fiSeq (fVar 5)) (gdName 6)
    (mSet 3 (fMat (fBin opAdd (fVar 3) (fCall0 c__law_refs (fCons (fCall0 c__law_frames fNil) (fCons (fVar 6) fNil)))))))
    (mSet 3 (fMat (fBin opAdd (fVar 3) (fLc (fiSeq (fCall0 c__law_values (fCons (fBin opIx (fVar 2) (fVar 4)) (fCons (fVar 5) fNil)))) (gdName 7) (tVal (fBin opEq (fBin opIx (fVar 7) (fC (.int 0))) (fC (.str "ref")))) (fBin opIx (fVar 7) (fC (.int 1))) [7])))))))))
    (mRet (fVar 3)))))
theorem ok__law_refs {P : Program} {w : World} {K : PySem.W.Frag} {mg : Str → Option Value} {base : Heap} {k : Nat} (M : Mods mg) (Dd : DefAt K mg "_law_refs" s__law_refs ["table", "item"]) {kk__law_letters : Nat} {c__law_letters : Fn} (h__law_letters : FnAt P w K mg base "_law_letters" kk__law_letters 2 c__law_letters) (k__law_letters : kk__law_letters ≤ k) {kk__law_refs : Nat} {c__law_refs : Fn} (h__law_refs : FnAt P w K mg base "_law_refs" kk__law_refs 2 c__law_refs) (k__law_refs : kk__law_refs ≤ k) {kk__law_frames : Nat} {c__law_frames : Fn} (h__law_frames : FnAt P w K mg base "_law_frames" kk__law_frames 0 c__law_frames) (k__law_frames : kk__law_frames ≤ k) {kk__law_values : Nat} {c__law_values : Fn} (h__law_values : FnAt P w K mg base "_law_values" kk__law_values 2 c__law_values) (k__law_values : kk__law_values ≤ k) :
    FnAt P w K mg base "_law_refs" (k + 1) 2 (mFn0 8 (b__law_refs c__law_letters c__law_refs c__law_frames c__law_values)) :=
  fnAt Dd sc__law_refs fun f cdv A outer s H E hr => ⟨_, (pss_cons (ps_set (i := 2) sc__law_refs.nd rfl (by first | exact .inl rfl | exact .inr rfl) (pe_callA h__law_letters (hr.mono k__law_letters) (by rfl) (pa_cons (pv 0) (pa_cons (pe_ix ix_seq (pv 1) pe_int (fun _ _ => rfl)) pa_nil)))) (pss_cons (ps_set (i := 3) sc__law_refs.nd rfl (by first | exact .inl rfl | exact .inr rfl) (pe_lst pa_nil)) (pss_cons (ps_for PassesOwn.never rfl (pi_range1 (by rfl) M.m_range (pa_cons (pe_callB call_lenQ (by rfl) M.m_len bb_len (pa_cons (pv 2) pa_nil)) pa_nil)) (pg_name (i := 4) sc__law_refs.nd rfl (by first | exact .inl rfl | exact .inr rfl)) (pss_cons (ps_set (i := 5) sc__law_refs.nd rfl (by first | exact .inl rfl | exact .inr rfl) (pe_ix ix_seq (pv 1) (pe_op op_addQ (pv 4) pe_int) (fun _ _ => rfl))) (pss_one (ps_if (pt_cmpR (op_eqQ hr.units) (pe_ix ix_seq (pv 2) (pv 4) (fun _ _ => rfl)) pe_str (nomark _)) (pss_one (ps_expr (pe_bm PySem.F.plainAttrs_list PySem.F.slot_list_append PySem.F.type_list_append mt_append (pv 3) (pa_cons (pv 5) pa_nil)))) (pss_one (ps_if (pt_cmpR (op_eqQ hr.units) (pe_ix ix_seq (pv 2) (pv 4) (fun _ _ => rfl)) pe_str (nomark _)) (pss_one (ps_set (i := 3) sc__law_refs.nd rfl (by first | exact .inl rfl | exact .inr rfl) (pe_op op_addQ (pv 3) (pe_op op_mulQ (pe_lst (pa_cons (pv 5) pa_nil)) (pe_callTy call_int1 (by rfl) M.m_int bb_int (pa_cons (pe_cmpR op_ge (pv 5) pe_int (nomark _)) pa_nil)))))) (pss_one (ps_if (pt_cmpR (op_eqQ hr.units) (pe_ix ix_seq (pv 2) (pv 4) (fun _ _ => rfl)) pe_str (nomark _)) (pss_one (ps_for PassesOwn.never rfl (pi_seq (pv 5)) (pg_name (i := 6) sc__law_refs.nd rfl (by first | exact .inl rfl | exact .inr rfl)) (pss_one (ps_set (i := 3) sc__law_refs.nd rfl (by first | exact .inl rfl | exact .inr rfl) (pe_op op_addQ (pv 3) (pe_callA h__law_refs (hr.mono k__law_refs) (by rfl) (pa_cons (pe_callA0 h__law_frames (hr.mono k__law_frames) (by rfl)) (pa_cons (pv 6) pa_nil)))))))) (pss_one (ps_set (i := 3) sc__law_refs.nd rfl (by first | exact .inl rfl | exact .inr rfl) (pe_op op_addQ (pv 3) (pe_lc (own := [("value", 7)]) rfl sc__law_refs.nd (pi_seq (pe_callA h__law_values (hr.mono k__law_values) (by rfl) (pa_cons (pe_ix ix_seq (pv 2) (pv 4) (fun _ _ => rfl)) (pa_cons (pv 5) pa_nil)))) (blkOk_by (N := ["table", "item", "letters_v", "found", "k", "field", "frame", "value"]) (sc := defScope s__law_refs) (own := [("value", 7)]) (by decide +kernel)) (fun _ _ _ _ _ => (pg_name (i := 7) sc__law_refs.nd rfl (by first | exact .inl rfl | exact .inr rfl))) (fun _ _ _ _ _ => (pts_one (pt_cmpR (op_eqQ hr.units) (pe_ix ix_seq (pv 7) pe_int (fun _ _ => rfl)) pe_str (nomark _)))) (fun _ _ _ _ _ => (pe_ix ix_seq (pv 7) pe_int (fun _ _ => rfl))))))))))))))) (pss_one (ps_ret (pv 3)))))),
    (ls_seq (ls_set (le_call0 (la_cons le_var (la_cons (le_bin le_var (le_c fun _ _ => rfl) opIx_ok) la_nil)) (len_cons (len_cons len_nil)))) (ls_seq (ls_set (le_mat (le_lst la_nil len_nil (by decide : 0 ≤ sizeLine)))) (ls_seq (ls_for (li_rng1 (la_cons (le_args (la_cons le_var la_nil) cLen_ok) la_nil)) lg_name (ls_seq (ls_set (le_bin le_var (le_bin le_var (le_c fun _ _ => rfl) opAdd_ok) opIx_ok)) (ls_if (lt_test (le_bin (le_bin le_var le_var opIx_ok) (le_c fun _ _ => rfl) opEq_ok)) (ls_expr (le_bml le_var (la_cons le_var la_nil) opAppend_ok)) (ls_if (lt_test (le_bin (le_bin le_var le_var opIx_ok) (le_c fun _ _ => rfl) opEq_ok)) (ls_set (le_mat (le_bin le_var (le_bin (le_lst (la_cons le_var la_nil) (len_cons len_nil) (by decide : 1 ≤ sizeLine)) (le_args (la_cons (le_bin le_var (le_c fun _ _ => rfl) opCmp_ok) la_nil) cInt_ok) opMul_ok) opAdd_ok))) (ls_if (lt_test (le_bin (le_bin le_var le_var opIx_ok) (le_c fun _ _ => rfl) opEq_ok)) (ls_for (li_seq le_var) lg_name (ls_set (le_mat (le_bin le_var (le_call0 (la_cons (le_call0 la_nil len_nil) (la_cons le_var la_nil)) (len_cons (len_cons len_nil))) opAdd_ok)))) (ls_set (le_mat (le_bin le_var (le_lc (li_seq (le_call0 (la_cons (le_bin le_var le_var opIx_ok) (la_cons le_var la_nil)) (len_cons (len_cons len_nil)))) lg_name (by decide) (lt_test (le_bin (le_bin le_var (le_c fun _ _ => rfl) opIx_ok) (le_c fun _ _ => rfl) opEq_ok)) (le_bin le_var (le_c fun _ _ => rfl) opIx_ok)) opAdd_ok)))))))) (ls_ret le_var))))⟩
/-! ### _law_tables -/
abbrev s__law_tables : Stmt := topS 34
theorem sc__law_tables : FnScope ["kind"] [] (defScope s__law_tables) := ⟨rfl, rfl, rfl, by decide +kernel, rfl, by decide +kernel, by decide +kernel⟩
noncomputable def b__law_tables (c__law_objects : Fn) (c__law_controls : Fn) (c__law_frames : Fn) : MS :=
    (mSeq (mIf (tVal (fBin opNe (fLc (fiKeys ((tabV tab_OBJECTS).map (·.1))) (gdName 0) (fun _ st => .ok true st) (fLst (fCons (fVar 0) (fCons (fKIx (tabG tab_OBJECTS) (fVar 0)) fNil))) [0]) (fCall0 c__law_objects fNil)))
    (mRet (fC (.bl false)))
    mNil)
    (mSeq (mIf (tVal (fBin opNe (fLc (fiKeys ((tabV tab_CONTROLS).map (·.1))) (gdName 0) (fun _ st => .ok true st) (fLst (fCons (fVar 0) (fCons (fKIx (tabG tab_CONTROLS) (fVar 0)) fNil))) [0]) (fCall0 c__law_controls fNil)))
    (mRet (fC (.bl false)))
    mNil)
    (mRet (fBin opEq (fLc (fiKeys ((tabV tab_FIELDS).map (·.1))) (gdName 0) (fun _ st => .ok true st) (fLst (fCons (fVar 0) (fCons (fKIx (tabG tab_FIELDS) (fVar 0)) fNil))) [0]) (fCall0 c__law_frames fNil)))))
theorem ok__law_tables {P : Program} {w : World} {K : PySem.W.Frag} {mg : Str → Option Value} {base : Heap} {k : Nat} (M : Mods mg) (Dd : DefAt K mg "_law_tables" s__law_tables []) {d_OBJECTS : Addr} (g_OBJECTS : mg "OBJECTS" = some (.ref d_OBJECTS)) (t_OBJECTS : KTab K w d_OBJECTS (tabV tab_OBJECTS)) {d_CONTROLS : Addr} (g_CONTROLS : mg "CONTROLS" = some (.ref d_CONTROLS)) (t_CONTROLS : KTab K w d_CONTROLS (tabV tab_CONTROLS)) {d_FIELDS : Addr} (g_FIELDS : mg "FIELDS" = some (.ref d_FIELDS)) (t_FIELDS : KTab K w d_FIELDS (tabV tab_FIELDS)) {kk__law_objects : Nat} {c__law_objects : Fn} (h__law_objects : FnAt P w K mg base "_law_objects" kk__law_objects 0 c__law_objects) (k__law_objects : kk__law_objects ≤ k) {kk__law_controls : Nat} {c__law_controls : Fn} (h__law_controls : FnAt P w K mg base "_law_controls" kk__law_controls 0 c__law_controls) (k__law_controls : kk__law_controls ≤ k) {kk__law_frames : Nat} {c__law_frames : Fn} (h__law_frames : FnAt P w K mg base "_law_frames" kk__law_frames 0 c__law_frames) (k__law_frames : kk__law_frames ≤ k) :
    FnAt P w K mg base "_law_tables" (k + 1) 0 (mFn0 1 (b__law_tables c__law_objects c__law_controls c__law_frames)) :=
  fnAt Dd sc__law_tables fun f cdv A outer s H E hr => ⟨_, (pss_cons (ps_if (pt_cmpR (op_neQ hr.units) (pe_lc (own := [("kind", 0)]) rfl sc__law_tables.nd (pi_keysK t_OBJECTS (by rfl) g_OBJECTS) (blkOk_by (N := ["kind"]) (sc := defScope s__law_tables) (own := [("kind", 0)]) (by decide +kernel)) (fun _ _ _ _ _ => (pg_name (i := 0) sc__law_tables.nd rfl (by first | exact .inl rfl | exact .inr rfl))) (fun _ _ _ _ _ => pts_nil) (fun _ _ _ _ _ => (pe_lst (pa_cons (pv 0) (pa_cons (pe_ix ix_kdict (pe_glob (v := .ref d_OBJECTS) (by rfl) g_OBJECTS rfl) (pv 0) (fun _ _ => rfl)) pa_nil))))) (pe_callA0 h__law_objects (hr.mono k__law_objects) (by rfl)) (nomark _)) (pss_one (ps_ret pe_bl)) pss_nil) (pss_cons (ps_if (pt_cmpR (op_neQ hr.units) (pe_lc (own := [("kind", 0)]) rfl sc__law_tables.nd (pi_keysK t_CONTROLS (by rfl) g_CONTROLS) (blkOk_by (N := ["kind"]) (sc := defScope s__law_tables) (own := [("kind", 0)]) (by decide +kernel)) (fun _ _ _ _ _ => (pg_name (i := 0) sc__law_tables.nd rfl (by first | exact .inl rfl | exact .inr rfl))) (fun _ _ _ _ _ => pts_nil) (fun _ _ _ _ _ => (pe_lst (pa_cons (pv 0) (pa_cons (pe_ix ix_kdict (pe_glob (v := .ref d_CONTROLS) (by rfl) g_CONTROLS rfl) (pv 0) (fun _ _ => rfl)) pa_nil))))) (pe_callA0 h__law_controls (hr.mono k__law_controls) (by rfl)) (nomark _)) (pss_one (ps_ret pe_bl)) pss_nil) (pss_one (ps_ret (pe_cmpR (op_eqQ hr.units) (pe_lc (own := [("kind", 0)]) rfl sc__law_tables.nd (pi_keysK t_FIELDS (by rfl) g_FIELDS) (blkOk_by (N := ["kind"]) (sc := defScope s__law_tables) (own := [("kind", 0)]) (by decide +kernel)) (fun _ _ _ _ _ => (pg_name (i := 0) sc__law_tables.nd rfl (by first | exact .inl rfl | exact .inr rfl))) (fun _ _ _ _ _ => pts_nil) (fun _ _ _ _ _ => (pe_lst (pa_cons (pv 0) (pa_cons (pe_ix ix_kdict (pe_glob (v := .ref d_FIELDS) (by rfl) g_FIELDS rfl) (pv 0) (fun _ _ => rfl)) pa_nil))))) (pe_callA0 h__law_frames (hr.mono k__law_frames) (by rfl)) (nomark _)))))),
    (ls_seq (ls_if (lt_test (le_bin (le_lc li_keys lg_name (by decide) lt_yes (le_lst (la_cons le_var (la_cons (le_kix t_OBJECTS tabG_ok le_var) la_nil)) (len_cons (len_cons len_nil)) (by decide : 2 ≤ sizeLine))) (le_call0 la_nil len_nil) opNe_ok)) (ls_ret (le_c fun _ _ => rfl)) ls_nil) (ls_seq (ls_if (lt_test (le_bin (le_lc li_keys lg_name (by decide) lt_yes (le_lst (la_cons le_var (la_cons (le_kix t_CONTROLS tabG_ok le_var) la_nil)) (len_cons (len_cons len_nil)) (by decide : 2 ≤ sizeLine))) (le_call0 la_nil len_nil) opNe_ok)) (ls_ret (le_c fun _ _ => rfl)) ls_nil) (ls_ret (le_bin (le_lc li_keys lg_name (by decide) lt_yes (le_lst (la_cons le_var (la_cons (le_kix t_FIELDS tabG_ok le_var) la_nil)) (len_cons (len_cons len_nil)) (by decide : 2 ≤ sizeLine))) (le_call0 la_nil len_nil) opEq_ok))))⟩
/-! ### law -/
abbrev s_law : Stmt := topS 35
theorem sc_law : FnScope ["script", "box", "cell", "many", "item", "first", "pairs", "k", "control", "table", "frame"] ["script"] (defScope s_law) := ⟨rfl, rfl, rfl, by decide +kernel, rfl, by decide +kernel, by decide +kernel⟩
noncomputable def b_law (c__law_tables : Fn) (c__law_digits : Fn) (c__law_cell : Fn) (c__law_shape_of : Fn) (c__law_objects : Fn) (c__law_list_is : Fn) (c_object_references : Fn) (c__law_refs : Fn) (c__law_draw : Fn) (c__law_controls : Fn) (c_control_references : Fn) (c__law_frames : Fn) (c_frame_references : Fn) : MS :=
    (mSeq (mIf (tNotF (fTru (fCall0 c__law_tables fNil)))
    (mRet (fC (.bl false)))
    mNil)
    (mSeq (mSet 1 (fMat (fLst (fCons (fCall0 c__law_digits (fCons (fVar 0) (fCons (fC (.int 1)) (fCons (fC (.int 50)) fNil)))) (fCons (fC (.int 0)) fNil)))))
    (mSeq (mSet 2 (fCall0 c__law_cell (fCons (fVar 0) (fCons (fC (.int 0)) fNil))))
    (mSeq (mSet 3 (fBin opIx (fLst (fCons (fC (.int 7)) (fCons (fC (.int 1000)) fNil))) (fBin opMod (fArgs cInt (fCons (fVar 2) fNil)) (fC (.int 2)))))
    (mSeq (mSet 4 (fCall0 c__law_shape_of (fCons (fVar 1) (fCons (fBin opIx (fCall0 c__law_objects fNil) (fBin opMod (fArgs cInt (fCons (fBin opFdiv (fVar 2) (fC (.int 2))) fNil)) (fC (.int 10)))) (fCons (fVar 3) fNil)))))
    (mSeq (mIf (tNotF (fTru (fCall0 c__law_list_is (fCons (fCall0 c_object_references (fCons (fVar 4) fNil)) (fCons (fCall0 c__law_refs (fCons (fCall0 c__law_objects fNil) (fCons (fVar 4) fNil))) fNil)))))
    (mRet (fC (.bl false)))
    mNil)
    (mSeq (mAsgG (gdTup 2 (gdCons (gdName 5) (gdCons (gdName 6) gdNil))) (fTup (fCons (fCall0 c__law_draw (fCons (fVar 1) (fCons (fC (.int 900)) fNil))) (fCons (fMat (fLst fNil)) fNil))))
    (mSeq (mFor (fiRng1 (fCons (fBin opAdd (fC (.int 2)) (fCall0 c__law_draw (fCons (fVar 1) (fCons (fC (.int 3)) fNil)))) fNil)) (gdName 7)
    (mExpr (fBML opAppend (fVar 6) (fCons (fTup (fCons (fTup (fCons (fC (.str "ref")) (fCons (fBin opAdd (fVar 5) (fBin opMul (fC (.int 2)) (fVar 7))) fNil))) (fCons (fTup (fCons (fC (.str "ref")) (fCons (fBin opAdd (fBin opAdd (fVar 5) (fBin opMul (fC (.int 2)) (fVar 7))) (fC (.int 1))) fNil))) fNil))) fNil))))
    (mSeq (mIf (tNotF (fTru (fCall0 c__law_list_is (fCons (fCall0 c_object_references (fCons (fTup (fCons (fC (.str "dict")) (fCons (fArgs cTup (fCons (fVar 6) fNil)) fNil))) fNil)) (fCons (fLc (fiRng1 (fCons (fBin opMul (fC (.int 2)) (fArgs cLen (fCons (fVar 6) fNil))) fNil)) (gdName 7) (fun _ st => .ok true st) (fBin opAdd (fVar 5) (fVar 7)) [7]) fNil)))))
    (mRet (fC (.bl false)))
    mNil)
    (mSeq (mSet 8 (fCall0 c__law_shape_of (fCons (fVar 1) (fCons (fBin opIx (fCall0 c__law_controls fNil) (fBin opMod (fArgs cInt (fCons (fBin opFdiv (fVar 2) (fC (.int 20))) fNil)) (fC (.int 10)))) (fCons (fVar 3) fNil)))))
    (mSeq (mIf (tNotF (fTru (fCall0 c__law_list_is (fCons (fCall0 c_control_references (fCons (fVar 8) fNil)) (fCons (fCall0 c__law_refs (fCons (fCall0 c__law_controls fNil) (fCons (fVar 8) fNil))) fNil)))))
    (mRet (fC (.bl false)))
    mNil)
    (mSeq (mSet 9 (fCall0 c__law_frames fNil))
    (mSeq (mSet 10 (fCall0 c__law_shape_of (fCons (fVar 1) (fCons (fBin opIx (fVar 9) (fBin opMod (fArgs cInt (fCons (fBin opFdiv (fVar 2) (fC (.int 200))) fNil)) (fArgs cLen (fCons (fVar 9) fNil)))) (fCons (fVar 3) fNil)))))
    (mRet (fCall0 c__law_list_is (fCons (fCall0 c_frame_references (fCons (fVar 10) fNil)) (fCons (fCall0 c__law_refs (fCons (fVar 9) (fCons (fVar 10) fNil))) fNil)))))))))))))))))
theorem ok_law {P : Program} {w : World} {K : PySem.W.Frag} {mg : Str → Option Value} {base : Heap} {k : Nat} (M : Mods mg) (Dd : DefAt K mg "law" s_law ["script"]) {kk__law_tables : Nat} {c__law_tables : Fn} (h__law_tables : FnAt P w K mg base "_law_tables" kk__law_tables 0 c__law_tables) (k__law_tables : kk__law_tables ≤ k) {kk__law_digits : Nat} {c__law_digits : Fn} (h__law_digits : FnAt P w K mg base "_law_digits" kk__law_digits 3 c__law_digits) (k__law_digits : kk__law_digits ≤ k) {kk__law_cell : Nat} {c__law_cell : Fn} (h__law_cell : FnAt P w K mg base "_law_cell" kk__law_cell 2 c__law_cell) (k__law_cell : kk__law_cell ≤ k) {kk__law_shape_of : Nat} {c__law_shape_of : Fn} (h__law_shape_of : FnAt P w K mg base "_law_shape_of" kk__law_shape_of 3 c__law_shape_of) (k__law_shape_of : kk__law_shape_of ≤ k) {kk__law_objects : Nat} {c__law_objects : Fn} (h__law_objects : FnAt P w K mg base "_law_objects" kk__law_objects 0 c__law_objects) (k__law_objects : kk__law_objects ≤ k) {kk__law_list_is : Nat} {c__law_list_is : Fn} (h__law_list_is : FnAt P w K mg base "_law_list_is" kk__law_list_is 2 c__law_list_is) (k__law_list_is : kk__law_list_is ≤ k) {kk_object_references : Nat} {c_object_references : Fn} (h_object_references : FnAt P w K mg base "object_references" kk_object_references 1 c_object_references) (k_object_references : kk_object_references ≤ k) {kk__law_refs : Nat} {c__law_refs : Fn} (h__law_refs : FnAt P w K mg base "_law_refs" kk__law_refs 2 c__law_refs) (k__law_refs : kk__law_refs ≤ k) {kk__law_draw : Nat} {c__law_draw : Fn} (h__law_draw : FnAt P w K mg base "_law_draw" kk__law_draw 2 c__law_draw) (k__law_draw : kk__law_draw ≤ k) {kk__law_controls : Nat} {c__law_controls : Fn} (h__law_controls : FnAt P w K mg base "_law_controls" kk__law_controls 0 c__law_controls) (k__law_controls : kk__law_controls ≤ k) {kk_control_references : Nat} {c_control_references : Fn} (h_control_references : FnAt P w K mg base "control_references" kk_control_references 1 c_control_references) (k_control_references : kk_control_references ≤ k) {kk__law_frames : Nat} {c__law_frames : Fn} (h__law_frames : FnAt P w K mg base "_law_frames" kk__law_frames 0 c__law_frames) (k__law_frames : kk__law_frames ≤ k) {kk_frame_references : Nat} {c_frame_references : Fn} (h_frame_references : FnAt P w K mg base "frame_references" kk_frame_references 1 c_frame_references) (k_frame_references : kk_frame_references ≤ k) :
    FnAt P w K mg base "law" (k + 1) 1 (mFn0 11 (b_law c__law_tables c__law_digits c__law_cell c__law_shape_of c__law_objects c__law_list_is c_object_references c__law_refs c__law_draw c__law_controls c_control_references c__law_frames c_frame_references)) :=
  fnAt Dd sc_law fun f cdv A outer s H E hr => ⟨_, (pss_cons (ps_if (pt_not (pt_tru (pe_callA0 h__law_tables (hr.mono k__law_tables) (by rfl)))) (pss_one (ps_ret pe_bl)) pss_nil) (pss_cons (ps_set (i := 1) sc_law.nd rfl (by first | exact .inl rfl | exact .inr rfl) (pe_lst (pa_cons (pe_callA h__law_digits (hr.mono k__law_digits) (by rfl) (pa_cons (pv 0) (pa_cons pe_int (pa_cons pe_int pa_nil)))) (pa_cons pe_int pa_nil)))) (pss_cons (ps_set (i := 2) sc_law.nd rfl (by first | exact .inl rfl | exact .inr rfl) (pe_callA h__law_cell (hr.mono k__law_cell) (by rfl) (pa_cons (pv 0) (pa_cons pe_int pa_nil)))) (pss_cons (ps_set (i := 3) sc_law.nd rfl (by first | exact .inl rfl | exact .inr rfl) (pe_ix ix_seq (pe_lst (pa_cons pe_int (pa_cons pe_int pa_nil))) (pe_op op_mod (pe_callTy call_int1 (by rfl) M.m_int bb_int (pa_cons (pv 2) pa_nil)) pe_int) (fun _ _ => rfl))) (pss_cons (ps_set (i := 4) sc_law.nd rfl (by first | exact .inl rfl | exact .inr rfl) (pe_callA h__law_shape_of (hr.mono k__law_shape_of) (by rfl) (pa_cons (pv 1) (pa_cons (pe_ix ix_seq (pe_callA0 h__law_objects (hr.mono k__law_objects) (by rfl)) (pe_op op_mod (pe_callTy call_int1 (by rfl) M.m_int bb_int (pa_cons (pe_op op_fdiv (pv 2) pe_int) pa_nil)) pe_int) (fun _ _ => rfl)) (pa_cons (pv 3) pa_nil))))) (pss_cons (ps_if (pt_not (pt_tru (pe_callA h__law_list_is (hr.mono k__law_list_is) (by rfl) (pa_cons (pe_callA h_object_references (hr.mono k_object_references) (by rfl) (pa_cons (pv 4) pa_nil)) (pa_cons (pe_callA h__law_refs (hr.mono k__law_refs) (by rfl) (pa_cons (pe_callA0 h__law_objects (hr.mono k__law_objects) (by rfl)) (pa_cons (pv 4) pa_nil))) pa_nil))))) (pss_one (ps_ret pe_bl)) pss_nil) (pss_cons (ps_asg (pe_tup (pa_cons (pe_callA h__law_draw (hr.mono k__law_draw) (by rfl) (pa_cons (pv 1) (pa_cons pe_int pa_nil))) (pa_cons (pe_lst pa_nil) pa_nil))) (pg_tup rfl (pgs_cons (pg_name (i := 5) sc_law.nd rfl (by first | exact .inl rfl | exact .inr rfl)) (pgs_cons (pg_name (i := 6) sc_law.nd rfl (by first | exact .inl rfl | exact .inr rfl)) pgs_nil)))) (pss_cons (ps_for PassesOwn.never rfl (pi_range1 (by rfl) M.m_range (pa_cons (pe_op op_addQ pe_int (pe_callA h__law_draw (hr.mono k__law_draw) (by rfl) (pa_cons (pv 1) (pa_cons pe_int pa_nil)))) pa_nil)) (pg_name (i := 7) sc_law.nd rfl (by first | exact .inl rfl | exact .inr rfl)) (pss_one (ps_expr (pe_bm PySem.F.plainAttrs_list PySem.F.slot_list_append PySem.F.type_list_append mt_append (pv 6) (pa_cons (pe_tup (pa_cons (pe_tup (pa_cons pe_str (pa_cons (pe_op op_addQ (pv 5) (pe_op op_mulQ pe_int (pv 7))) pa_nil))) (pa_cons (pe_tup (pa_cons pe_str (pa_cons (pe_op op_addQ (pe_op op_addQ (pv 5) (pe_op op_mulQ pe_int (pv 7))) pe_int) pa_nil))) pa_nil))) pa_nil))))) (pss_cons (ps_if (pt_not (pt_tru (pe_callA h__law_list_is (hr.mono k__law_list_is) (by rfl) (pa_cons (pe_callA h_object_references (hr.mono k_object_references) (by rfl) (pa_cons (pe_tup (pa_cons pe_str (pa_cons (pe_callTy call_tuple_of (by rfl) M.m_tuple bb_tuple (pa_cons (pv 6) pa_nil)) pa_nil))) pa_nil)) (pa_cons (pe_lc (own := [("k", 7)]) rfl sc_law.nd (pi_range1 (by rfl) M.m_range (pa_cons (pe_op op_mulQ pe_int (pe_callB call_lenQ (by rfl) M.m_len bb_len (pa_cons (pv 6) pa_nil))) pa_nil)) (blkOk_by (N := ["script", "box", "cell", "many", "item", "first", "pairs", "k", "control", "table", "frame"]) (sc := defScope s_law) (own := [("k", 7)]) (by decide +kernel)) (fun _ _ _ _ _ => (pg_name (i := 7) sc_law.nd rfl (by first | exact .inl rfl | exact .inr rfl))) (fun _ _ _ _ _ => pts_nil) (fun _ _ _ _ _ => (pe_op op_addQ (pv 5) (pv 7)))) pa_nil))))) (pss_one (ps_ret pe_bl)) pss_nil) (pss_cons (ps_set (i := 8) sc_law.nd rfl (by first | exact .inl rfl | exact .inr rfl) (pe_callA h__law_shape_of (hr.mono k__law_shape_of) (by rfl) (pa_cons (pv 1) (pa_cons (pe_ix ix_seq (pe_callA0 h__law_controls (hr.mono k__law_controls) (by rfl)) (pe_op op_mod (pe_callTy call_int1 (by rfl) M.m_int bb_int (pa_cons (pe_op op_fdiv (pv 2) pe_int) pa_nil)) pe_int) (fun _ _ => rfl)) (pa_cons (pv 3) pa_nil))))) (pss_cons (ps_if (pt_not (pt_tru (pe_callA h__law_list_is (hr.mono k__law_list_is) (by rfl) (pa_cons (pe_callA h_control_references (hr.mono k_control_references) (by rfl) (pa_cons (pv 8) pa_nil)) (pa_cons (pe_callA h__law_refs (hr.mono k__law_refs) (by rfl) (pa_cons (pe_callA0 h__law_controls (hr.mono k__law_controls) (by rfl)) (pa_cons (pv 8) pa_nil))) pa_nil))))) (pss_one (ps_ret pe_bl)) pss_nil) (pss_cons (ps_set (i := 9) sc_law.nd rfl (by first | exact .inl rfl | exact .inr rfl) (pe_callA0 h__law_frames (hr.mono k__law_frames) (by rfl))) (pss_cons (ps_set (i := 10) sc_law.nd rfl (by first | exact .inl rfl | exact .inr rfl) (pe_callA h__law_shape_of (hr.mono k__law_shape_of) (by rfl) (pa_cons (pv 1) (pa_cons (pe_ix ix_seq (pv 9) (pe_op op_mod (pe_callTy call_int1 (by rfl) M.m_int bb_int (pa_cons (pe_op op_fdiv (pv 2) pe_int) pa_nil)) (pe_callB call_lenQ (by rfl) M.m_len bb_len (pa_cons (pv 9) pa_nil))) (fun _ _ => rfl)) (pa_cons (pv 3) pa_nil))))) (pss_one (ps_ret (pe_callA h__law_list_is (hr.mono k__law_list_is) (by rfl) (pa_cons (pe_callA h_frame_references (hr.mono k_frame_references) (by rfl) (pa_cons (pv 10) pa_nil)) (pa_cons (pe_callA h__law_refs (hr.mono k__law_refs) (by rfl) (pa_cons (pv 9) (pa_cons (pv 10) pa_nil))) pa_nil)))))))))))))))))),
    (ls_seq (ls_if (lt_not (lt_tru (le_call0 la_nil len_nil))) (ls_ret (le_c fun _ _ => rfl)) ls_nil) (ls_seq (ls_set (le_mat (le_lst (la_cons (le_call0 (la_cons le_var (la_cons (le_c fun _ _ => rfl) (la_cons (le_c fun _ _ => rfl) la_nil))) (len_cons (len_cons (len_cons len_nil)))) (la_cons (le_c fun _ _ => rfl) la_nil)) (len_cons (len_cons len_nil)) (by decide : 2 ≤ sizeLine)))) (ls_seq (ls_set (le_call0 (la_cons le_var (la_cons (le_c fun _ _ => rfl) la_nil)) (len_cons (len_cons len_nil)))) (ls_seq (ls_set (le_bin (le_lst (la_cons (le_c fun _ _ => rfl) (la_cons (le_c fun _ _ => rfl) la_nil)) (len_cons (len_cons len_nil)) (by decide : 2 ≤ sizeLine)) (le_bin (le_args (la_cons le_var la_nil) cInt_ok) (le_c fun _ _ => rfl) opMod_ok) opIx_ok)) (ls_seq (ls_set (le_call0 (la_cons le_var (la_cons (le_bin (le_call0 la_nil len_nil) (le_bin (le_args (la_cons (le_bin le_var (le_c fun _ _ => rfl) opFdiv_ok) la_nil) cInt_ok) (le_c fun _ _ => rfl) opMod_ok) opIx_ok) (la_cons le_var la_nil))) (len_cons (len_cons (len_cons len_nil))))) (ls_seq (ls_if (lt_not (lt_tru (le_call0 (la_cons (le_call0 (la_cons le_var la_nil) (len_cons len_nil)) (la_cons (le_call0 (la_cons (le_call0 la_nil len_nil) (la_cons le_var la_nil)) (len_cons (len_cons len_nil))) la_nil)) (len_cons (len_cons len_nil))))) (ls_ret (le_c fun _ _ => rfl)) ls_nil) (ls_seq (ls_asgG (lg_tup (lgs_cons lg_name (lgs_cons lg_name lgs_nil))) (le_tup (la_cons (le_call0 (la_cons le_var (la_cons (le_c fun _ _ => rfl) la_nil)) (len_cons (len_cons len_nil))) (la_cons (le_mat (le_lst la_nil len_nil (by decide : 0 ≤ sizeLine))) la_nil)) (len_cons (len_cons len_nil)) (by decide : 2 ≤ sizeLine))) (ls_seq (ls_for (li_rng1 (la_cons (le_bin (le_c fun _ _ => rfl) (le_call0 (la_cons le_var (la_cons (le_c fun _ _ => rfl) la_nil)) (len_cons (len_cons len_nil))) opAdd_ok) la_nil)) lg_name (ls_expr (le_bml le_var (la_cons (le_tup (la_cons (le_tup (la_cons (le_c fun _ _ => rfl) (la_cons (le_bin le_var (le_bin (le_c fun _ _ => rfl) le_var opMul_ok) opAdd_ok) la_nil)) (len_cons (len_cons len_nil)) (by decide : 2 ≤ sizeLine)) (la_cons (le_tup (la_cons (le_c fun _ _ => rfl) (la_cons (le_bin (le_bin le_var (le_bin (le_c fun _ _ => rfl) le_var opMul_ok) opAdd_ok) (le_c fun _ _ => rfl) opAdd_ok) la_nil)) (len_cons (len_cons len_nil)) (by decide : 2 ≤ sizeLine)) la_nil)) (len_cons (len_cons len_nil)) (by decide : 2 ≤ sizeLine)) la_nil) opAppend_ok))) (ls_seq (ls_if (lt_not (lt_tru (le_call0 (la_cons (le_call0 (la_cons (le_tup (la_cons (le_c fun _ _ => rfl) (la_cons (le_args (la_cons le_var la_nil) cTup_ok) la_nil)) (len_cons (len_cons len_nil)) (by decide : 2 ≤ sizeLine)) la_nil) (len_cons len_nil)) (la_cons (le_lc (li_rng1 (la_cons (le_bin (le_c fun _ _ => rfl) (le_args (la_cons le_var la_nil) cLen_ok) opMul_ok) la_nil)) lg_name (by decide) lt_yes (le_bin le_var le_var opAdd_ok)) la_nil)) (len_cons (len_cons len_nil))))) (ls_ret (le_c fun _ _ => rfl)) ls_nil) (ls_seq (ls_set (le_call0 (la_cons le_var (la_cons (le_bin (le_call0 la_nil len_nil) (le_bin (le_args (la_cons (le_bin le_var (le_c fun _ _ => rfl) opFdiv_ok) la_nil) cInt_ok) (le_c fun _ _ => rfl) opMod_ok) opIx_ok) (la_cons le_var la_nil))) (len_cons (len_cons (len_cons len_nil))))) (ls_seq (ls_if (lt_not (lt_tru (le_call0 (la_cons (le_call0 (la_cons le_var la_nil) (len_cons len_nil)) (la_cons (le_call0 (la_cons (le_call0 la_nil len_nil) (la_cons le_var la_nil)) (len_cons (len_cons len_nil))) la_nil)) (len_cons (len_cons len_nil))))) (ls_ret (le_c fun _ _ => rfl)) ls_nil) (ls_seq (ls_set (le_call0 la_nil len_nil)) (ls_seq (ls_set (le_call0 (la_cons le_var (la_cons (le_bin le_var (le_bin (le_args (la_cons (le_bin le_var (le_c fun _ _ => rfl) opFdiv_ok) la_nil) cInt_ok) (le_args (la_cons le_var la_nil) cLen_ok) opMod_ok) opIx_ok) (la_cons le_var la_nil))) (len_cons (len_cons (len_cons len_nil))))) (ls_ret (le_call0 (la_cons (le_call0 (la_cons le_var la_nil) (len_cons len_nil)) (la_cons (le_call0 (la_cons le_var (la_cons le_var la_nil)) (len_cons (len_cons len_nil))) la_nil)) (len_cons (len_cons len_nil)))))))))))))))))⟩
end L78

/-! k78: what the law computes. -/
namespace L78
open PySem PySem.Spec PyProof.Rows L2 Q3
def rowP (r : Q3.Row) : PyData := .list [.str r.1, .str (lsZ r.2)]
theorem pys_rows : ∀ R : List Q3.Row, D.pys (R.map rowD) = some (R.map rowP)
  | [] => rfl
  | r :: R => by
    rw [List.map_cons, List.map_cons]
    unfold D.pys
    rw [pys_rows R]
    rfl
theorem shaped_rows : SeqAt.shaped (.list (objectsR.map rowP)) = true ∧ SeqAt.shaped (.list (framesR.map rowP)) = true ∧ SeqAt.shaped (.list (controlsR.map rowP)) = true := by decide +kernel
theorem eq_rows {R : List Q3.Row} {st : Store} (h : SeqAt.shaped (.list (R.map rowP)) = true) : opEq (.ro (R.map rowD)) (.ro (R.map rowD)) st = .ok (.s (.bl true)) st ∧ opNe (.ro (R.map rowD)) (.ro (R.map rowD)) st = .ok (.s (.bl false)) st := by
  have h1 : D.pyT st (.ro (R.map rowD)) = some (.list (R.map rowP)) := by
    show (D.pys (R.map rowD)).map PyData.list = _
    rw [pys_rows]
    rfl
  have h2 := PySem.SeqAt.eqv_refl _ (SeqAt.canLay_of_shaped h)
  constructor
  · show (match D.pyT st (.ro (R.map rowD)), D.pyT st (.ro (R.map rowD)) with
      | some a, some b => if SeqAt.shaped a = true ∧ SeqAt.shaped b = true then okS (.bl (PyData.eqv a b)) st else .bad
      | _, _ => .bad) = _
    rw [h1]
    show (if SeqAt.shaped _ = true ∧ SeqAt.shaped _ = true then _ else _) = _
    rw [if_pos ⟨h, h⟩, h2]
  · show (match D.pyT st (.ro (R.map rowD)), D.pyT st (.ro (R.map rowD)) with
      | some a, some b => if SeqAt.shaped a = true ∧ SeqAt.shaped b = true then okS (.bl (!PyData.eqv a b)) st else .bad
      | _, _ => .bad) = _
    rw [h1]
    show (if SeqAt.shaped _ = true ∧ SeqAt.shaped _ = true then _ else _) = _
    rw [if_pos ⟨h, h⟩, h2]
    rfl
/-- the comprehension over a table -/
theorem keys_ok {tab : List (Str × Str)} {R : List Q3.Row} {st : Store} (hk : (tabV tab).map (·.1) = R.map (·.1)) (hg : ∀ r ∈ R, tabG tab r.1 = some (.str (lsZ r.2))) (hn : R.length ≤ 1000) :
    fLc (fiKeys ((tabV tab).map (·.1))) (gdName 0) (fun _ st => .ok true st) (fLst (fCons (fVar 0) (fCons (fKIx (tabG tab) (fVar 0)) fNil))) [0] [none] st = .ok (.l (R.map rowD)) st := by
  obtain ⟨acc, st', e, _, h1, h2⟩ := lc_inv (tg := gdName 0) (ft := fun _ st => .ok true st) (fe := fLst (fCons (fVar 0) (fCons (fKIx (tabG tab) (fVar 0)) fNil))) (xs0 := R.map fun r => D.str r.1) (σ := [none]) (items := R.map fun r => D.str r.1) (st := st)
    (fun j acc s => s = st ∧ acc = (R.take j).map rowD) ⟨rfl, rfl⟩ (by rw [← line_ge, List.length_map]; omega) (by
      intro j d acc s hj _ ⟨h1, h2⟩
      subst h1 h2
      rw [List.getElem?_map] at hj
      cases hr : R[j]? with
      | none => rw [hr] at hj; cases hj
      | some r =>
        rw [hr] at hj
        cases hj
        have := hg r (List.mem_of_getElem? hr)
        simp [okS_eq, this, List.take_add_one, hr, rowD])
  subst h1 h2
  rw [List.length_map, List.take_length] at e
  have hk2 : ((tabV tab).map (·.1)).map D.str = R.map fun r => D.str r.1 := by rw [hk, List.map_map]; rfl
  simp only [fLc_eq, fiKeys_eq, Q3.R.bind_ok, hk2, items_val]
  exact e
theorem keys_all : (tabV Q3.tab_OBJECTS).map (·.1) = objectsR.map (·.1) ∧ (tabV Q3.tab_FIELDS).map (·.1) = framesR.map (·.1) ∧ (tabV Q3.tab_CONTROLS).map (·.1) = controlsR.map (·.1) := by
  have h : Q3.tab_OBJECTS.map (·.1) = objectsR.map (·.1) ∧ Q3.tab_FIELDS.map (·.1) = framesR.map (·.1) ∧ Q3.tab_CONTROLS.map (·.1) = controlsR.map (·.1) := by decide +kernel
  have g : ∀ t : List (Str × Str), (tabV t).map (·.1) = t.map (·.1) := fun t => by unfold tabV; rw [List.map_map]; rfl
  rw [g, g, g]
  exact h
noncomputable def S_tables : Fn := mFn0 1 (b__law_tables L_objects L_controls S_frames)
theorem tables_ok {st : Store} : S_tables [] st = .ok (.s (.bl true)) st := by
  unfold S_tables
  have k1 := keys_ok (st := st) keys_all.1 tabs_ok.1 (by rw [rows_len.2.1]; omega)
  have k2 := keys_ok (st := st) keys_all.2.1 tabs_ok.2.1 (by rw [rows_len.1]; omega)
  have k3 := keys_ok (st := st) keys_all.2.2 tabs_ok.2.2 (by rw [rows_len.2.2]; omega)
  have e1 := (eq_rows (st := st) shaped_rows.1).2
  have e2 := (eq_rows (st := st) shaped_rows.2.1).1
  have e3 := (eq_rows (st := st) shaped_rows.2.2).2
  have o := objects_ok (st := st)
  have c := controls_ok (st := st)
  have f : S_frames [] st = .ok (.l framesD) st := rfl
  rw [show objectsD = objectsR.map rowD from rfl] at o
  rw [show controlsD = controlsR.map rowD from rfl] at c
  rw [show framesD = framesR.map rowD from rfl] at f
  generalize hO : objectsR.map rowD = OD at *
  generalize hC : controlsR.map rowD = CD at *
  generalize hFd : framesR.map rowD = FD at *
  generalize L_objects = c1 at *
  generalize L_controls = c2 at *
  generalize S_frames = c3 at *
  have hb : b__law_tables c1 c2 c3 = (mSeq (mIf (tVal (fBin opNe (fLc (fiKeys ((tabV Q3.tab_OBJECTS).map (·.1))) (gdName 0) (fun _ st => .ok true st) (fLst (fCons (fVar 0) (fCons (fKIx (tabG Q3.tab_OBJECTS) (fVar 0)) fNil))) [0]) (fCall0 c1 fNil)))
    (mRet (fC (.bl false)))
    mNil)
    (mSeq (mIf (tVal (fBin opNe (fLc (fiKeys ((tabV Q3.tab_CONTROLS).map (·.1))) (gdName 0) (fun _ st => .ok true st) (fLst (fCons (fVar 0) (fCons (fKIx (tabG Q3.tab_CONTROLS) (fVar 0)) fNil))) [0]) (fCall0 c2 fNil)))
    (mRet (fC (.bl false)))
    mNil)
    (mRet (fBin opEq (fLc (fiKeys ((tabV Q3.tab_FIELDS).map (·.1))) (gdName 0) (fun _ st => .ok true st) (fLst (fCons (fVar 0) (fCons (fKIx (tabG Q3.tab_FIELDS) (fVar 0)) fNil))) [0]) (fCall0 c3 fNil))))) := rfl
  rw [hb]
  simp only [mFn0_eq, mFn_eq, List.map_nil, List.length_nil, Nat.sub_zero, List.nil_append, show List.replicate 1 (none : Option D) = [none] from rfl, mSeq_eq, mIf_eq, tVal_eq, fBin_eq, k1, R.bind_ok, fCall0_eq, fNil_eq, o, R.pure0_ok, T.d_l, e1, T.d_s, Bool.false_eq_true, if_false, mNil_eq, k3, c, e3, mRet_eq, k2, f, e2, R.toS_ok]
theorem Box.app {b : Nat} {st : Store} (h : Box b st) (ex : Store) : Box b (st ++ ex) := by
  obtain ⟨dg, a, h1, h2⟩ := h
  exact ⟨dg, a, by rw [List.getElem?_append_left (List.getElem?_eq_some_iff.mp h1).1]; exact h1, h2⟩
/-- what the law's own callees do -/
structure Facts (cO cC cF cS cL cR cRo cRc cRf cD : Fn) : Prop where
  o : ∀ st, cO [] st = .ok (.l objectsD) st
  c : ∀ st, cC [] st = .ok (.l controlsD) st
  f : ∀ st, cF [] st = .ok (.l framesD) st
  s : ∀ (b : Nat) (m : Int) (r : Q3.Row) st, 0 < m → r.2.length ≤ 10 → Box b st → ∃ d st', cS [.ref b, rowD r, .int m] st = .ok (.s d) st' ∧ Stp b st st' ∧ Item m (Frame m) r d
  l : ∀ (x y : D) (xs : List Int) st, lstW st x = some (xs.map D.int) → lstW st y = some (xs.map D.int) → xs.length < 4611686018427387904 → cL [x, y] st = .ok (.s (.bl true)) st
  r : ∀ (m : Int) (s : Srt) (r : Q3.Row) (d y : D) st, r ∈ s.rows → Item m (Frame m) r d → lstW st y = some (s.rows.map rowD) → Lst st (cR [y, d] st) (itemRefs fr1 s.rows d)
  ro : ∀ (m : Int) (r : Q3.Row) (d : D) st, r ∈ objectsR → Item m (Frame m) r d → Lst st (cRo [d] st) (itemRefs fr1 objectsR d)
  rc : ∀ (m : Int) (r : Q3.Row) (d : D) st, r ∈ controlsR → Item m (Frame m) r d → Lst st (cRc [d] st) (itemRefs fr1 controlsR d)
  rf : ∀ (m : Int) (r : Q3.Row) (d : D) st, r ∈ framesR → Item m (Frame m) r d → Lst st (cRf [d] st) (itemRefs fr1 framesR d)
  d : ∀ (b : Nat) (m : Int) st, Box b st → 0 < m → ∃ v st', cD [.ref b, .int m] st = .ok (.s (.int v)) st' ∧ Stp b st st' ∧ 0 ≤ v ∧ v < m
section
variable {cO cC cF cS cL cR cRo cRc cRf cD : Fn} (F : Facts cO cC cF cS cL cR cRo cRc cRf cD)
/-- both walks of one item -/
theorem chk {m : Int} {s : Srt} {r : Q3.Row} {d y : D} {i : Nat} {σ : DS} {st : Store} {cRx : Fn} {fy : ME} {t : T}
    (Fl : ∀ (x y : D) (xs : List Int) st, lstW st x = some (xs.map D.int) → lstW st y = some (xs.map D.int) → xs.length < 4611686018427387904 → cL [x, y] st = .ok (.s (.bl true)) st)
    (Fr : ∀ (m : Int) (s : Srt) (r : Q3.Row) (d y : D) st, r ∈ s.rows → Item m (Frame m) r d → lstW st y = some (s.rows.map rowD) → Lst st (cR [y, d] st) (itemRefs fr1 s.rows d))
    (hx : ∀ (m : Int) (r : Q3.Row) (d : D) st, r ∈ s.rows → Item m (Frame m) r d → Lst st (cRx [d] st) (itemRefs fr1 s.rows d))
    (hy : ∀ st, fy σ st = .ok t st) (ht : t.d = .ro (s.rows.map rowD)) (hσ : σ[i]? = some (some d)) (hr : r ∈ s.rows) (hi : Item m (Frame m) r d) :
    ∃ ex, fCall0 cL (fCons (fCall0 cRx (fCons (fVar i) fNil)) (fCons (fCall0 cR (fCons fy (fCons (fVar i) fNil))) fNil)) σ st = .ok (.s (.bl true)) (st ++ ex) := by
  obtain ⟨t1, ex1, e1, l1⟩ := hx m r d st hr hi
  obtain ⟨t2, ex2, e2, l2⟩ := Fr m s r d (.ro (s.rows.map rowD)) (st ++ ex1) hr hi rfl
  have hl := itemRefs_len hr hi
  have e3 := Fl t1.d t2.d _ (st ++ ex1 ++ ex2) (lstW_app l1 ex2) l2 (by omega)
  rw [List.append_assoc] at e3
  refine ⟨ex1 ++ ex2, ?_⟩
  simp only [fCall0_eq, fCons_eq, fVar_eq, hσ, R.bind_ok, fNil_eq, T.d_s, e1, R.pure0_ok, hy, ht, e2, e3, List.append_assoc]
/-- the dict with n pairs of references -/
def dictD (f : Int) (n : Nat) : D := .tup [.str "dict", .tup ((List.range n).map fun (k : Nat) => .tup [.tup [.str "ref", .int (f + 2 * (k : Int))], .tup [.str "ref", .int (f + 2 * (k : Int) + 1)]])]
theorem dict_item {f : Int} {n : Nat} (h0 : 0 ≤ f) (h1 : f < 900) (hn : n ≤ 4) : Item 10000 (Frame 10000) (mkRow "dict" [.W]) (dictD f n) := by
  refine ⟨_, rfl, .cons ?_ .nil⟩
  have := Fld.W (m := 10000) (Fr := Frame 10000) (ps := (List.range n).map fun (k : Nat) => (.tup [.str "ref", .int (f + 2 * (k : Int))], .tup [.str "ref", .int (f + 2 * (k : Int) + 1)])) (by simpa using hn) (fun p hp => by
    obtain ⟨k, hk, rfl⟩ := List.mem_map.mp hp
    have := List.mem_range.mp hk
    exact ⟨.ref _ (by omega) (by omega), .ref _ (by omega) (by omega)⟩)
  rw [List.map_map] at this
  exact this
theorem dict_refs {f : Int} {n : Nat} (hn : n = 2 ∨ n = 3 ∨ n = 4) : itemRefs fr1 objectsR (dictD f n) = (List.range (2 * n)).map fun (k : Nat) => f + (k : Int) := by
  have hr : mkRow "dict" [.W] ∈ objectsR := by unfold objectsR; exact .tail _ (.tail _ (.head _))
  have h := item_refs (m := 10000) (Fr := Frame 10000) (s := .object) (r := mkRow "dict" [.W]) (fs := [.tup ((List.range n).map fun (k : Nat) => .tup [.tup [.str "ref", .int (f + 2 * (k : Int))], .tup [.str "ref", .int (f + 2 * (k : Int) + 1)]])]) (f := fr1) hr
  show itemRefs fr1 Srt.object.rows _ = _
  refine h.trans ?_
  rcases hn with rfl | rfl | rfl
  · simp [mkRow, refsL, fr1, fr0, valsOf, refI, List.range_succ]
    and_intros <;> omega
  · simp [mkRow, refsL, fr1, fr0, valsOf, refI, List.range_succ]
    and_intros <;> omega
  · simp [mkRow, refsL, fr1, fr0, valsOf, refI, List.range_succ]
    and_intros <;> omega
theorem mSeq_nx {a b : MS} {σ σ1 : DS} {st st1 : Store} (h : a σ st = .nx σ1 st1) : mSeq a b σ st = b σ1 st1 := by rw [mSeq_eq, h]
theorem if_chk {E : ME} {b : MS} {σ : DS} {st st1 : Store} (h : E σ st = .ok (.s (.bl true)) st1) : mIf (tNotF (fTru E)) b mNil σ st = .nx σ st1 := by
  simp [h]
theorem mod_ix {α : Type} {R : List α} {x : Int} {n : Nat} (h : R.length = n) (hn : 0 < n) : ∃ r ∈ R, ∀ {β : Type} (f : α → β), L2.atI (R.map f) (x % (n : Int)) = some (f r) := by
  have h0 := Int.emod_nonneg x (show (n : Int) ≠ 0 by omega)
  have h1 := Int.emod_lt_of_pos x (show (0 : Int) < n by omega)
  have h2 : (x % (n : Int)).toNat < R.length := by omega
  refine ⟨R[(x % (n : Int)).toNat], List.getElem_mem _, fun f => ?_⟩
  rw [atI_eq, if_pos h0, List.getElem?_map, List.getElem?_eq_getElem h2]
  rfl
theorem seq_rt {a b : MS} {σ σ1 : DS} {st st1 : Store} {t : T} (h : a σ st = .nx σ1 st1) (g : ∃ st', b σ1 st1 = .rt t st') : ∃ st', mSeq a b σ st = .rt t st' := by
  rw [mSeq_nx h]
  exact g
theorem law_run (F : Facts cO cC cF cS cL cR cRo cRc cRf cD) {cT cDg cCell : Fn} {x : D} {cell : Int} {dg : List Int} (hT : cT [] [] = .ok (.s (.bl true)) []) (hDg : cDg [x, .int 1, .int 50] [] = .ok (.l (dg.map D.int)) []) (hCell : ∀ st, cCell [x, .int 0] st = .ok (.s (.int cell)) st) :
    ∃ st', mFn0 11 (b_law cT cDg cCell cS cO cL cRo cR cD cC cRc cF cRf) [x] [] = .ok (.s (.bl true)) st' := by
  -- the box
  have b0 : Box 0 [.lst [.ro (dg.map D.int), .int 0]] := ⟨dg, 0, rfl, by omega⟩
  obtain ⟨m, hm, e_m⟩ : ∃ m : Int, 0 < m ∧ L2.atI [D.int 7, .int 1000] (cell % 2) = some (.int m) := by
    have : cell % 2 = 0 ∨ cell % 2 = 1 := by omega
    rcases this with h | h
    · exact ⟨7, by omega, by rw [h]; rfl⟩
    · exact ⟨1000, by omega, by rw [h]; rfl⟩
  -- the object
  obtain ⟨r1, hr1, at1⟩ := mod_ix (R := objectsR) (x := cell / 2) (n := 10) rows_len.2.1 (by omega)
  have at1 := at1 rowD
  obtain ⟨d1, s1, e1, t1, i1⟩ := F.s 0 m r1 _ hm (objects_short r1 hr1) b0
  obtain ⟨x1, k1⟩ := chk (i := 4) (s := .object) (r := r1) (m := m) (d := d1) (y := d1) (cRx := cRo) (fy := fCall0 cO fNil) (t := .l objectsD) (st := s1) (σ := [some x, some (.ref 0), some (.int cell), some (.int m), some d1, none, none, none, none, none, none]) F.l F.r F.ro (fun st => by simp [F.o]) rfl rfl hr1 i1
  have b1 : Box 0 (s1 ++ x1) := Box.app t1.box x1
  -- the dict
  obtain ⟨f, s2, e2, t2, f0, f1⟩ := F.d 0 900 _ b1 (by omega)
  obtain ⟨q, s3, e3, t3, q0, q1⟩ := F.d 0 3 _ (Box.app t2.box [.lst []]) (by omega)
  obtain ⟨q, rfl⟩ := Int.eq_ofNat_of_zero_le q0
  have hn : 2 + q = 2 ∨ 2 + q = 3 ∨ 2 + q = 4 := by omega
  have hs3 : ∃ s4, s3 = s4 ++ [.lst []] ∧ s4.length = s2.length ∧ Box 0 s4 := by
    obtain ⟨hb, so, rfl⟩ := t3
    have hpos : 0 < s2.length := by
      obtain ⟨dg, a, h, _⟩ := t2.box
      exact (List.getElem?_eq_some_iff.mp h).1
    have hset : (s2 ++ [SO.lst []]).set 0 so = s2.set 0 so ++ [.lst []] := by rw [List.set_append_left _ _ hpos]
    refine ⟨s2.set 0 so, hset, by rw [List.length_set], ?_⟩
    obtain ⟨dg, a, h1, h2⟩ := hb
    rw [hset, List.getElem?_append_left (by rw [List.length_set]; exact hpos)] at h1
    exact ⟨dg, a, h1, h2⟩
  obtain ⟨s4, rfl, hl4, b4⟩ := hs3
  -- the loop of the pairs
  obtain ⟨σ5, s5, e5, o7, rfl, rfl⟩ := rng_inv (lo := 0) (n := 2 + q) (xs0 := rngD 0 (2 + q)) (tg := gdName 7) (b := (mExpr (fBML opAppend (fVar 6) (fCons (fTup (fCons (fTup (fCons (fC (.str "ref")) (fCons (fBin opAdd (fVar 5) (fBin opMul (fC (.int 2)) (fVar 7))) fNil))) (fCons (fTup (fCons (fC (.str "ref")) (fCons (fBin opAdd (fBin opAdd (fVar 5) (fBin opMul (fC (.int 2)) (fVar 7))) (fC (.int 1))) fNil))) fNil))) fNil))))
    (σ := [some x, some (.ref 0), some (.int cell), some (.int m), some d1, some (.int f), some (.ref s2.length), none, none, none, none]) (st := s4 ++ [.lst []])
    (fun j σ s => ∃ o7, σ = [some x, some (.ref 0), some (.int cell), some (.int m), some d1, some (.int f), some (.ref s2.length), o7, none, none, none] ∧ s = s4 ++ [.lst ((List.range j).map fun (k : Nat) => .tup [.tup [.str "ref", .int (f + 2 * (k : Int))], .tup [.str "ref", .int (f + 2 * (k : Int) + 1)]])])
    ⟨none, rfl, rfl⟩ (by
      intro j σ s hj ⟨o7, h1, h2⟩
      subst h1 h2
      have hz : (j : Nat) < sizeLine := by rw [← line_ge]; omega
      have gm : ∀ l : List D, (s4 ++ [SO.lst l])[s2.length]? = some (.lst l) := fun l => by rw [← hl4]; exact get_mid
      have sm : ∀ l l' : List D, (s4 ++ [SO.lst l]).set s2.length (.lst l') = s4 ++ [.lst l'] := fun l l' => by rw [← hl4]; exact set_mid
      simp [okS_eq, gm, sm, hz, List.range_succ])
  have gm : ∀ l : List D, (s4 ++ [SO.lst l])[s2.length]? = some (.lst l) := fun l => by rw [← hl4]; exact get_mid
  generalize hP : (List.range (2 + q)).map (fun (k : Nat) => D.tup [.tup [.str "ref", .int (f + 2 * (k : Int))], .tup [.str "ref", .int (f + 2 * (k : Int) + 1)]]) = P at e5
  have hPl : P.length = 2 + q := by rw [← hP]; simp
  have hD : dictD f (2 + q) = .tup [.str "dict", .tup P] := by unfold dictD; rw [hP]
  have gP := gm P
  have gP2 : ∀ ex : Store, (s4 ++ SO.lst P :: ex)[s2.length]? = some (.lst P) := fun ex => by rw [← hl4]; exact get_mid
  -- the check of the dict
  have hr : mkRow "dict" [.W] ∈ objectsR := by unfold objectsR; exact .tail _ (.tail _ (.head _))
  obtain ⟨t6, x6, e6, l6⟩ := F.ro 10000 _ _ (s4 ++ [.lst P]) hr (dict_item (f := f) (n := 2 + q) f0 f1 (by omega))
  rw [dict_refs hn, hD] at *
  obtain ⟨acc, s7, e7, _, rfl, rfl⟩ := lcr_inv (tg := gdName 7) (ft := fun _ st => .ok true st) (fe := fBin opAdd (fVar 5) (fVar 7)) (xs0 := rngD 0 (2 * (2 + q))) (lo := 0) (n := 2 * (2 + q)) (σ := [some x, some (.ref 0), some (.int cell), some (.int m), some d1, some (.int f), some (.ref s2.length), none, none, none, none]) (st := s4 ++ [.lst P] ++ x6)
    (fun j acc s => s = s4 ++ [.lst P] ++ x6 ∧ acc = ((List.range j).map fun (k : Nat) => f + (k : Int)).map D.int) ⟨rfl, rfl⟩ (by rw [← line_ge]; omega) (by
      intro j acc s hj _ ⟨h1, h2⟩
      subst h1 h2
      simp [okS_eq, List.range_succ])
  have e8 := F.l t6.d (.ro (((List.range (2 * (2 + q))).map fun (k : Nat) => f + (k : Int)).map D.int)) _ _ l6 rfl (by simp; omega)
  -- the control
  have b6 : Box 0 (s4 ++ [.lst P] ++ x6) := Box.app (Box.app b4 _) _
  obtain ⟨r2, hr2, at2⟩ := mod_ix (R := controlsR) (x := cell / 20) (n := 10) rows_len.2.2 (by omega)
  have at2 := at2 rowD
  obtain ⟨d2, s8, e9, t8, i2⟩ := F.s 0 m r2 _ hm (controls_short r2 hr2) b6
  obtain ⟨x8, k2⟩ := chk (i := 8) (s := .control) (r := r2) (m := m) (d := d2) (y := d2) (cRx := cRc) (fy := fCall0 cC fNil) (t := .l controlsD) (st := s8) (σ := [some x, some (.ref 0), some (.int cell), some (.int m), some d1, some (.int f), some (.ref s2.length), o7, some d2, none, none]) F.l F.r F.rc (fun st => by simp [F.c]) rfl rfl hr2 i2
  have b8 : Box 0 (s8 ++ x8) := Box.app t8.box x8
  -- the frame
  obtain ⟨r3, hr3, at3⟩ := mod_ix (R := framesR) (x := cell / 200) (n := 60) rows_len.1 (by omega)
  have at3 := at3 rowD
  obtain ⟨d3, s9, e10, t9, i3⟩ := F.s 0 m r3 _ hm (Nat.le_trans (frames_short r3 hr3) (by omega)) b8
  obtain ⟨x9, k3⟩ := chk (i := 10) (s := .frame) (r := r3) (m := m) (d := d3) (y := d3) (cRx := cRf) (fy := fVar 9) (t := .s (.ro framesD)) (st := s9) (σ := [some x, some (.ref 0), some (.int cell), some (.int m), some d1, some (.int f), some (.ref s2.length), o7, some d2, some (.ro framesD), some d3]) F.l F.r F.rf (fun st => rfl) rfl rfl hr3 i3
  have hO := F.o
  have hC := F.c
  have hFr := F.f
  have fl : framesD.length = 60 := by unfold framesD; rw [List.length_map, rows_len.1]
  rw [show objectsR.map rowD = objectsD from rfl] at at1
  rw [show controlsR.map rowD = controlsD from rfl] at at2
  rw [show framesR.map rowD = framesD from rfl] at at3
  generalize objectsD = OD at *
  generalize controlsD = CD at *
  generalize framesD = FD at *
  simp only [Int.cast_ofNat_Int] at at1 at2 at3
  have hq2 : ((2 + (q : Int)) < 4611686018427387904) := by omega
  have hq3 : (-4611686018427387904 ≤ (2 + (q : Int))) := by omega
  have hq4 : (2 + (q : Int)).toNat = 2 + q := by omega
  have hq5 : (2 * (2 + (q : Int)) < 4611686018427387904) := by omega
  have hq6 : (-4611686018427387904 ≤ 2 * (2 + (q : Int))) := by omega
  have hq7 : (2 * (2 + (q : Int))).toNat = 2 * (2 + q) := by omega
  obtain ⟨st', e⟩ : ∃ st', b_law cT cDg cCell cS cO cL cRo cR cD cC cRc cF cRf [some x, none, none, none, none, none, none, none, none, none, none] [] = .rt (.s (.bl true)) st' := by
    unfold b_law
    refine seq_rt (σ1 := [some x, none, none, none, none, none, none, none, none, none, none]) (st1 := []) (if_chk (by simp [hT])) ?_
    refine seq_rt (σ1 := [some x, some (.ref 0), none, none, none, none, none, none, none, none, none]) (st1 := [.lst [.ro (dg.map D.int), .int 0]]) (by simp [hDg]) ?_
    refine seq_rt (σ1 := [some x, some (.ref 0), some (.int cell), none, none, none, none, none, none, none, none]) (st1 := [.lst [.ro (dg.map D.int), .int 0]]) (by simp [hCell]) ?_
    refine seq_rt (σ1 := [some x, some (.ref 0), some (.int cell), some (.int m), none, none, none, none, none, none, none]) (st1 := [.lst [.ro (dg.map D.int), .int 0]]) (by simp [okS_eq, e_m]) ?_
    refine seq_rt (σ1 := [some x, some (.ref 0), some (.int cell), some (.int m), some d1, none, none, none, none, none, none]) (st1 := s1) (by simp [okS_eq, hO, at1, e1]) ?_
    refine seq_rt (σ1 := [some x, some (.ref 0), some (.int cell), some (.int m), some d1, none, none, none, none, none, none]) (st1 := s1 ++ x1) (if_chk k1) ?_
    refine seq_rt (σ1 := [some x, some (.ref 0), some (.int cell), some (.int m), some d1, some (.int f), some (.ref s2.length), none, none, none, none]) (st1 := s2 ++ [.lst []]) (by simp [e2]) ?_
    refine seq_rt (σ1 := [some x, some (.ref 0), some (.int cell), some (.int m), some d1, some (.int f), some (.ref s2.length), o7, none, none, none]) (st1 := s4 ++ [.lst P]) (by simp [okS_eq, e3, hq2, hq3, hq4]; simpa using e5) ?_
    refine seq_rt (σ1 := [some x, some (.ref 0), some (.int cell), some (.int m), some d1, some (.int f), some (.ref s2.length), o7, none, none, none]) (st1 := s4 ++ [.lst P] ++ x6) (if_chk (by
      simp only [List.append_assoc, List.cons_append, List.nil_append] at gP e6 e7 e8 ⊢
      simp [okS_eq, gP, e6, hPl, hq5, hq6, hq7]
      simp [gP2, okS_eq, hPl, hq5, hq6, hq7, e7]
      simpa using congrArg Q3.R.pure0 e8)) ?_
    refine seq_rt (σ1 := [some x, some (.ref 0), some (.int cell), some (.int m), some d1, some (.int f), some (.ref s2.length), o7, some d2, none, none]) (st1 := s8) (by simp only [List.append_assoc, List.cons_append, List.nil_append] at e9 ⊢; simp [okS_eq, hC, at2, e9]) ?_
    refine seq_rt (σ1 := [some x, some (.ref 0), some (.int cell), some (.int m), some d1, some (.int f), some (.ref s2.length), o7, some d2, none, none]) (st1 := s8 ++ x8) (if_chk k2) ?_
    refine seq_rt (σ1 := [some x, some (.ref 0), some (.int cell), some (.int m), some d1, some (.int f), some (.ref s2.length), o7, some d2, some (.ro FD), none]) (st1 := s8 ++ x8) (by simp [hFr]) ?_
    refine seq_rt (σ1 := [some x, some (.ref 0), some (.int cell), some (.int m), some d1, some (.int f), some (.ref s2.length), o7, some d2, some (.ro FD), some d3]) (st1 := s9) (by simp [okS_eq, fl, at3, e10]) ?_
    exact ⟨s9 ++ x9, by rw [mRet_eq, k3]; rfl⟩
  exact ⟨st', by simp only [mFn0_eq, mFn_eq]; simp [e]⟩
end
end L78

/-! k78: all together. -/
namespace Q3
open PySem PySem.Spec PyProof.Rows L2
abbrev frag {K : PySem.W.Frag} {h : Heap} (_ : K.In h) : PySem.W.Frag := K
theorem defAt_mk {K : PySem.W.Frag} {h : Heap} {mg : Str → Option Value} {x : Str} {st : Stmt} {ps : List Str} {f : Addr} {oc : Value} {od an : Option Addr} {osl : Array (Option Value)} {kV doc pm cdv ct : Value} (X : K.In h) (G : h.Ns mainGlobals mg)
    (a : PySem.W.nsIn K mainGlobals x = some (some (.ref f))) (l : K.lookup f = some ⟨oc, od, .func (PySem.W.fnOf x x (defArgs st) (defBody st) (defScope st) .none kV doc pm an cdv ct), osl⟩) (c : PySem.W.codeIn K cdv x = true) (k : PySem.W.keepIn K (.ref f) = true)
    (b : ∀ f fd, Fun K x x st f fd → Binds K fd ps []) : DefAt K mg x st ps :=
  ⟨f, _, fun_mk l c k, b _ _ (fun_mk l c k), PySem.W.mg_of X G a⟩
theorem tab_mk {K : PySem.W.Frag} {w : World} {h : Heap} {mg : Str → Option Value} {x : Str} {d : Addr} {es : Array DictEntry} {n : Nat} {kvs : List (Str × V)} (X : K.In h) (G : h.Ns mainGlobals mg)
    (a : PySem.W.nsIn K mainGlobals x = some (some (.ref d))) (l : K.lookup d = some ⟨.type "dict", none, .dict es n, #[]⟩) (q : PySem.W.KeysLit w.params es.toList)
    (e : Paired (fun (e : DictEntry) (p : Str × V) => (∃ t, e.key = .str p.1 t) ∧ RelV p.2 e.val) es.toList kvs) (s : (d == sysModules) = false) : ∃ d, mg x = some (.ref d) ∧ KTab K w d kvs :=
  ⟨d, PySem.W.mg_of X G a, ⟨es, n, l, q, e⟩, s⟩
/-- a def's promise, with the def named -/
theorem fnF {P : Program} {w : World} {K : PySem.W.Frag} {mg : Str → Option Value} {base : Heap} {x : Str} {st : Stmt} {N ps : List Str} {k : Nat} {f : Addr} {fd : FuncData} {b : MS} (F : Fun K x x st f fd) (S : FnScope N ps (defScope st))
    (body : ∀ (f : Addr) (cdv : Value) (A : Around) (outer : List Env) (s : Shared) (H : Hp) (E : XK), Room k (A.deeper (envOfC x (defScope st) s.heap.objs.size f cdv)) →
      ∃ t, PSs (cxOf CX0 P w K mg base N x (defScope st) f cdv A outer s H E).nox (defBody st) t ∧ LS K W0 t b) :
    FnOk P w K mg base CX0 (k + 1) f fd ps (spOf K ps.length (mFn0 N.length b)) :=
  fn_ev F S fun cdv A outer s H E hr => by
    obtain ⟨t, h1, h2⟩ := body f cdv A outer s H E hr
    exact ⟨t, h1, h2⟩
/-- the law's promise from its meaning -/
theorem law_sp {K : PySem.W.Frag} {c : Fn} {H : Hp} {a : Addr} {ns : List Int} (hc : ∃ st', c [.rk (ns.map D.int)] [] = .ok (.s (.bl true)) st') (ho : Only H) (hs : SqL K H a (ns.map V.int)) : spOf K 1 c [.ref a] H (fun v _ => v = .bl true) fun _ _ _ => False := by
  obtain ⟨st', e⟩ := hc
  refine ⟨rfl, ⟨[], fun _ => False⟩, [.rk (ns.map D.int)], [], ⟨rfl, List.nodup_nil, (fun a h => by cases h), (fun a h => False.elim h), (fun i so a h => by cases h)⟩, ?_, ?_⟩
  · refine ⟨.ref a, [], rfl, ⟨a, ns.map V.int, rfl, ?_, ?_⟩, rfl⟩
    · rcases hs with (h | h) | h
      · rcases ho a with g | ⟨o, xs, g⟩
        · rw [g] at h
          cases h
        · rw [g] at h
          cases h
      · exact .inl h
      · exact .inr h
    · induction ns with
      | nil => rfl
      | cons x r ih => exact ⟨.int x, r.map V.int, rfl, rfl, by
          clear ih hs e
          induction r with
          | nil => rfl
          | cons y r ih => exact ⟨.int y, r.map V.int, rfl, rfl, ih⟩⟩
  · rw [e]
    intro w' H' v h1 h2 h3
    exact h3
end Q3
namespace L78
open PySem PySem.Spec PyProof.Rows L2 Q3
noncomputable def C_law : Fn := mFn0 11 (b_law S_tables S_digits L_cell (L_shape_of (L_field 2)) L_objects L_list_is (mFn0 1 (b_object_references (L_references 2))) (L_refs 2) L_draw L_controls (mFn0 1 (b_control_references (L_references 2))) S_frames (mFn0 1 (b_frame_references (L_references 2))))
theorem lst_of {c : Fn} {z : Str} {d : D} {st : Store} {xs : List Int} (h : Lst st (c [.str z, d] st) xs) : Lst st (mFn0 1 (mRet (fCall0 c (fCons (fC (.str z)) (fCons (fVar 0) fNil)))) [d] st) xs := by
  obtain ⟨t, ex, e, l⟩ := h
  exact ⟨t, ex, by simp [e], l⟩
theorem facts : Facts L_objects L_controls S_frames (L_shape_of (L_field 2)) L_list_is (L_refs 2) (mFn0 1 (b_object_references (L_references 2))) (mFn0 1 (b_control_references (L_references 2))) (mFn0 1 (b_frame_references (L_references 2))) L_draw where
  o := fun _ => objects_ok
  c := fun _ => controls_ok
  f := fun _ => rfl
  s := fun b m r st hm hl hb => shape2_ok hm hl hb
  l := fun x y xs st h1 h2 h3 => list_isL h1 h2 h3
  r := fun m s r d y st hr hi hy => lawrefs_ok (n := 0) hr hi hy
  ro := fun m r d st hr hi => lst_of (references_ok (n := 0) (s := .object) hr hi)
  rc := fun m r d st hr hi => lst_of (references_ok (n := 0) (s := .control) hr hi)
  rf := fun m r d st hr hi => lst_of (references_ok (n := 0) (s := .frame) hr hi)
  d := fun b m st hb hm => draw_ok hb hm
theorem law_true (ns : List Int) : ∃ st', C_law [.rk (ns.map D.int)] [] = .ok (.s (.bl true)) st' := by
  obtain ⟨dg, e⟩ := S_digits_ok (z := ns) (a := 1) (n := 49) (st := []) (by omega) (by omega) rfl
  exact law_run facts (x := .rk (ns.map D.int)) tables_ok e (fun st => cell_int (z := ns) (i := 0) (st := st) (by omega))
theorem okF_law {P : Program} {w : World} {K : PySem.W.Frag} {mg : Str → Option Value} {base : Heap} {k : Nat} (M : Mods mg) {f : Addr} {fd : FuncData} (F : Fun K "law" "law" s_law f fd) {kk__law_tables : Nat} {c__law_tables : Fn} (h__law_tables : FnAt P w K mg base "_law_tables" kk__law_tables 0 c__law_tables) (k__law_tables : kk__law_tables ≤ k) {kk__law_digits : Nat} {c__law_digits : Fn} (h__law_digits : FnAt P w K mg base "_law_digits" kk__law_digits 3 c__law_digits) (k__law_digits : kk__law_digits ≤ k) {kk__law_cell : Nat} {c__law_cell : Fn} (h__law_cell : FnAt P w K mg base "_law_cell" kk__law_cell 2 c__law_cell) (k__law_cell : kk__law_cell ≤ k) {kk__law_shape_of : Nat} {c__law_shape_of : Fn} (h__law_shape_of : FnAt P w K mg base "_law_shape_of" kk__law_shape_of 3 c__law_shape_of) (k__law_shape_of : kk__law_shape_of ≤ k) {kk__law_objects : Nat} {c__law_objects : Fn} (h__law_objects : FnAt P w K mg base "_law_objects" kk__law_objects 0 c__law_objects) (k__law_objects : kk__law_objects ≤ k) {kk__law_list_is : Nat} {c__law_list_is : Fn} (h__law_list_is : FnAt P w K mg base "_law_list_is" kk__law_list_is 2 c__law_list_is) (k__law_list_is : kk__law_list_is ≤ k) {kk_object_references : Nat} {c_object_references : Fn} (h_object_references : FnAt P w K mg base "object_references" kk_object_references 1 c_object_references) (k_object_references : kk_object_references ≤ k) {kk__law_refs : Nat} {c__law_refs : Fn} (h__law_refs : FnAt P w K mg base "_law_refs" kk__law_refs 2 c__law_refs) (k__law_refs : kk__law_refs ≤ k) {kk__law_draw : Nat} {c__law_draw : Fn} (h__law_draw : FnAt P w K mg base "_law_draw" kk__law_draw 2 c__law_draw) (k__law_draw : kk__law_draw ≤ k) {kk__law_controls : Nat} {c__law_controls : Fn} (h__law_controls : FnAt P w K mg base "_law_controls" kk__law_controls 0 c__law_controls) (k__law_controls : kk__law_controls ≤ k) {kk_control_references : Nat} {c_control_references : Fn} (h_control_references : FnAt P w K mg base "control_references" kk_control_references 1 c_control_references) (k_control_references : kk_control_references ≤ k) {kk__law_frames : Nat} {c__law_frames : Fn} (h__law_frames : FnAt P w K mg base "_law_frames" kk__law_frames 0 c__law_frames) (k__law_frames : kk__law_frames ≤ k) {kk_frame_references : Nat} {c_frame_references : Fn} (h_frame_references : FnAt P w K mg base "frame_references" kk_frame_references 1 c_frame_references) (k_frame_references : kk_frame_references ≤ k) :
    FnOk P w K mg base CX0 (k + 1) f fd ["script"] (spOf K 1 (mFn0 11 (b_law c__law_tables c__law_digits c__law_cell c__law_shape_of c__law_objects c__law_list_is c_object_references c__law_refs c__law_draw c__law_controls c_control_references c__law_frames c_frame_references))) :=
  fnF F sc_law fun f cdv A outer s H E hr => ⟨_, (pss_cons (ps_if (pt_not (pt_tru (pe_callA0 h__law_tables (hr.mono k__law_tables) (by rfl)))) (pss_one (ps_ret pe_bl)) pss_nil) (pss_cons (ps_set (i := 1) sc_law.nd rfl (by first | exact .inl rfl | exact .inr rfl) (pe_lst (pa_cons (pe_callA h__law_digits (hr.mono k__law_digits) (by rfl) (pa_cons (pv 0) (pa_cons pe_int (pa_cons pe_int pa_nil)))) (pa_cons pe_int pa_nil)))) (pss_cons (ps_set (i := 2) sc_law.nd rfl (by first | exact .inl rfl | exact .inr rfl) (pe_callA h__law_cell (hr.mono k__law_cell) (by rfl) (pa_cons (pv 0) (pa_cons pe_int pa_nil)))) (pss_cons (ps_set (i := 3) sc_law.nd rfl (by first | exact .inl rfl | exact .inr rfl) (pe_ix ix_seq (pe_lst (pa_cons pe_int (pa_cons pe_int pa_nil))) (pe_op op_mod (pe_callTy call_int1 (by rfl) M.m_int bb_int (pa_cons (pv 2) pa_nil)) pe_int) (fun _ _ => rfl))) (pss_cons (ps_set (i := 4) sc_law.nd rfl (by first | exact .inl rfl | exact .inr rfl) (pe_callA h__law_shape_of (hr.mono k__law_shape_of) (by rfl) (pa_cons (pv 1) (pa_cons (pe_ix ix_seq (pe_callA0 h__law_objects (hr.mono k__law_objects) (by rfl)) (pe_op op_mod (pe_callTy call_int1 (by rfl) M.m_int bb_int (pa_cons (pe_op op_fdiv (pv 2) pe_int) pa_nil)) pe_int) (fun _ _ => rfl)) (pa_cons (pv 3) pa_nil))))) (pss_cons (ps_if (pt_not (pt_tru (pe_callA h__law_list_is (hr.mono k__law_list_is) (by rfl) (pa_cons (pe_callA h_object_references (hr.mono k_object_references) (by rfl) (pa_cons (pv 4) pa_nil)) (pa_cons (pe_callA h__law_refs (hr.mono k__law_refs) (by rfl) (pa_cons (pe_callA0 h__law_objects (hr.mono k__law_objects) (by rfl)) (pa_cons (pv 4) pa_nil))) pa_nil))))) (pss_one (ps_ret pe_bl)) pss_nil) (pss_cons (ps_asg (pe_tup (pa_cons (pe_callA h__law_draw (hr.mono k__law_draw) (by rfl) (pa_cons (pv 1) (pa_cons pe_int pa_nil))) (pa_cons (pe_lst pa_nil) pa_nil))) (pg_tup rfl (pgs_cons (pg_name (i := 5) sc_law.nd rfl (by first | exact .inl rfl | exact .inr rfl)) (pgs_cons (pg_name (i := 6) sc_law.nd rfl (by first | exact .inl rfl | exact .inr rfl)) pgs_nil)))) (pss_cons (ps_for PassesOwn.never rfl (pi_range1 (by rfl) M.m_range (pa_cons (pe_op op_addQ pe_int (pe_callA h__law_draw (hr.mono k__law_draw) (by rfl) (pa_cons (pv 1) (pa_cons pe_int pa_nil)))) pa_nil)) (pg_name (i := 7) sc_law.nd rfl (by first | exact .inl rfl | exact .inr rfl)) (pss_one (ps_expr (pe_bm PySem.F.plainAttrs_list PySem.F.slot_list_append PySem.F.type_list_append mt_append (pv 6) (pa_cons (pe_tup (pa_cons (pe_tup (pa_cons pe_str (pa_cons (pe_op op_addQ (pv 5) (pe_op op_mulQ pe_int (pv 7))) pa_nil))) (pa_cons (pe_tup (pa_cons pe_str (pa_cons (pe_op op_addQ (pe_op op_addQ (pv 5) (pe_op op_mulQ pe_int (pv 7))) pe_int) pa_nil))) pa_nil))) pa_nil))))) (pss_cons (ps_if (pt_not (pt_tru (pe_callA h__law_list_is (hr.mono k__law_list_is) (by rfl) (pa_cons (pe_callA h_object_references (hr.mono k_object_references) (by rfl) (pa_cons (pe_tup (pa_cons pe_str (pa_cons (pe_callTy call_tuple_of (by rfl) M.m_tuple bb_tuple (pa_cons (pv 6) pa_nil)) pa_nil))) pa_nil)) (pa_cons (pe_lc (own := [("k", 7)]) rfl sc_law.nd (pi_range1 (by rfl) M.m_range (pa_cons (pe_op op_mulQ pe_int (pe_callB call_lenQ (by rfl) M.m_len bb_len (pa_cons (pv 6) pa_nil))) pa_nil)) (blkOk_by (N := ["script", "box", "cell", "many", "item", "first", "pairs", "k", "control", "table", "frame"]) (sc := defScope s_law) (own := [("k", 7)]) (by decide +kernel)) (fun _ _ _ _ _ => (pg_name (i := 7) sc_law.nd rfl (by first | exact .inl rfl | exact .inr rfl))) (fun _ _ _ _ _ => pts_nil) (fun _ _ _ _ _ => (pe_op op_addQ (pv 5) (pv 7)))) pa_nil))))) (pss_one (ps_ret pe_bl)) pss_nil) (pss_cons (ps_set (i := 8) sc_law.nd rfl (by first | exact .inl rfl | exact .inr rfl) (pe_callA h__law_shape_of (hr.mono k__law_shape_of) (by rfl) (pa_cons (pv 1) (pa_cons (pe_ix ix_seq (pe_callA0 h__law_controls (hr.mono k__law_controls) (by rfl)) (pe_op op_mod (pe_callTy call_int1 (by rfl) M.m_int bb_int (pa_cons (pe_op op_fdiv (pv 2) pe_int) pa_nil)) pe_int) (fun _ _ => rfl)) (pa_cons (pv 3) pa_nil))))) (pss_cons (ps_if (pt_not (pt_tru (pe_callA h__law_list_is (hr.mono k__law_list_is) (by rfl) (pa_cons (pe_callA h_control_references (hr.mono k_control_references) (by rfl) (pa_cons (pv 8) pa_nil)) (pa_cons (pe_callA h__law_refs (hr.mono k__law_refs) (by rfl) (pa_cons (pe_callA0 h__law_controls (hr.mono k__law_controls) (by rfl)) (pa_cons (pv 8) pa_nil))) pa_nil))))) (pss_one (ps_ret pe_bl)) pss_nil) (pss_cons (ps_set (i := 9) sc_law.nd rfl (by first | exact .inl rfl | exact .inr rfl) (pe_callA0 h__law_frames (hr.mono k__law_frames) (by rfl))) (pss_cons (ps_set (i := 10) sc_law.nd rfl (by first | exact .inl rfl | exact .inr rfl) (pe_callA h__law_shape_of (hr.mono k__law_shape_of) (by rfl) (pa_cons (pv 1) (pa_cons (pe_ix ix_seq (pv 9) (pe_op op_mod (pe_callTy call_int1 (by rfl) M.m_int bb_int (pa_cons (pe_op op_fdiv (pv 2) pe_int) pa_nil)) (pe_callB call_lenQ (by rfl) M.m_len bb_len (pa_cons (pv 9) pa_nil))) (fun _ _ => rfl)) (pa_cons (pv 3) pa_nil))))) (pss_one (ps_ret (pe_callA h__law_list_is (hr.mono k__law_list_is) (by rfl) (pa_cons (pe_callA h_frame_references (hr.mono k_frame_references) (by rfl) (pa_cons (pv 10) pa_nil)) (pa_cons (pe_callA h__law_refs (hr.mono k__law_refs) (by rfl) (pa_cons (pv 9) (pa_cons (pv 10) pa_nil))) pa_nil)))))))))))))))))),
    (ls_seq (ls_if (lt_not (lt_tru (le_call0 la_nil len_nil))) (ls_ret (le_c fun _ _ => rfl)) ls_nil) (ls_seq (ls_set (le_mat (le_lst (la_cons (le_call0 (la_cons le_var (la_cons (le_c fun _ _ => rfl) (la_cons (le_c fun _ _ => rfl) la_nil))) (len_cons (len_cons (len_cons len_nil)))) (la_cons (le_c fun _ _ => rfl) la_nil)) (len_cons (len_cons len_nil)) (by decide : 2 ≤ sizeLine)))) (ls_seq (ls_set (le_call0 (la_cons le_var (la_cons (le_c fun _ _ => rfl) la_nil)) (len_cons (len_cons len_nil)))) (ls_seq (ls_set (le_bin (le_lst (la_cons (le_c fun _ _ => rfl) (la_cons (le_c fun _ _ => rfl) la_nil)) (len_cons (len_cons len_nil)) (by decide : 2 ≤ sizeLine)) (le_bin (le_args (la_cons le_var la_nil) cInt_ok) (le_c fun _ _ => rfl) opMod_ok) opIx_ok)) (ls_seq (ls_set (le_call0 (la_cons le_var (la_cons (le_bin (le_call0 la_nil len_nil) (le_bin (le_args (la_cons (le_bin le_var (le_c fun _ _ => rfl) opFdiv_ok) la_nil) cInt_ok) (le_c fun _ _ => rfl) opMod_ok) opIx_ok) (la_cons le_var la_nil))) (len_cons (len_cons (len_cons len_nil))))) (ls_seq (ls_if (lt_not (lt_tru (le_call0 (la_cons (le_call0 (la_cons le_var la_nil) (len_cons len_nil)) (la_cons (le_call0 (la_cons (le_call0 la_nil len_nil) (la_cons le_var la_nil)) (len_cons (len_cons len_nil))) la_nil)) (len_cons (len_cons len_nil))))) (ls_ret (le_c fun _ _ => rfl)) ls_nil) (ls_seq (ls_asgG (lg_tup (lgs_cons lg_name (lgs_cons lg_name lgs_nil))) (le_tup (la_cons (le_call0 (la_cons le_var (la_cons (le_c fun _ _ => rfl) la_nil)) (len_cons (len_cons len_nil))) (la_cons (le_mat (le_lst la_nil len_nil (by decide : 0 ≤ sizeLine))) la_nil)) (len_cons (len_cons len_nil)) (by decide : 2 ≤ sizeLine))) (ls_seq (ls_for (li_rng1 (la_cons (le_bin (le_c fun _ _ => rfl) (le_call0 (la_cons le_var (la_cons (le_c fun _ _ => rfl) la_nil)) (len_cons (len_cons len_nil))) opAdd_ok) la_nil)) lg_name (ls_expr (le_bml le_var (la_cons (le_tup (la_cons (le_tup (la_cons (le_c fun _ _ => rfl) (la_cons (le_bin le_var (le_bin (le_c fun _ _ => rfl) le_var opMul_ok) opAdd_ok) la_nil)) (len_cons (len_cons len_nil)) (by decide : 2 ≤ sizeLine)) (la_cons (le_tup (la_cons (le_c fun _ _ => rfl) (la_cons (le_bin (le_bin le_var (le_bin (le_c fun _ _ => rfl) le_var opMul_ok) opAdd_ok) (le_c fun _ _ => rfl) opAdd_ok) la_nil)) (len_cons (len_cons len_nil)) (by decide : 2 ≤ sizeLine)) la_nil)) (len_cons (len_cons len_nil)) (by decide : 2 ≤ sizeLine)) la_nil) opAppend_ok))) (ls_seq (ls_if (lt_not (lt_tru (le_call0 (la_cons (le_call0 (la_cons (le_tup (la_cons (le_c fun _ _ => rfl) (la_cons (le_args (la_cons le_var la_nil) cTup_ok) la_nil)) (len_cons (len_cons len_nil)) (by decide : 2 ≤ sizeLine)) la_nil) (len_cons len_nil)) (la_cons (le_lc (li_rng1 (la_cons (le_bin (le_c fun _ _ => rfl) (le_args (la_cons le_var la_nil) cLen_ok) opMul_ok) la_nil)) lg_name (by decide) lt_yes (le_bin le_var le_var opAdd_ok)) la_nil)) (len_cons (len_cons len_nil))))) (ls_ret (le_c fun _ _ => rfl)) ls_nil) (ls_seq (ls_set (le_call0 (la_cons le_var (la_cons (le_bin (le_call0 la_nil len_nil) (le_bin (le_args (la_cons (le_bin le_var (le_c fun _ _ => rfl) opFdiv_ok) la_nil) cInt_ok) (le_c fun _ _ => rfl) opMod_ok) opIx_ok) (la_cons le_var la_nil))) (len_cons (len_cons (len_cons len_nil))))) (ls_seq (ls_if (lt_not (lt_tru (le_call0 (la_cons (le_call0 (la_cons le_var la_nil) (len_cons len_nil)) (la_cons (le_call0 (la_cons (le_call0 la_nil len_nil) (la_cons le_var la_nil)) (len_cons (len_cons len_nil))) la_nil)) (len_cons (len_cons len_nil))))) (ls_ret (le_c fun _ _ => rfl)) ls_nil) (ls_seq (ls_set (le_call0 la_nil len_nil)) (ls_seq (ls_set (le_call0 (la_cons le_var (la_cons (le_bin le_var (le_bin (le_args (la_cons (le_bin le_var (le_c fun _ _ => rfl) opFdiv_ok) la_nil) cInt_ok) (le_args (la_cons le_var la_nil) cLen_ok) opMod_ok) opIx_ok) (la_cons le_var la_nil))) (len_cons (len_cons (len_cons len_nil))))) (ls_ret (le_call0 (la_cons (le_call0 (la_cons le_var la_nil) (len_cons len_nil)) (la_cons (le_call0 (la_cons le_var (la_cons le_var la_nil)) (len_cons (len_cons len_nil))) la_nil)) (len_cons (len_cons len_nil)))))))))))))))))⟩
section
variable {P : Program} {w : World} {K : PySem.W.Frag} {mg : Str → Option Value} {base : Heap}
/-- what the law's text is known by -/
structure Text (K : PySem.W.Frag) (w : World) (mg : Str → Option Value) : Prop where
  M : Mods mg
  D_letters : DefAt K mg "letters" s_letters ["sort", "kind"]
  D_field_values : DefAt K mg "field_values" s_field_values ["letter", "field"]
  D_references : DefAt K mg "references" s_references ["sort", "item"]
  D_object_references : DefAt K mg "object_references" s_object_references ["item"]
  D_frame_references : DefAt K mg "frame_references" s_frame_references ["frame"]
  D_control_references : DefAt K mg "control_references" s_control_references ["control"]
  D__law_is_integer : DefAt K mg "_law_is_integer" s__law_is_integer ["actual"]
  D__law_cell : DefAt K mg "_law_cell" s__law_cell ["script", "k"]
  D__law_list_is : DefAt K mg "_law_list_is" s__law_list_is ["actual", "due"]
  D__law_digits : DefAt K mg "_law_digits" s__law_digits ["script", "first", "last"]
  D__law_draw : DefAt K mg "_law_draw" s__law_draw ["box", "many"]
  D__law_signs : DefAt K mg "_law_signs" s__law_signs []
  D__law_text : DefAt K mg "_law_text" s__law_text ["box", "up"]
  D__law_name : DefAt K mg "_law_name" s__law_name ["box"]
  D__law_number : DefAt K mg "_law_number" s__law_number ["box"]
  D__law_value : DefAt K mg "_law_value" s__law_value ["box", "many"]
  D__law_tree : DefAt K mg "_law_tree" s__law_tree ["box", "depth"]
  D__law_objects : DefAt K mg "_law_objects" s__law_objects []
  D__law_controls : DefAt K mg "_law_controls" s__law_controls []
  D__law_frames : DefAt K mg "_law_frames" s__law_frames []
  D__law_letters : DefAt K mg "_law_letters" s__law_letters ["table", "kind"]
  D__law_values : DefAt K mg "_law_values" s__law_values ["letter", "field"]
  D__law_refs : DefAt K mg "_law_refs" s__law_refs ["table", "item"]
  D__law_field : DefAt K mg "_law_field" s__law_field ["box", "letter", "many"]
  D__law_shape_of : DefAt K mg "_law_shape_of" s__law_shape_of ["box", "row", "many"]
  D__law_shape : DefAt K mg "_law_shape" s__law_shape ["box", "table", "many"]
  D__law_tables : DefAt K mg "_law_tables" s__law_tables []
  D_law : DefAt K mg "law" s_law ["script"]
  T_OBJECTS : ∃ d, mg "OBJECTS" = some (.ref d) ∧ KTab K w d (tabV tab_OBJECTS)
  T_FIELDS : ∃ d, mg "FIELDS" = some (.ref d) ∧ KTab K w d (tabV tab_FIELDS)
  T_CONTROLS : ∃ d, mg "CONTROLS" = some (.ref d) ∧ KTab K w d (tabV tab_CONTROLS)
theorem fn_all (X : Text K w mg) {f : Addr} {fd : FuncData} (F : Fun K "law" "law" s_law f fd) : FnOk P w K mg base CX0 12 f fd ["script"] (spOf K 1 C_law) := by
  have M := X.M
  have D_letters := X.D_letters
  have D_field_values := X.D_field_values
  have D_references := X.D_references
  have D_object_references := X.D_object_references
  have D_frame_references := X.D_frame_references
  have D_control_references := X.D_control_references
  have D__law_is_integer := X.D__law_is_integer
  have D__law_cell := X.D__law_cell
  have D__law_list_is := X.D__law_list_is
  have D__law_digits := X.D__law_digits
  have D__law_draw := X.D__law_draw
  have D__law_signs := X.D__law_signs
  have D__law_text := X.D__law_text
  have D__law_name := X.D__law_name
  have D__law_number := X.D__law_number
  have D__law_value := X.D__law_value
  have D__law_tree := X.D__law_tree
  have D__law_objects := X.D__law_objects
  have D__law_controls := X.D__law_controls
  have D__law_frames := X.D__law_frames
  have D__law_letters := X.D__law_letters
  have D__law_values := X.D__law_values
  have D__law_refs := X.D__law_refs
  have D__law_field := X.D__law_field
  have D__law_shape_of := X.D__law_shape_of
  have D__law_shape := X.D__law_shape
  have D__law_tables := X.D__law_tables
  have D_law := X.D_law
  obtain ⟨d_OBJECTS, g_OBJECTS, t_OBJECTS⟩ := X.T_OBJECTS
  obtain ⟨d_FIELDS, g_FIELDS, t_FIELDS⟩ := X.T_FIELDS
  obtain ⟨d_CONTROLS, g_CONTROLS, t_CONTROLS⟩ := X.T_CONTROLS
  have f1 : FnAt P w K mg base "letters" 1 2 (L_letters) := ok_letters (k := 0) M D_letters g_OBJECTS t_OBJECTS g_FIELDS t_FIELDS g_CONTROLS t_CONTROLS
  have f2 : FnAt P w K mg base "field_values" 1 2 (L_field_values) := ok_field_values (k := 0) M D_field_values 
  have f3 : FnAt P w K mg base "references" 0 2 (L_references 0) := FnAt.none D_references
  have f4 : FnAt P w K mg base "references" 2 2 (L_references 1) := ok_references (k := 1) M D_references f1 (by decide) f3 (by decide) f2 (by decide)
  have f5 : FnAt P w K mg base "references" 3 2 (L_references 2) := ok_references (k := 2) M D_references f1 (by decide) f4 (by decide) f2 (by decide)
  have f6 : FnAt P w K mg base "object_references" 4 1 (mFn0 1 (b_object_references (L_references 2))) := ok_object_references (k := 3) M D_object_references f5 (by decide)
  have f7 : FnAt P w K mg base "frame_references" 4 1 (mFn0 1 (b_frame_references (L_references 2))) := ok_frame_references (k := 3) M D_frame_references f5 (by decide)
  have f8 : FnAt P w K mg base "control_references" 4 1 (mFn0 1 (b_control_references (L_references 2))) := ok_control_references (k := 3) M D_control_references f5 (by decide)
  have f9 : FnAt P w K mg base "_law_is_integer" 1 1 (L_is_integer) := ok__law_is_integer (k := 0) M D__law_is_integer 
  have f10 : FnAt P w K mg base "_law_cell" 1 2 (L_cell) := ok__law_cell (k := 0) M D__law_cell 
  have f11 : FnAt P w K mg base "_law_list_is" 2 2 (L_list_is) := ok__law_list_is (k := 1) M D__law_list_is f9 (by decide)
  have f12 : FnAt P w K mg base "_law_digits" 2 3 (L_digits) := ok__law_digits (k := 1) M D__law_digits f10 (by decide)
  have f13 : FnAt P w K mg base "_law_digits" 2 3 (S_digits) := f12.gc (fun _ _ _ _ _ h => tempL_gc h)
  have f14 : FnAt P w K mg base "_law_draw" 1 2 (L_draw) := ok__law_draw (k := 0) M D__law_draw 
  have f15 : FnAt P w K mg base "_law_signs" 1 0 (L_signs) := ok__law_signs (k := 0) M D__law_signs 
  have f16 : FnAt P w K mg base "_law_text" 2 2 (L_text) := ok__law_text (k := 1) M D__law_text f15 (by decide) f14 (by decide)
  have f17 : FnAt P w K mg base "_law_name" 2 1 (L_name) := ok__law_name (k := 1) M D__law_name f14 (by decide)
  have f18 : FnAt P w K mg base "_law_number" 2 1 (L_number) := ok__law_number (k := 1) M D__law_number f14 (by decide)
  have f19 : FnAt P w K mg base "_law_value" 3 2 (L_value) := ok__law_value (k := 2) M D__law_value f14 (by decide) f18 (by decide) f16 (by decide) f17 (by decide)
  have f20 : FnAt P w K mg base "_law_tree" 0 2 (L_tree 0) := FnAt.none D__law_tree
  have f21 : FnAt P w K mg base "_law_tree" 3 2 (L_tree 1) := ok__law_tree (k := 2) M D__law_tree f14 (by decide) f16 (by decide) f18 (by decide) f17 (by decide) f20 (by decide)
  have f22 : FnAt P w K mg base "_law_tree" 4 2 (L_tree 2) := ok__law_tree (k := 3) M D__law_tree f14 (by decide) f16 (by decide) f18 (by decide) f17 (by decide) f21 (by decide)
  have f23 : FnAt P w K mg base "_law_tree" 5 2 (L_tree 3) := ok__law_tree (k := 4) M D__law_tree f14 (by decide) f16 (by decide) f18 (by decide) f17 (by decide) f22 (by decide)
  have f24 : FnAt P w K mg base "_law_tree" 6 2 (L_tree 4) := ok__law_tree (k := 5) M D__law_tree f14 (by decide) f16 (by decide) f18 (by decide) f17 (by decide) f23 (by decide)
  have f25 : FnAt P w K mg base "_law_objects" 1 0 (L_objects) := ok__law_objects (k := 0) M D__law_objects 
  have f26 : FnAt P w K mg base "_law_controls" 1 0 (L_controls) := ok__law_controls (k := 0) M D__law_controls 
  have f27 : FnAt P w K mg base "_law_frames" 1 0 (L_frames) := ok__law_frames (k := 0) M D__law_frames 
  have f28 : FnAt P w K mg base "_law_letters" 1 2 (L_lawletters) := ok__law_letters (k := 0) M D__law_letters 
  have f29 : FnAt P w K mg base "_law_values" 1 2 (L_values) := ok__law_values (k := 0) M D__law_values 
  have f30 : FnAt P w K mg base "_law_refs" 0 2 (L_refs 0) := FnAt.none D__law_refs
  have f31 : FnAt P w K mg base "_law_refs" 2 2 (L_refs 1) := ok__law_refs (k := 1) M D__law_refs f28 (by decide) f30 (by decide) f27 (by decide) f29 (by decide)
  have f32 : FnAt P w K mg base "_law_refs" 3 2 (L_refs 2) := ok__law_refs (k := 2) M D__law_refs f28 (by decide) f31 (by decide) f27 (by decide) f29 (by decide)
  have f33 : FnAt P w K mg base "_law_frames" 1 0 (S_frames) := f27.gc (fun _ _ ha hl _ _ => frames_gc ha hl)
  have f34 : FnAt P w K mg base "_law_field" 0 3 (L_field 0) := FnAt.none D__law_field
  have f35 : FnAt P w K mg base "_law_shape_of" 1 3 (L_shape_of (L_field 0)) := ok__law_shape_of (k := 0) M D__law_shape_of f34 (by decide)
  have f36 : FnAt P w K mg base "_law_shape" 2 3 (L_shape (L_field 0)) := ok__law_shape (k := 1) M D__law_shape f14 (by decide) f35 (by decide)
  have f37 : FnAt P w K mg base "_law_field" 7 3 (L_field 1) := ok__law_field (k := 6) M D__law_field f19 (by decide) f14 (by decide) f17 (by decide) f24 (by decide) f18 (by decide) f36 (by decide) f33 (by decide)
  have f38 : FnAt P w K mg base "_law_shape_of" 8 3 (L_shape_of (L_field 1)) := ok__law_shape_of (k := 7) M D__law_shape_of f37 (by decide)
  have f39 : FnAt P w K mg base "_law_shape" 9 3 (L_shape (L_field 1)) := ok__law_shape (k := 8) M D__law_shape f14 (by decide) f38 (by decide)
  have f40 : FnAt P w K mg base "_law_field" 10 3 (L_field 2) := ok__law_field (k := 9) M D__law_field f19 (by decide) f14 (by decide) f17 (by decide) f24 (by decide) f18 (by decide) f39 (by decide) f33 (by decide)
  have f41 : FnAt P w K mg base "_law_shape_of" 11 3 (L_shape_of (L_field 2)) := ok__law_shape_of (k := 10) M D__law_shape_of f40 (by decide)
  have f42 : FnAt P w K mg base "_law_tables" 2 0 (S_tables) := ok__law_tables (k := 1) M D__law_tables g_OBJECTS t_OBJECTS g_CONTROLS t_CONTROLS g_FIELDS t_FIELDS f25 (by decide) f26 (by decide) f33 (by decide)
  exact okF_law (k := 11) M F f42 (by decide) f13 (by decide) f10 (by decide) f41 (by decide) f25 (by decide) f11 (by decide) f6 (by decide) f32 (by decide) f14 (by decide) f26 (by decide) f8 (by decide) f33 (by decide) f7 (by decide)
end
theorem fin {P : Program} {w : World} {K : PySem.W.Frag} {mg : Str → Option Value} {fa : Addr} (X : Text K w mg) (hfa : mg "law" = some (.ref fa)) :
    ∃ fd : FuncData, (∀ (s : Shared) (u : Value), BindsTo s fd ⟨[u], []⟩ [("script", u)]) ∧ ∀ base : Heap, K.In base → base.Ns mainGlobals mg → FnOk P w K mg base CX0 12 fa fd ["script"] (spOf K 1 C_law) := by
  obtain ⟨f, fd, F, hb, hm⟩ := X.D_law.ex
  have ef := hm.symm.trans hfa
  cases ef
  refine ⟨fd, fun s u => ?_, fun base _ _ => fn_all X F⟩
  obtain ⟨oc, od, kV, doc, pm, an, cdv, ct, osl, rfl, lk, hcd⟩ := F.ex
  exact .of_eq rfl
end L78

open PySem PySem.W PyProof.Rows in
set_option maxHeartbeats 0 in
theorem PySem.Challenge.cw_pyhold_k78_references_holds : PySem.Challenge.rw_pyhold_k78_references.Holds := by
  w_on; o_law; k_head; (case hw => w_witness2)
  k_fill
  refine L2.walk_ofK (l := PySem.Challenge.rw_pyhold_k78_references) (n := 63) (k := 12) (x := "script") (CX := L2.CX0) (sp := fun K => Q3.spOf K 1 L78.C_law) rfl (by decide) rfl ⟨rfl, by decide, by decide⟩ (fun w h Y => PySem.W.kIn_of Y) ?F (fun _ _ a ns hl ho hS => Q3.law_sp (L78.law_true ns) ho hS) fun _ _ _ _ z => z
  case F =>
    intro w mg fa h KX G hmg
    refine' L78.fin ⟨?zM, ?zD_letters, ?zD_field_values, ?zD_references, ?zD_object_references, ?zD_frame_references, ?zD_control_references, ?zD__law_is_integer, ?zD__law_cell, ?zD__law_list_is, ?zD__law_digits, ?zD__law_draw, ?zD__law_signs, ?zD__law_text, ?zD__law_name, ?zD__law_number, ?zD__law_value, ?zD__law_tree, ?zD__law_objects, ?zD__law_controls, ?zD__law_frames, ?zD__law_letters, ?zD__law_values, ?zD__law_refs, ?zD__law_field, ?zD__law_shape_of, ?zD__law_shape, ?zD__law_tables, ?zD_law, ?zT_OBJECTS, ?zT_FIELDS, ?zT_CONTROLS⟩ hmg
    case zD_letters =>
      refine' Q3.defAt_mk KX G ?za ?zl ?zc ?zk (fun f fd F => F.binds (ps := ["sort", "kind"]) fun _ _ _ _ _ _ us hl => match us, hl with | [_, _], _ => rfl)
      (case za => k_is)
      (case zl => k_is)
      (case zc => k_is)
      (case zk => k_is)
    case zD_field_values =>
      refine' Q3.defAt_mk KX G ?za ?zl ?zc ?zk (fun f fd F => F.binds (ps := ["letter", "field"]) fun _ _ _ _ _ _ us hl => match us, hl with | [_, _], _ => rfl)
      (case za => k_is)
      (case zl => k_is)
      (case zc => k_is)
      (case zk => k_is)
    case zD_references =>
      refine' Q3.defAt_mk KX G ?za ?zl ?zc ?zk (fun f fd F => F.binds (ps := ["sort", "item"]) fun _ _ _ _ _ _ us hl => match us, hl with | [_, _], _ => rfl)
      (case za => k_is)
      (case zl => k_is)
      (case zc => k_is)
      (case zk => k_is)
    case zD_object_references =>
      refine' Q3.defAt_mk KX G ?za ?zl ?zc ?zk (fun f fd F => F.binds (ps := ["item"]) fun _ _ _ _ _ _ us hl => match us, hl with | [_], _ => rfl)
      (case za => k_is)
      (case zl => k_is)
      (case zc => k_is)
      (case zk => k_is)
    case zD_frame_references =>
      refine' Q3.defAt_mk KX G ?za ?zl ?zc ?zk (fun f fd F => F.binds (ps := ["frame"]) fun _ _ _ _ _ _ us hl => match us, hl with | [_], _ => rfl)
      (case za => k_is)
      (case zl => k_is)
      (case zc => k_is)
      (case zk => k_is)
    case zD_control_references =>
      refine' Q3.defAt_mk KX G ?za ?zl ?zc ?zk (fun f fd F => F.binds (ps := ["control"]) fun _ _ _ _ _ _ us hl => match us, hl with | [_], _ => rfl)
      (case za => k_is)
      (case zl => k_is)
      (case zc => k_is)
      (case zk => k_is)
    case zD__law_is_integer =>
      refine' Q3.defAt_mk KX G ?za ?zl ?zc ?zk (fun f fd F => F.binds (ps := ["actual"]) fun _ _ _ _ _ _ us hl => match us, hl with | [_], _ => rfl)
      (case za => k_is)
      (case zl => k_is)
      (case zc => k_is)
      (case zk => k_is)
    case zD__law_cell =>
      refine' Q3.defAt_mk KX G ?za ?zl ?zc ?zk (fun f fd F => F.binds (ps := ["script", "k"]) fun _ _ _ _ _ _ us hl => match us, hl with | [_, _], _ => rfl)
      (case za => k_is)
      (case zl => k_is)
      (case zc => k_is)
      (case zk => k_is)
    case zD__law_list_is =>
      refine' Q3.defAt_mk KX G ?za ?zl ?zc ?zk (fun f fd F => F.binds (ps := ["actual", "due"]) fun _ _ _ _ _ _ us hl => match us, hl with | [_, _], _ => rfl)
      (case za => k_is)
      (case zl => k_is)
      (case zc => k_is)
      (case zk => k_is)
    case zD__law_digits =>
      refine' Q3.defAt_mk KX G ?za ?zl ?zc ?zk (fun f fd F => F.binds (ps := ["script", "first", "last"]) fun _ _ _ _ _ _ us hl => match us, hl with | [_, _, _], _ => rfl)
      (case za => k_is)
      (case zl => k_is)
      (case zc => k_is)
      (case zk => k_is)
    case zD__law_draw =>
      refine' Q3.defAt_mk KX G ?za ?zl ?zc ?zk (fun f fd F => F.binds (ps := ["box", "many"]) fun _ _ _ _ _ _ us hl => match us, hl with | [_, _], _ => rfl)
      (case za => k_is)
      (case zl => k_is)
      (case zc => k_is)
      (case zk => k_is)
    case zD__law_signs =>
      refine' Q3.defAt_mk KX G ?za ?zl ?zc ?zk (fun f fd F => F.binds (ps := []) fun _ _ _ _ _ _ us hl => match us, hl with | [], _ => rfl)
      (case za => k_is)
      (case zl => k_is)
      (case zc => k_is)
      (case zk => k_is)
    case zD__law_text =>
      refine' Q3.defAt_mk KX G ?za ?zl ?zc ?zk (fun f fd F => F.binds (ps := ["box", "up"]) fun _ _ _ _ _ _ us hl => match us, hl with | [_, _], _ => rfl)
      (case za => k_is)
      (case zl => k_is)
      (case zc => k_is)
      (case zk => k_is)
    case zD__law_name =>
      refine' Q3.defAt_mk KX G ?za ?zl ?zc ?zk (fun f fd F => F.binds (ps := ["box"]) fun _ _ _ _ _ _ us hl => match us, hl with | [_], _ => rfl)
      (case za => k_is)
      (case zl => k_is)
      (case zc => k_is)
      (case zk => k_is)
    case zD__law_number =>
      refine' Q3.defAt_mk KX G ?za ?zl ?zc ?zk (fun f fd F => F.binds (ps := ["box"]) fun _ _ _ _ _ _ us hl => match us, hl with | [_], _ => rfl)
      (case za => k_is)
      (case zl => k_is)
      (case zc => k_is)
      (case zk => k_is)
    case zD__law_value =>
      refine' Q3.defAt_mk KX G ?za ?zl ?zc ?zk (fun f fd F => F.binds (ps := ["box", "many"]) fun _ _ _ _ _ _ us hl => match us, hl with | [_, _], _ => rfl)
      (case za => k_is)
      (case zl => k_is)
      (case zc => k_is)
      (case zk => k_is)
    case zD__law_tree =>
      refine' Q3.defAt_mk KX G ?za ?zl ?zc ?zk (fun f fd F => F.binds (ps := ["box", "depth"]) fun _ _ _ _ _ _ us hl => match us, hl with | [_, _], _ => rfl)
      (case za => k_is)
      (case zl => k_is)
      (case zc => k_is)
      (case zk => k_is)
    case zD__law_objects =>
      refine' Q3.defAt_mk KX G ?za ?zl ?zc ?zk (fun f fd F => F.binds (ps := []) fun _ _ _ _ _ _ us hl => match us, hl with | [], _ => rfl)
      (case za => k_is)
      (case zl => k_is)
      (case zc => k_is)
      (case zk => k_is)
    case zD__law_controls =>
      refine' Q3.defAt_mk KX G ?za ?zl ?zc ?zk (fun f fd F => F.binds (ps := []) fun _ _ _ _ _ _ us hl => match us, hl with | [], _ => rfl)
      (case za => k_is)
      (case zl => k_is)
      (case zc => k_is)
      (case zk => k_is)
    case zD__law_frames =>
      refine' Q3.defAt_mk KX G ?za ?zl ?zc ?zk (fun f fd F => F.binds (ps := []) fun _ _ _ _ _ _ us hl => match us, hl with | [], _ => rfl)
      (case za => k_is)
      (case zl => k_is)
      (case zc => k_is)
      (case zk => k_is)
    case zD__law_letters =>
      refine' Q3.defAt_mk KX G ?za ?zl ?zc ?zk (fun f fd F => F.binds (ps := ["table", "kind"]) fun _ _ _ _ _ _ us hl => match us, hl with | [_, _], _ => rfl)
      (case za => k_is)
      (case zl => k_is)
      (case zc => k_is)
      (case zk => k_is)
    case zD__law_values =>
      refine' Q3.defAt_mk KX G ?za ?zl ?zc ?zk (fun f fd F => F.binds (ps := ["letter", "field"]) fun _ _ _ _ _ _ us hl => match us, hl with | [_, _], _ => rfl)
      (case za => k_is)
      (case zl => k_is)
      (case zc => k_is)
      (case zk => k_is)
    case zD__law_refs =>
      refine' Q3.defAt_mk KX G ?za ?zl ?zc ?zk (fun f fd F => F.binds (ps := ["table", "item"]) fun _ _ _ _ _ _ us hl => match us, hl with | [_, _], _ => rfl)
      (case za => k_is)
      (case zl => k_is)
      (case zc => k_is)
      (case zk => k_is)
    case zD__law_field =>
      refine' Q3.defAt_mk KX G ?za ?zl ?zc ?zk (fun f fd F => F.binds (ps := ["box", "letter", "many"]) fun _ _ _ _ _ _ us hl => match us, hl with | [_, _, _], _ => rfl)
      (case za => k_is)
      (case zl => k_is)
      (case zc => k_is)
      (case zk => k_is)
    case zD__law_shape_of =>
      refine' Q3.defAt_mk KX G ?za ?zl ?zc ?zk (fun f fd F => F.binds (ps := ["box", "row", "many"]) fun _ _ _ _ _ _ us hl => match us, hl with | [_, _, _], _ => rfl)
      (case za => k_is)
      (case zl => k_is)
      (case zc => k_is)
      (case zk => k_is)
    case zD__law_shape =>
      refine' Q3.defAt_mk KX G ?za ?zl ?zc ?zk (fun f fd F => F.binds (ps := ["box", "table", "many"]) fun _ _ _ _ _ _ us hl => match us, hl with | [_, _, _], _ => rfl)
      (case za => k_is)
      (case zl => k_is)
      (case zc => k_is)
      (case zk => k_is)
    case zD__law_tables =>
      refine' Q3.defAt_mk KX G ?za ?zl ?zc ?zk (fun f fd F => F.binds (ps := []) fun _ _ _ _ _ _ us hl => match us, hl with | [], _ => rfl)
      (case za => k_is)
      (case zl => k_is)
      (case zc => k_is)
      (case zk => k_is)
    case zD_law =>
      refine' Q3.defAt_mk KX G ?za ?zl ?zc ?zk (fun f fd F => F.binds (ps := ["script"]) fun _ _ _ _ _ _ us hl => match us, hl with | [_], _ => rfl)
      (case za => k_is)
      (case zl => k_is)
      (case zc => k_is)
      (case zk => k_is)
    case zT_OBJECTS =>
      refine' Q3.tab_mk KX G ?za ?zl ?zq ?ze ?zs
      (case za => k_is)
      (case zl => k_is)
      (case zq => k_keys)
      (case ze => (unfold L78.tab_OBJECTS Q3.strs2 Q3.tabV; simp only [List.map_cons, List.map_nil]; repeat (first | exact PySem.Paired.nil | refine PySem.Paired.cons ⟨⟨_, rfl⟩, ⟨_, rfl⟩⟩ ?_)))
      (case zs => first | rfl | decide)
    case zT_FIELDS =>
      refine' Q3.tab_mk KX G ?za ?zl ?zq ?ze ?zs
      (case za => k_is)
      (case zl => k_is)
      (case zq => k_keys)
      (case ze => (unfold L78.tab_FIELDS Q3.strs2 Q3.tabV; simp only [List.map_cons, List.map_nil]; repeat (first | exact PySem.Paired.nil | refine PySem.Paired.cons ⟨⟨_, rfl⟩, ⟨_, rfl⟩⟩ ?_)))
      (case zs => first | rfl | decide)
    case zT_CONTROLS =>
      refine' Q3.tab_mk KX G ?za ?zl ?zq ?ze ?zs
      (case za => k_is)
      (case zl => k_is)
      (case zq => k_keys)
      (case ze => (unfold L78.tab_CONTROLS Q3.strs2 Q3.tabV; simp only [List.map_cons, List.map_nil]; repeat (first | exact PySem.Paired.nil | refine PySem.Paired.cons ⟨⟨_, rfl⟩, ⟨_, rfl⟩⟩ ?_)))
      (case zs => first | rfl | decide)
    case zM =>
      refine' ⟨PySem.W.mg_none_of KX G ?zm0, PySem.W.mg_none_of KX G ?zm1, PySem.W.mg_none_of KX G ?zm2, PySem.W.mg_none_of KX G ?zm3, PySem.W.mg_none_of KX G ?zm4, PySem.W.mg_none_of KX G ?zm5, PySem.W.mg_none_of KX G ?zm6, PySem.W.mg_none_of KX G ?zm7, PySem.W.mg_none_of KX G ?zm8⟩
      (case zm0 => k_is)
      (case zm1 => k_is)
      (case zm2 => k_is)
      (case zm3 => k_is)
      (case zm4 => k_is)
      (case zm5 => k_is)
      (case zm6 => k_is)
      (case zm7 => k_is)
      (case zm8 => k_is)
#print axioms PySem.Challenge.cw_pyhold_k78_references_holds
