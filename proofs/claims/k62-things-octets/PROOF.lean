import PyProof.Rows.All
import Wide.All
import OpenK.AllK
import Wide.FinOn
import PyProof.EqAt
import PyProof.EqKinds
import PyProof.TupleCall
import HandS.ForMost
import HandS.Exc
import HandS.TryOnly
import HandS.ExcOwn
import HandS.WordsExc
import HandS.Wide
import HandS.WideMore
import HandS.TupAny
import HandS.Style
import HandS.IsInst
import HandS.ExcIs
import HandS.TryMany
import HandS.CallRecv
import HandS.StrMore
import HandS.RevTup
import HandS.SortInts
import HandS.Dict
import HandS.Rev
import PyProof.StrBlock2
import HandS.ExcInit
import HandS.Defaults
import HandS.Head0
import HandS.Head1
import HandS.Head2
import HandS.HeadEnd
import HandS.HeadHook1
import HandS.HeadHook2
import PySem.Challenge.RW_shaperoads_k62_whole_things_as_octets
import PyProof.P3Eq
section
set_option Elab.async false
set_option linter.all false
set_option maxRecDepth 100000
set_option maxHeartbeats 2000000
/-! # The data that stand in a heap, a frame's slots, what a step keeps -/
namespace ML
open PySem L2

abbrev D := PyData

/-- what an object that may change holds -/
inductive Ob where
  | lst (xs : List D)
  | dct (kvs : List (Key × D))
  | ins (c : Str) (fs : List (Str × D))

/-- a slot: not stored yet, a thing that never changes, an object of the frame's own (or a caller's: loc false), the script, an error that is handled -/
inductive Sl where
  | un
  | d (x : D)
  | o (loc : Bool) (k : Ob)
  | sc (ns : List Int)
  | xc

/-- where the classes of the program stand -/
abbrev CA := Str → Addr

/-- a tuple at a: laid, or of the written part -/
def TupAt (K : PySem.W.Frag) (ow : Addr → Prop) (H : Hp) (a : Addr) (xs : List V) : Prop :=
  (H a = some (.tup xs) ∧ ¬ ow a) ∨
    ∃ (o : Obj) (its : Array Value) (n : Nat), K.lookup a = some o ∧ o.cls = .type "tuple" ∧ o.data = .seq its n ∧ its.size ≤ sizeLine ∧ Vals xs its.toList

/-- the script at a: as the law was called with it, or of the written part -/
def ScAt (K : PySem.W.Frag) (ow : Addr → Prop) (H : Hp) (a : Addr) (ns : List Int) : Prop :=
  (∃ o, H a = some (.frz o (.lst (ns.map V.int))) ∧ ¬ ow a) ∨
    ∃ (o : Obj) (its : Array Value) (n : Nat), K.lookup a = some o ∧ o.cls = .type "list" ∧ o.dict = none ∧ o.data = .seq its n ∧ its.size ≤ sizeLine ∧ Vals (ns.map V.int) its.toList

def kD : Key → D
  | .inl i => .int i
  | .inr x => .str x

mutual
/-- the value v is the thing d -/
def Rp (K : PySem.W.Frag) (ow : Addr → Prop) (H : Hp) : D → V → Prop
  | .none, v => v = .non
  | .bool b, v => v = .bl b
  | .int i, v => v = .int i
  | .str x, v => v = .str x
  | .list ds, v => ∃ a xs, v = .ref a ∧ H a = some (.lst xs) ∧ ¬ ow a ∧ RpA K ow H ds xs
  | .tuple ds, v => ∃ a xs, v = .ref a ∧ TupAt K ow H a xs ∧ RpA K ow H ds xs
  | .dict kvs, v => ∃ a us, v = .ref a ∧ H a = some (.dK us) ∧ ¬ ow a ∧ RpK K ow H kvs us
def RpA (K : PySem.W.Frag) (ow : Addr → Prop) (H : Hp) : List D → List V → Prop
  | [], xs => xs = []
  | d :: ds, xs => ∃ v vs, xs = v :: vs ∧ Rp K ow H d v ∧ RpA K ow H ds vs
def RpK (K : PySem.W.Frag) (ow : Addr → Prop) (H : Hp) : List (D × D) → List (Key × V) → Prop
  | [], us => us = []
  | kd :: r, us => ∃ k v us', us = (k, v) :: us' ∧ kd.1 = kD k ∧ Rp K ow H kd.2 v ∧ RpK K ow H r us'
end

/-- what is kept from one moment to another: all that nobody owns -/
def Stp (ow : Addr → Prop) (H : Hp) (ow' : Addr → Prop) (H' : Hp) : Prop := ∀ a o, H a = some o → ¬ ow a → H' a = some o ∧ ¬ ow' a
theorem Stp.refl {ow : Addr → Prop} {H : Hp} : Stp ow H ow H := fun _ _ h n => ⟨h, n⟩
theorem Stp.trans {ow ow1 ow2 : Addr → Prop} {H H1 H2 : Hp} (a : Stp ow H ow1 H1) (b : Stp ow1 H1 ow2 H2) : Stp ow H ow2 H2 := fun x o h n => let ⟨h1, n1⟩ := a x o h n; b x o h1 n1

section
variable {K : PySem.W.Frag} {ow ow' : Addr → Prop} {H H' : Hp}
theorem ScAt.stp {a : Addr} {ns : List Int} (s : Stp ow H ow' H') (h : ScAt K ow H a ns) : ScAt K ow' H' a ns := by
  rcases h with ⟨o, h, n⟩ | h
  · exact .inl ⟨o, s a _ h n⟩
  · exact .inr h
theorem ScAt.sq {a : Addr} {ns : List Int} (h : ScAt K ow H a ns) : SqL K H a (ns.map V.int) := by
  rcases h with ⟨o, h, n⟩ | h
  · exact .inl (.inr ⟨o, h⟩)
  · exact .inr h
theorem TupAt.stp {a : Addr} {xs : List V} (s : Stp ow H ow' H') (h : TupAt K ow H a xs) : TupAt K ow' H' a xs := by
  rcases h with ⟨h, n⟩ | h
  · exact .inl (s a _ h n)
  · exact .inr h
theorem TupAt.sq {a : Addr} {xs : List V} (h : TupAt K ow H a xs) : SqT K H a xs := by
  rcases h with ⟨h, n⟩ | h
  · exact .inl (.inl h)
  · exact .inr h
mutual
theorem Rp.stp (s : Stp ow H ow' H') : ∀ (d : D) (v : V), Rp K ow H d v → Rp K ow' H' d v
  | .none, v, h => h
  | .bool b, v, h => h
  | .int i, v, h => h
  | .str x, v, h => h
  | .list ds, v, h => by
    unfold Rp at h ⊢
    obtain ⟨a, xs, e, h1, n, h2⟩ := h
    obtain ⟨h1', n'⟩ := s a _ h1 n
    exact ⟨a, xs, e, h1', n', RpA.stp s ds xs h2⟩
  | .tuple ds, v, h => by
    unfold Rp at h ⊢
    obtain ⟨a, xs, e, h1, h2⟩ := h
    exact ⟨a, xs, e, h1.stp s, RpA.stp s ds xs h2⟩
  | .dict kvs, v, h => by
    unfold Rp at h ⊢
    obtain ⟨a, us, e, h1, n, h2⟩ := h
    obtain ⟨h1', n'⟩ := s a _ h1 n
    exact ⟨a, us, e, h1', n', RpK.stp s kvs us h2⟩
theorem RpA.stp (s : Stp ow H ow' H') : ∀ (ds : List D) (xs : List V), RpA K ow H ds xs → RpA K ow' H' ds xs
  | [], xs, h => h
  | d :: ds, xs, h => by
    unfold RpA at h ⊢
    obtain ⟨v, vs, e, h1, h2⟩ := h
    exact ⟨v, vs, e, Rp.stp s d v h1, RpA.stp s ds vs h2⟩
theorem RpK.stp (s : Stp ow H ow' H') : ∀ (ds : List (D × D)) (us : List (Key × V)), RpK K ow H ds us → RpK K ow' H' ds us
  | [], us, h => h
  | kd :: ds, us, h => by
    unfold RpK at h ⊢
    obtain ⟨k, v, us', e, ek, h1, h2⟩ := h
    exact ⟨k, v, us', e, ek, Rp.stp s kd.2 v h1, RpK.stp s ds us' h2⟩
end
end

/-- dict entries by their keys -/
def RpE (K : PySem.W.Frag) (ow : Addr → Prop) (H : Hp) (kvs : List (Key × D)) (us : List (Key × V)) : Prop :=
  Paired (fun (p : Key × D) (q : Key × V) => p.1 = q.1 ∧ Rp K ow H p.2 q.2) kvs us
def RpF (K : PySem.W.Frag) (ow : Addr → Prop) (H : Hp) (fs : List (Str × D)) (us : List (Str × V)) : Prop :=
  Paired (fun (p : Str × D) (q : Str × V) => p.1 = q.1 ∧ Rp K ow H p.2 q.2) fs us
/-- the object at p holds k -/
def OwnR (K : PySem.W.Frag) (ca : CA) (ow : Addr → Prop) (H : Hp) (p : Addr) : Ob → Prop
  | .lst xs => ∃ vs, H p = some (.lst vs) ∧ RpA K ow H xs vs
  | .dct kvs => ∃ us, H p = some (.dK us) ∧ RpE K ow H kvs us
  | .ins c fs => ∃ dx us, H p = some (.ins (ca c) dx us) ∧ RpF K ow H fs us
section
variable {K : PySem.W.Frag} {ca : CA} {ow ow' : Addr → Prop} {H H' : Hp}
theorem RpE.stp {kvs : List (Key × D)} {us : List (Key × V)} (s : Stp ow H ow' H') (h : RpE K ow H kvs us) : RpE K ow' H' kvs us := Paired.mapP h fun _ _ z => ⟨z.1, z.2.stp s⟩
theorem RpF.stp {kvs : List (Str × D)} {us : List (Str × V)} (s : Stp ow H ow' H') (h : RpF K ow H kvs us) : RpF K ow' H' kvs us := Paired.mapP h fun _ _ z => ⟨z.1, z.2.stp s⟩
/-- its own object apart -/
theorem OwnR.stp {p : Addr} {k : Ob} (s : Stp ow H ow' H') (e : H' p = H p) (h : OwnR K ca ow H p k) : OwnR K ca ow' H' p k := by
  cases k with
  | lst xs => obtain ⟨vs, h1, h2⟩ := h; exact ⟨vs, e.trans h1, h2.stp s⟩
  | dct kvs => obtain ⟨vs, h1, h2⟩ := h; exact ⟨vs, e.trans h1, h2.stp s⟩
  | ins c fs => obtain ⟨dx, vs, h1, h2⟩ := h; exact ⟨dx, vs, e.trans h1, h2.stp s⟩
theorem OwnR.there {p : Addr} {k : Ob} (h : OwnR K ca ow H p k) : ∃ o, H p = some o := by
  cases k with
  | lst xs => obtain ⟨vs, h1, h2⟩ := h; exact ⟨_, h1⟩
  | dct kvs => obtain ⟨vs, h1, h2⟩ := h; exact ⟨_, h1⟩
  | ins c fs => obtain ⟨dx, vs, h1, h2⟩ := h; exact ⟨_, h1⟩
end

/-- a frame: the heap at its entry, what its callers own, which of these it may change, its arguments, the error that is handled -/
structure Fr where
  H0 : Hp
  ow0 : Addr → Prop
  io : Addr → Prop
  vs : List V
  xa : Addr := 0

/-- a slot's value -/
def SlR (K : PySem.W.Frag) (ca : CA) (F : Fr) (ow : Addr → Prop) (H : Hp) (i : Nat) : Sl → Option V → Prop
  | .un, _ => True
  | .d x, v => ∃ u, v = some u ∧ Rp K ow H x u
  | .o true k, v => ∃ p, v = some (.ref p) ∧ ow p ∧ OwnR K ca ow H p k ∧ F.H0 p = none ∧ ¬ F.ow0 p
  | .o false k, v => ∃ p, v = some (.ref p) ∧ ow p ∧ OwnR K ca ow H p k ∧ F.io p ∧ F.vs[i]? = some (.ref p)
  | .sc ns, v => ∃ a, v = some (.ref a) ∧ ScAt K ow H a ns
  | .xc, v => v = some (.ref F.xa)

structure Rel (K : PySem.W.Frag) (ca : CA) (F : Fr) (ow : Addr → Prop) (env : List Sl) (σ : St) (H : Hp) : Prop where
  len : env.length = σ.length
  sl : ∀ (i : Nat) (s : Sl) (v : Option V), env[i]? = some s → σ[i]? = some v → SlR K ca F ow H i s v
  dis : ∀ (i j : Nat) (p : Addr) (l l' : Bool) (k k' : Ob), env[i]? = some (.o l k) → env[j]? = some (.o l' k') → σ[i]? = some (some (.ref p)) → σ[j]? = some (some (.ref p)) → i = j
  keep : ∀ a o, F.H0 a = some o → ¬ F.io a → H a = some o
  dom : ∀ a, H a = none → F.H0 a = none
  sub : ∀ a, F.ow0 a → ow a
  trk : ∀ a, ow a → ∃ o, H a = some o

section
variable {K : PySem.W.Frag} {ca : CA} {F : Fr} {ow ow' : Addr → Prop} {H H' : Hp} {env : List Sl} {σ : St}
theorem SlR.at (R : Rel K ca F ow env σ H) {i : Nat} {s : Sl} (h : env[i]? = some s) : ∃ v, σ[i]? = some v ∧ SlR K ca F ow H i s v := by
  have hi : i < σ.length := by rw [← R.len]; exact (List.getElem?_eq_some_iff.mp h).1
  exact ⟨σ[i], List.getElem?_eq_getElem hi, R.sl i s _ h (List.getElem?_eq_getElem hi)⟩
theorem Rel.data (R : Rel K ca F ow env σ H) {i : Nat} {x : D} (h : env[i]? = some (.d x)) : ∃ v, σ[i]? = some (some v) ∧ Rp K ow H x v := by
  obtain ⟨v, e, u, rfl, r⟩ := SlR.at R h
  exact ⟨u, e, r⟩
theorem Rel.own (R : Rel K ca F ow env σ H) {i : Nat} {l : Bool} {k : Ob} (h : env[i]? = some (.o l k)) :
    ∃ p, σ[i]? = some (some (.ref p)) ∧ ow p ∧ OwnR K ca ow H p k := by
  obtain ⟨v, e, r⟩ := SlR.at R h
  cases l with
  | true => obtain ⟨p, rfl, h1, h2, _⟩ := r; exact ⟨p, e, h1, h2⟩
  | false => obtain ⟨p, rfl, h1, h2, _⟩ := r; exact ⟨p, e, h1, h2⟩
/-- the heap grows: a new object at p -/
def Gr (H H' : Hp) : Prop := ∀ a o, H a = some o → H' a = some o
theorem Gr.refl {H : Hp} : Gr H H := fun _ _ h => h
theorem Gr.trans {H H1 H2 : Hp} (a : Gr H H1) (b : Gr H1 H2) : Gr H H2 := fun x o h => b x o (a x o h)
theorem Gr.new {p : Addr} {o : HO} (h : H p = none) : Gr H (upd H p o) := fun a u e => by
  rw [upd_ne (ne_of_none e h)]; exact e
theorem Gr.none (g : Gr H H') {a : Addr} (h : H' a = none) : H a = none := by
  cases e : H a with
  | none => rfl
  | some o => rw [g a o e] at h; cases h
theorem Gr.stp (g : Gr H H') : Stp ow H ow H' := fun a o h n => ⟨g a o h, n⟩
theorem OwnR.gr {p : Addr} {k : Ob} (g : Gr H H') (h : OwnR K ca ow H p k) : OwnR K ca ow H' p k := by
  obtain ⟨o, e⟩ := h.there
  exact h.stp g.stp (by rw [g p o e, e])
theorem Rel.gr (R : Rel K ca F ow env σ H) (g : Gr H H') : Rel K ca F ow env σ H' where
  len := R.len
  sl := fun i s v h1 h2 => by
    have q := R.sl i s v h1 h2
    cases s with
    | un => exact q
    | d x => obtain ⟨u, e, r⟩ := q; exact ⟨u, e, r.stp g.stp⟩
    | o l k =>
      cases l with
      | true => obtain ⟨p, e, a, b, c⟩ := q; exact ⟨p, e, a, b.gr g, c⟩
      | false => obtain ⟨p, e, a, b, c⟩ := q; exact ⟨p, e, a, b.gr g, c⟩
    | sc ns => obtain ⟨a, e, h⟩ := q; exact ⟨a, e, h.stp g.stp⟩
    | xc => exact q
  dis := R.dis
  keep := fun a o h n => g a o (R.keep a o h n)
  dom := fun a h => R.dom a (g.none h)
  sub := R.sub
  trk := fun a h => let ⟨o, e⟩ := R.trk a h; ⟨o, g a o e⟩
theorem Rel.free (R : Rel K ca F ow env σ H) {p : Addr} (h : H p = none) : ¬ ow p := fun z => by
  obtain ⟨o, e⟩ := R.trk p z
  rw [h] at e; cases e

/-- a slot of data is stored -/
theorem Rel.set (R : Rel K ca F ow env σ H) {i : Nat} {x : D} {v : V} (r : Rp K ow H x v) : Rel K ca F ow (env.set i (.d x)) (σ.set i (some v)) H where
  len := by rw [List.length_set, List.length_set]; exact R.len
  sl := fun j s u h1 h2 => by
    by_cases e : i = j
    · subst e
      by_cases hl : i < env.length
      · rw [List.getElem?_set_self hl] at h1
        rw [List.getElem?_set_self (by rw [← R.len]; exact hl)] at h2
        cases h1; cases h2
        exact ⟨v, rfl, r⟩
      · rw [List.getElem?_eq_none (by simpa using hl)] at h1; cases h1
    · rw [List.getElem?_set_ne e] at h1 h2
      exact R.sl j s u h1 h2
  dis := fun j j' p l l' k k' h1 h2 h3 h4 => by
    have ne : ∀ {j l k}, (env.set i (.d x))[j]? = some (Sl.o l k) → i ≠ j := fun {j l k} h e => by
      subst e
      by_cases hl : i < env.length
      · rw [List.getElem?_set_self hl] at h; cases h
      · rw [List.getElem?_eq_none (by simpa using hl)] at h; cases h
    have n1 := ne h1
    have n2 := ne h2
    rw [List.getElem?_set_ne n1] at h1 h3
    rw [List.getElem?_set_ne n2] at h2 h4
    exact R.dis j j' p l l' k k' h1 h2 h3 h4
  keep := R.keep
  dom := R.dom
  sub := R.sub
  trk := R.trk
/-- a slot is forgotten -/
theorem Rel.drop (R : Rel K ca F ow env σ H) {i : Nat} {v : Option V} : Rel K ca F ow (env.set i .un) (σ.set i v) H where
  len := by rw [List.length_set, List.length_set]; exact R.len
  sl := fun j s u h1 h2 => by
    by_cases e : i = j
    · subst e
      by_cases hl : i < env.length
      · rw [List.getElem?_set_self hl] at h1
        cases h1
        exact True.intro
      · rw [List.getElem?_eq_none (by simpa using hl)] at h1; cases h1
    · rw [List.getElem?_set_ne e] at h1 h2
      exact R.sl j s u h1 h2
  dis := fun j j' p l l' k k' h1 h2 h3 h4 => by
    have ne : ∀ {j l k}, (env.set i .un)[j]? = some (Sl.o l k) → i ≠ j := fun {j l k} h e => by
      subst e
      by_cases hl : i < env.length
      · rw [List.getElem?_set_self hl] at h; cases h
      · rw [List.getElem?_eq_none (by simpa using hl)] at h; cases h
    have n1 := ne h1
    have n2 := ne h2
    rw [List.getElem?_set_ne n1] at h1 h3
    rw [List.getElem?_set_ne n2] at h2 h4
    exact R.dis j j' p l l' k k' h1 h2 h3 h4
  keep := R.keep
  dom := R.dom
  sub := R.sub
  trk := R.trk
/-- an object that nobody's slot holds yet: free of the slots -/
def Loose (F : Fr) (ow : Addr → Prop) (env : List Sl) (σ : St) (p : Addr) : Prop :=
  ow p ∧ F.H0 p = none ∧ ¬ F.ow0 p ∧ ∀ (i : Nat) (l : Bool) (k : Ob), env[i]? = some (.o l k) → σ[i]? ≠ some (some (.ref p))
theorem Rel.setO (R : Rel K ca F ow env σ H) {i : Nat} {k : Ob} {p : Addr} (L : Loose F ow env σ p) (r : OwnR K ca ow H p k) : Rel K ca F ow (env.set i (.o true k)) (σ.set i (some (.ref p))) H where
  len := by rw [List.length_set, List.length_set]; exact R.len
  sl := fun j s u h1 h2 => by
    by_cases e : i = j
    · subst e
      by_cases hl : i < env.length
      · rw [List.getElem?_set_self hl] at h1
        rw [List.getElem?_set_self (by rw [← R.len]; exact hl)] at h2
        cases h1; cases h2
        exact ⟨p, rfl, L.1, r, L.2.1, L.2.2.1⟩
      · rw [List.getElem?_eq_none (by simpa using hl)] at h1; cases h1
    · rw [List.getElem?_set_ne e] at h1 h2
      exact R.sl j s u h1 h2
  dis := fun j j' q l l' k1 k2 h1 h2 h3 h4 => by
    have at_ : ∀ {j l k' q}, (env.set i (.o true k))[j]? = some (Sl.o l k') → (σ.set i (some (.ref p)))[j]? = some (some (.ref q)) →
        (i = j ∧ q = p) ∨ (i ≠ j ∧ env[j]? = some (Sl.o l k') ∧ σ[j]? = some (some (.ref q)) ∧ q ≠ p) := fun {j l k' q} a b => by
      by_cases e : i = j
      · subst e
        have hl : i < env.length := by
          have := (List.getElem?_eq_some_iff.mp a).1
          rwa [List.length_set] at this
        rw [List.getElem?_set_self (by rw [← R.len]; exact hl)] at b
        cases b
        exact .inl ⟨rfl, rfl⟩
      · rw [List.getElem?_set_ne e] at a b
        exact .inr ⟨e, a, b, fun z => L.2.2.2 j l k' a (by rw [← z]; exact b)⟩
    rcases at_ h1 h3 with ⟨e1, q1⟩ | ⟨n1, a1, b1, q1⟩
    · rcases at_ h2 h4 with ⟨e2, q2⟩ | ⟨n2, a2, b2, q2⟩
      · exact e1.symm.trans e2
      · exact absurd q1 q2
    · rcases at_ h2 h4 with ⟨e2, q2⟩ | ⟨n2, a2, b2, q2⟩
      · exact absurd q2 q1
      · exact R.dis j j' q l l' k1 k2 a1 a2 b1 b2
  keep := R.keep
  dom := R.dom
  sub := R.sub
  trk := R.trk

/-- one address less is owned -/
abbrev less (ow : Addr → Prop) (p : Addr) : Addr → Prop := fun a => ow a ∧ a ≠ p
abbrev more (ow : Addr → Prop) (p : Addr) : Addr → Prop := fun a => ow a ∨ a = p
theorem stp_less {p : Addr} : Stp ow H (less ow p) H := fun a o h n => ⟨h, fun z => n z.1⟩
theorem stp_more {p : Addr} {o : HO} (h : H p = none) : Stp ow H (more ow p) (upd H p o) := fun a u e n =>
  ⟨by rw [upd_ne (ne_of_none e h)]; exact e, fun z => by
    rcases z with z | z
    · exact n z
    · rw [z, h] at e; cases e⟩
/-- a new object of one's own -/
theorem Rel.more (R : Rel K ca F ow env σ H) {p : Addr} {o : HO} (h : H p = none) : Rel K ca F (more ow p) env σ (upd H p o) ∧ Loose F (ML.more ow p) env σ p := by
  have hp : ∀ {a : Addr} {u : HO}, H a = some u → upd H p o a = some u := fun {a u} e => by rw [upd_ne (ne_of_none e h)]; exact e
  have st : Stp ow H (ML.more ow p) (upd H p o) := stp_more h
  have no : ∀ (i : Nat) (l : Bool) (k : Ob), env[i]? = some (.o l k) → σ[i]? ≠ some (some (.ref p)) := fun i l k e z => by
    obtain ⟨q, eq, wq, rq⟩ := R.own e
    rw [eq] at z
    cases z
    obtain ⟨u, hu⟩ := rq.there
    rw [h] at hu; cases hu
  refine ⟨⟨R.len, fun i s v h1 h2 => ?_, R.dis, fun a u e n => hp (R.keep a u e n), fun a e => ?_, fun a z => .inl (R.sub a z), fun a z => ?_⟩, .inr rfl, R.dom p h, fun z => R.free h (R.sub p z), no⟩
  · have q := R.sl i s v h1 h2
    cases s with
    | un => exact q
    | d x => obtain ⟨u, e, r⟩ := q; exact ⟨u, e, r.stp st⟩
    | o l k =>
      cases l with
      | true =>
        obtain ⟨q, e, a, b, c⟩ := q
        obtain ⟨u, hu⟩ := b.there
        exact ⟨q, e, .inl a, b.stp st (by rw [hp hu, hu]), c⟩
      | false =>
        obtain ⟨q, e, a, b, c⟩ := q
        obtain ⟨u, hu⟩ := b.there
        exact ⟨q, e, .inl a, b.stp st (by rw [hp hu, hu]), c⟩
    | sc ns => obtain ⟨a, e, h3⟩ := q; exact ⟨a, e, h3.stp st⟩
    | xc => exact q
  · refine R.dom a ?_
    cases e2 : H a with
    | none => rfl
    | some u => rw [hp e2] at e; cases e
  · rcases z with z | z
    · obtain ⟨u, hu⟩ := R.trk a z
      exact ⟨u, hp hu⟩
    · rw [z]; exact ⟨o, upd_same⟩
/-- what nobody's slot holds is let go: it never changes any more -/
theorem Rel.loose (R : Rel K ca F ow env σ H) {p : Addr} (L : Loose F ow env σ p) : Rel K ca F (less ow p) env σ H where
  len := R.len
  sl := fun i s v h1 h2 => by
    have q := R.sl i s v h1 h2
    cases s with
    | un => exact q
    | d x => obtain ⟨u, e, r⟩ := q; exact ⟨u, e, r.stp stp_less⟩
    | o l k =>
      cases l with
      | true =>
        obtain ⟨q, e, a, b, c⟩ := q
        exact ⟨q, e, ⟨a, fun z => L.2.2.2 i true k h1 (by rw [h2, e, z])⟩, b.stp stp_less rfl, c⟩
      | false =>
        obtain ⟨q, e, a, b, c⟩ := q
        exact ⟨q, e, ⟨a, fun z => L.2.2.2 i false k h1 (by rw [h2, e, z])⟩, b.stp stp_less rfl, c⟩
    | sc ns => obtain ⟨a, e, h⟩ := q; exact ⟨a, e, h.stp stp_less⟩
    | xc => exact q
  dis := R.dis
  keep := R.keep
  dom := R.dom
  sub := fun a z => ⟨R.sub a z, fun e => L.2.2.1 (e ▸ z)⟩
  trk := fun a z => R.trk a z.1
/-- a slot lets its object go; it is loose then -/
theorem Rel.let_ (R : Rel K ca F ow env σ H) {i : Nat} {k : Ob} (h : env[i]? = some (.o true k)) : ∃ p, σ[i]? = some (some (.ref p)) ∧ OwnR K ca ow H p k ∧ Rel K ca F ow (env.set i .un) σ H ∧ Loose F ow (env.set i .un) σ p := by
  obtain ⟨v, e, p, rfl, w, r, h0, n0⟩ := SlR.at R h
  have R1 : Rel K ca F ow (env.set i .un) (σ.set i (some (.ref p))) H := R.drop
  have es : σ.set i (some (.ref p)) = σ := by
    apply List.ext_getElem?
    intro j
    by_cases ej : i = j
    · subst ej
      rw [List.getElem?_set_self (List.getElem?_eq_some_iff.mp e).1, e]
    · rw [List.getElem?_set_ne ej]
  rw [es] at R1
  refine ⟨p, e, r, R1, w, h0, n0, fun j l k' h1 h2 => ?_⟩
  by_cases ej : i = j
  · subst ej
    rw [List.getElem?_set_self (List.getElem?_eq_some_iff.mp h).1] at h1
    cases h1
  · rw [List.getElem?_set_ne ej] at h1
    exact ej (R.dis i j p _ _ _ _ h h1 e h2)
/-- .. a list's: it is data from then on -/
theorem Rel.freeze (R : Rel K ca F ow env σ H) {i : Nat} {xs : List D} (h : env[i]? = some (.o true (.lst xs))) :
    ∃ p, σ[i]? = some (some (.ref p)) ∧ Rp K (less ow p) H (.list xs) (.ref p) ∧ Rel K ca F (less ow p) (env.set i (.d (.list xs))) σ H := by
  obtain ⟨p, e, ⟨vs, hp, ra⟩, R1, L⟩ := R.let_ h
  have rp : Rp K (less ow p) H (.list xs) (.ref p) := by
    unfold Rp
    exact ⟨p, vs, rfl, hp, fun z => z.2 rfl, ra.stp stp_less⟩
  have R2 := (R1.loose L).set (i := i) rp
  have es : σ.set i (some (.ref p)) = σ := by
    apply List.ext_getElem?
    intro j
    by_cases ej : i = j
    · subst ej
      rw [List.getElem?_set_self (List.getElem?_eq_some_iff.mp e).1, e]
    · rw [List.getElem?_set_ne ej]
  rw [es, List.set_set] at R2
  exact ⟨p, e, rp, R2⟩
theorem stp_mut {p : Addr} {o : HO} (w : ow p) : Stp ow H ow (upd H p o) := fun a u e n => by
  have hne : a ≠ p := fun z => n (by rw [z]; exact w)
  exact ⟨by rw [upd_ne hne]; exact e, n⟩
/-- the object of a slot changes -/
theorem Rel.mut (R : Rel K ca F ow env σ H) {i : Nat} {l : Bool} {k k' : Ob} {p : Addr} {o : HO} (h : env[i]? = some (.o l k)) (e : σ[i]? = some (some (.ref p))) (new : OwnR K ca ow (upd H p o) p k') :
    Rel K ca F ow (env.set i (.o l k')) σ (upd H p o) := by
  have wp : ow p := by
    obtain ⟨q, eq, w, _⟩ := R.own h
    rw [e] at eq; cases eq
    exact w
  have st : Stp ow H ow (upd H p o) := stp_mut wp
  have hl : i < env.length := (List.getElem?_eq_some_iff.mp h).1
  refine ⟨by rw [List.length_set]; exact R.len, fun j s v h1 h2 => ?_, fun j j' q l1 l2 k1 k2 h1 h2 h3 h4 => ?_, fun a u ha n => ?_, fun a ha => ?_, R.sub, fun a z => ?_⟩
  · by_cases ej : i = j
    · subst ej
      rw [List.getElem?_set_self hl] at h1
      cases h1
      rw [e] at h2
      cases h2
      have q := R.sl i _ _ h e
      cases l with
      | true => obtain ⟨p', e', a, b, c⟩ := q; cases e'; exact ⟨p, rfl, a, new, c⟩
      | false => obtain ⟨p', e', a, b, c⟩ := q; cases e'; exact ⟨p, rfl, a, new, c⟩
    · rw [List.getElem?_set_ne ej] at h1
      have q := R.sl j s v h1 h2
      cases s with
      | un => exact q
      | d x => obtain ⟨u, e1, r⟩ := q; exact ⟨u, e1, r.stp st⟩
      | o l1 k1 =>
        have ne : ∀ q, v = some (.ref q) → q ≠ p := fun q ev z => ej (R.dis i j p _ _ _ _ h h1 e (by rw [h2, ev, z]))
        cases l1 with
        | true => obtain ⟨q, e1, a, b, c⟩ := q; exact ⟨q, e1, a, b.stp st (upd_ne (ne q e1)), c⟩
        | false => obtain ⟨q, e1, a, b, c⟩ := q; exact ⟨q, e1, a, b.stp st (upd_ne (ne q e1)), c⟩
      | sc ns => obtain ⟨a, e1, h3⟩ := q; exact ⟨a, e1, h3.stp st⟩
      | xc => exact q
  · have back : ∀ {j : Nat} {l1 : Bool} {k1 : Ob}, (env.set i (.o l k'))[j]? = some (.o l1 k1) → ∃ l2 k2, env[j]? = some (.o l2 k2) := fun {j l1 k1} a => by
      by_cases ej : i = j
      · subst ej; exact ⟨_, _, h⟩
      · rw [List.getElem?_set_ne ej] at a; exact ⟨_, _, a⟩
    obtain ⟨_, _, a1⟩ := back h1
    obtain ⟨_, _, a2⟩ := back h2
    exact R.dis j j' q _ _ _ _ a1 a2 h3 h4
  · have hne : a ≠ p := fun z => by
      subst z
      have q := R.sl i _ _ h e
      cases l with
      | true => obtain ⟨p', e', _, _, c, _⟩ := q; cases e'; rw [c] at ha; cases ha
      | false => obtain ⟨p', e', _, _, c, _⟩ := q; cases e'; exact n c
    rw [upd_ne hne]; exact R.keep a u ha n
  · by_cases z : a = p
    · rw [z, upd_same] at ha; cases ha
    · rw [upd_ne z] at ha; exact R.dom a ha
  · by_cases ea : a = p
    · rw [ea]; exact ⟨o, upd_same⟩
    · rw [upd_ne ea]; exact R.trk a z
/-- a general step that leaves the slots' values: a slot stands as it did, or its object holds something else -/
theorem Rel.step (R : Rel K ca F ow env σ H) {e' : List Sl} (len : e'.length = env.length)
    (slots : ∀ (i : Nat) (s' : Sl), e'[i]? = some s' → (env[i]? = some s' ∧ ∀ (l : Bool) (k : Ob) (p : Addr), s' = .o l k → σ[i]? = some (some (.ref p)) → H' p = H p) ∨ (∃ (l : Bool) (k k' : Ob) (p : Addr), env[i]? = some (.o l k) ∧ s' = .o l k' ∧ σ[i]? = some (some (.ref p)) ∧ OwnR K ca ow' H' p k'))
    (st : Stp ow H ow' H') (sub : ∀ a, ow a → ow' a) (trk : ∀ a, ow' a → ∃ o, H' a = some o) (keep : ∀ a o, F.H0 a = some o → ¬ F.io a → H' a = some o) (dom : ∀ a, H' a = none → H a = none) : Rel K ca F ow' e' σ H' where
  len := len.trans R.len
  sl := fun i s v h1 h2 => by
    rcases slots i s h1 with ⟨he, hn⟩ | ⟨l, k, k', p, he, rfl, hp, r⟩
    · have q := R.sl i s v he h2
      cases s with
      | un => exact q
      | d x => obtain ⟨u, e, r⟩ := q; exact ⟨u, e, r.stp st⟩
      | o l k =>
        cases l with
        | true => obtain ⟨p, rfl, a, b, c⟩ := q; exact ⟨p, rfl, sub p a, b.stp st (hn _ _ p rfl h2), c⟩
        | false => obtain ⟨p, rfl, a, b, c⟩ := q; exact ⟨p, rfl, sub p a, b.stp st (hn _ _ p rfl h2), c⟩
      | sc ns => obtain ⟨a, rfl, h⟩ := q; exact ⟨a, rfl, h.stp st⟩
      | xc => exact q
    · rw [hp] at h2
      cases h2
      have q := R.sl i _ _ he hp
      cases l with
      | true => obtain ⟨p', e, a, b, c⟩ := q; cases e; exact ⟨p, rfl, sub p a, r, c⟩
      | false => obtain ⟨p', e, a, b, c⟩ := q; cases e; exact ⟨p, rfl, sub p a, r, c⟩
  dis := fun i j p l l' k k' h1 h2 h3 h4 => by
    have back : ∀ {j : Nat} {l1 : Bool} {k1 : Ob}, e'[j]? = some (.o l1 k1) → ∃ l2 k2, env[j]? = some (.o l2 k2) := fun {j l1 k1} a => by
      rcases slots j _ a with ⟨he, _⟩ | ⟨l, k, k', p, he, _⟩
      · exact ⟨_, _, he⟩
      · exact ⟨_, _, he⟩
    obtain ⟨_, _, a1⟩ := back h1
    obtain ⟨_, _, a2⟩ := back h2
    exact R.dis i j p _ _ _ _ a1 a2 h3 h4
  keep := keep
  dom := fun a h => R.dom a (dom a h)
  sub := fun a h => sub a (R.sub a h)
  trk := trk
end
end ML
end

section
set_option Elab.async false
set_option linter.all false
set_option maxRecDepth 100000
set_option maxHeartbeats 2000000
/-! # The judgements: an expression, a test, arguments, a fresh object, a statement, against a plain function of the slots -/
namespace ML
open PySem L2

/-- what comes of an expression: its value and the slots behind it; an error of an own class; or nothing is told -/
inductive R (α : Type) where
  | ok (a : α) (e : List Sl)
  | ex (c : Str) (e : List Sl)
  | bad
abbrev M (α : Type) := List Sl → R α
def ret {α : Type} (a : α) : M α := fun e => .ok a e
def bind {α β : Type} (m : M α) (f : α → M β) : M β := fun e => match m e with
  | .ok a e' => f a e'
  | .ex c e' => .ex c e'
  | .bad => .bad
/-- a partial step -/
def lift {α : Type} (o : Option α) : M α := fun e => match o with
  | some a => .ok a e
  | none => .bad

def Held (env : List Sl) (σ : St) (p : Addr) : Prop := ∃ (i : Nat) (l : Bool) (k : Ob), env[i]? = some (.o l k) ∧ σ[i]? = some (some (.ref p))

/-- what an expression leaves as it was -/
structure Go (σ : St) (ow : Addr → Prop) (env : List Sl) (H : Hp) (ow' : Addr → Prop) (e : List Sl) (H' : Hp) : Prop where
  stp : Stp ow H ow' H'
  lo : ∀ p, ow p → ¬ Held env σ p → ow' p ∧ H' p = H p ∧ ¬ Held e σ p
  dom : ∀ a, H' a = none → H a = none

section
variable {K : PySem.W.Frag} {ca : CA} {F : Fr} {ow ow' ow1 ow2 : Addr → Prop} {H H' H1 H2 : Hp} {env e e' e1 e2 : List Sl} {σ : St}
theorem Go.refl : Go σ ow env H ow env H := ⟨Stp.refl, fun _ a b => ⟨a, rfl, b⟩, fun _ h => h⟩
theorem Go.trans (a : Go σ ow env H ow1 e1 H1) (b : Go σ ow1 e1 H1 ow2 e2 H2) : Go σ ow env H ow2 e2 H2 where
  stp := a.stp.trans b.stp
  lo := fun p w n => by
    obtain ⟨w1, h1, n1⟩ := a.lo p w n
    obtain ⟨w2, h2, n2⟩ := b.lo p w1 n1
    exact ⟨w2, h2.trans h1, n2⟩
  dom := fun x h => a.dom x (b.dom x h)
theorem Loose.held {p : Addr} (L : Loose F ow env σ p) : ¬ Held env σ p := fun ⟨i, l, k, h1, h2⟩ => L.2.2.2 i l k h1 h2
theorem loose_of {p : Addr} (w : ow p) (h0 : F.H0 p = none) (n : ¬ F.ow0 p) (h : ¬ Held env σ p) : Loose F ow env σ p := ⟨w, h0, n, fun i l k a b => h ⟨i, l, k, a, b⟩⟩
theorem Loose.go {p : Addr} (L : Loose F ow env σ p) (g : Go σ ow env H ow' e H') : Loose F ow' e σ p ∧ H' p = H p := by
  obtain ⟨w, h, n⟩ := g.lo p L.1 L.held
  exact ⟨loose_of w L.2.1 L.2.2.1 n, h⟩
theorem Go.gr (R : Rel K ca F ow env σ H) (g : Gr H H') : Go σ ow env H ow env H' := ⟨g.stp, fun p w n => ⟨w, by
  obtain ⟨o, h⟩ := R.trk p w
  rw [g p o h, h], n⟩, fun _ h => g.none h⟩
theorem Go.more (R : Rel K ca F ow env σ H) {p : Addr} {o : HO} (h : H p = none) : Go σ ow env H (ML.more ow p) env (upd H p o) where
  stp := stp_more h
  lo := fun q w n => ⟨.inl w, by
    obtain ⟨u, hu⟩ := R.trk q w
    exact upd_ne (fun z => by rw [z, h] at hu; cases hu), n⟩
  dom := fun a ha => by
    by_cases z : a = p
    · rw [z]; exact h
    · rw [upd_ne z] at ha; exact ha
theorem Go.loose {p : Addr} (L : Loose F ow env σ p) : Stp ow H (less ow p) H := stp_less
end

/-- an error's wish, of a class of the program -/
abbrev WSat (ca : CA) (W : WX) (c : Str) (σ : St) (H : Hp) : Prop := W (.ref (ca c)) none σ H

section
variable {α β γ δ : Type}
abbrev PP (α β : Type) := α → β → Hp → (Addr → Prop) → Hp → List Sl → St → Prop
def GoG (K : PySem.W.Frag) (ca : CA) (F : Fr) (W : WX) (P : PP α β) (Hs : Hp) (ow : Addr → Prop) (env : List Sl) (H : Hp) (σ : St) (Q : β → Hp → Prop) : R α → Prop
  | .ok a e => ∀ b ow' H', Go σ ow env H ow' e H' → Rel K ca F ow' e σ H' → P a b Hs ow' H' e σ → Q b H'
  | .ex c e => ∀ ow' H', Stp ow H ow' H' → Rel K ca F ow' e σ H' → WSat ca W c σ H'
  | .bad => False
def tG (K : PySem.W.Frag) (ca : CA) (F : Fr) (W : WX) (P : PP α β) (m : M α) : St → Hp → (β → Hp → Prop) → Prop := fun σ H Q =>
  ∃ ow env, Rel K ca F ow env σ H ∧ GoG K ca F W P H ow env H σ Q (m env)

variable {K : PySem.W.Frag} {ca : CA} {F : Fr} {W : WX} {P : PP α β} {P' : PP γ δ} {ow ow1 : Addr → Prop} {env e1 : List Sl} {Hs H H1 : Hp} {σ : St} {Q' : δ → Hp → Prop} {C : β → Hp → Prop}
theorem GoG.mono (g : Go σ ow env H ow1 e1 H1) {r : R γ} (h : GoG K ca F W P' Hs ow env H σ Q' r) : GoG K ca F W P' Hs ow1 e1 H1 σ Q' r := by
  cases r with
  | ok a e => exact fun b ow' H' g' R p => h b ow' H' (g.trans g') R p
  | ex c e => exact fun ow' H' s R => h ow' H' (g.stp.trans s) R
  | bad => exact h
/-- m, then f -/
theorem go_bind {m : M α} {f : α → M γ} (R : Rel K ca F ow env σ H) (h : GoG K ca F W P' Hs ow env H σ Q' (bind m f env))
    (k : ∀ a e b ow1 H1, Go σ ow env H ow1 e H1 → Rel K ca F ow1 e σ H1 → P a b H ow1 H1 e σ → GoG K ca F W P' Hs ow1 e H1 σ Q' (f a e) → C b H1) : tG K ca F W P m σ H C := by
  refine ⟨ow, env, R, ?_⟩
  unfold bind at h
  cases hm : m env with
  | ok a e =>
    rw [hm] at h
    exact fun b ow1 H1 g R1 p => k a e b ow1 H1 g R1 p (h.mono g)
  | ex c e => rw [hm] at h; exact h
  | bad => rw [hm] at h; exact h
theorem go_last {m : M α} (R : Rel K ca F ow env σ H) (h : GoG K ca F W P H ow env H σ C (m env)) : tG K ca F W P m σ H C := ⟨ow, env, R, h⟩
end

/-! ### values, tests, arguments, fresh objects -/
/-- an argument: data, the object of a slot, a fresh object -/
inductive AV where
  | d (x : D)
  | ref (i : Nat)
  | fr (k : Ob)

def PD (K : PySem.W.Frag) : PP D V := fun d v _ ow H _ _ => Rp K ow H d v
def PB : PP Bool Bool := fun a b _ _ _ _ _ => b = a
/-- a fresh object -/
def PO_ (K : PySem.W.Frag) (ca : CA) (F : Fr) : PP Ob V := fun k v H0 ow H e σ => ∃ p, v = .ref p ∧ H0 p = none ∧ OwnR K ca ow H p k ∧ Loose F ow e σ p
def AvR (K : PySem.W.Frag) (ca : CA) (F : Fr) (ow : Addr → Prop) (H : Hp) (e : List Sl) (σ : St) : AV → V → Prop
  | .d x, v => Rp K ow H x v
  | .ref i, v => σ[i]? = some (some v)
  | .fr k, v => ∃ p, v = .ref p ∧ OwnR K ca ow H p k ∧ Loose F ow e σ p
def isFr : AV → Bool
  | .fr _ => true
  | _ => false
/-- no fresh one stands at p -/
def FrNot (p : Addr) : List AV → List V → Prop
  | a :: r, v :: us => (isFr a = true → v ≠ .ref p) ∧ FrNot p r us
  | _, _ => True
/-- arguments from the left: fresh ones stand apart -/
def AvA (K : PySem.W.Frag) (ca : CA) (F : Fr) (H0 : Hp) (ow : Addr → Prop) (H : Hp) (e : List Sl) (σ : St) : List AV → List V → Prop
  | [], vs => vs = []
  | a :: r, vs => ∃ v us, vs = v :: us ∧ AvR K ca F ow H e σ a v ∧ (isFr a = true → ∀ p, v = .ref p → H0 p = none ∧ FrNot p r us) ∧ AvA K ca F H0 ow H e σ r us
def PA_ (K : PySem.W.Frag) (ca : CA) (F : Fr) : PP (List AV) (List V) := fun a b H0 ow H e σ => AvA K ca F H0 ow H e σ a b

theorem AvA.back {K : PySem.W.Frag} {ca : CA} {F : Fr} {H H1 : Hp} {ow : Addr → Prop} {H' : Hp} {e : List Sl} {σ : St} (d : ∀ x, H1 x = none → H x = none) : ∀ {as : List AV} {vs : List V}, AvA K ca F H1 ow H' e σ as vs → AvA K ca F H ow H' e σ as vs
  | [], _, h => h
  | _ :: _, _, h => by
    unfold AvA at h ⊢
    obtain ⟨v, us, e1, r, n, t⟩ := h
    exact ⟨v, us, e1, r, fun z p q => ⟨d p (n z p q).1, (n z p q).2⟩, AvA.back d t⟩
theorem AvA.frNot {K : PySem.W.Frag} {ca : CA} {F : Fr} {H1 : Hp} {ow : Addr → Prop} {H' : Hp} {e : List Sl} {σ : St} {p : Addr} {o : HO} (hp : H1 p = some o) : ∀ {as : List AV} {vs : List V}, AvA K ca F H1 ow H' e σ as vs → FrNot p as vs
  | [], _, _ => by unfold FrNot; trivial
  | _ :: _, _, h => by
    unfold AvA at h
    obtain ⟨v, us, rfl, r, n, t⟩ := h
    unfold FrNot
    refine And.intro (fun z q => ?_) (AvA.frNot hp t)
    have q2 := (n z p q).1
    rw [hp] at q2
    cases q2

abbrev tE (K : PySem.W.Frag) (ca : CA) (F : Fr) (W : WX) (m : M D) : TE := tG K ca F W (PD K) m
abbrev tT (K : PySem.W.Frag) (ca : CA) (F : Fr) (W : WX) (m : M Bool) : TT := tG K ca F W PB m
abbrev tO (K : PySem.W.Frag) (ca : CA) (F : Fr) (W : WX) (m : M Ob) : TE := tG K ca F W (PO_ K ca F) m
abbrev tA (K : PySem.W.Frag) (ca : CA) (F : Fr) (W : WX) (m : M (List AV)) : TA := tG K ca F W (PA_ K ca F) m

theorem PE.imp {X : Cx} {e : Expr} {t t' : TE} (h : PE X e t) (k : ∀ σ H Q, t' σ H Q → t σ H Q) : PE X e t' := ⟨fun pins s σ H Q I q => h.run pins s σ H Q I (k _ _ _ q)⟩
theorem PT.imp {X : Cx} {e : Expr} {t t' : TT} (h : PT X e t) (k : ∀ σ H Q, t' σ H Q → t σ H Q) : PT X e t' := ⟨fun pins s σ H Q I q => h.run pins s σ H Q I (k _ _ _ q)⟩
theorem PW.imp {X : Cx} {e : Expr} {t t' : TT} (h : PW X e t) (k : ∀ σ H Q, t' σ H Q → t σ H Q) : PW X e t' := ⟨fun wh pins s σ H Q I q => h.run wh pins s σ H Q I (k _ _ _ q)⟩
theorem PA.imp {X : Cx} {es : List Expr} {t t' : TA} (h : PA X es t) (k : ∀ σ H Q, t' σ H Q → t σ H Q) : PA X es t' := ⟨fun pos pins s σ H Q I q => h.run pos pins s σ H Q I (k _ _ _ q)⟩
theorem PS.imp {X : Cx} {st : Stmt} {t t' : TS} (h : PS X st t) (k : ∀ D σ H, t' D σ H → t D σ H) : PS X st t' := ⟨fun pins s σ H D I q => h.run pins s σ H D I (k _ _ _ q)⟩
theorem PSs.imp {X : Cx} {st : List Stmt} {t t' : TS} (h : PSs X st t) (k : ∀ D σ H, t' D σ H → t D σ H) : PSs X st t' := ⟨fun pins s σ H D I q => h.run pins s σ H D I (k _ _ _ q)⟩

/-- what leaves is taken; the error that is handled is the frame's -/
structure Tk (X : Cx) (F : Fr) (W : WX) : Prop where
  t : Takes X W
  h : ∀ a, X.A.handled = some (.ref a) → F.xa = a
/-- an expression's value is data -/
def ME (ca : CA) (X : Cx) (e : Expr) (m : M D) : Prop := ∀ F W, Tk X F W → PE X e (tE X.K ca F W m)
/-- .. is a fresh object -/
def MO (ca : CA) (X : Cx) (e : Expr) (m : M Ob) : Prop := ∀ F W, Tk X F W → PE X e (tO X.K ca F W m)
def MT (ca : CA) (X : Cx) (e : Expr) (m : M Bool) : Prop := ∀ F W, Tk X F W → PT X e (tT X.K ca F W m)
def MW (ca : CA) (X : Cx) (e : Expr) (m : M Bool) : Prop := ∀ F W, Tk X F W → PW X e (tT X.K ca F W m)
def MA (ca : CA) (X : Cx) (es : List Expr) (m : M (List AV)) : Prop := ∀ F W, Tk X F W → PA X es (tA X.K ca F W m)

section
variable {ca : CA} {X : Cx} {pos : Pos}
/-! ### constants and names -/
def eC (d : D) : M D := ret d
theorem go_pure {K : PySem.W.Frag} {ca : CA} {F : Fr} {W : WX} {d : D} {v : V} {σ : St} {H : Hp} {Q : VK} (h : tE K ca F W (eC d) σ H Q) (r : ∀ ow, Rp K ow H d v) : Q v H := by
  obtain ⟨ow, env, R, g⟩ := h
  exact g v ow H Go.refl R (r ow)
theorem me_int {i j} : ME ca X (.Constant (.int i) j pos) (eC (.int i)) := fun F W _ => PE.imp pe_int fun σ H Q h => go_pure h fun _ => by unfold Rp; rfl
theorem me_bl {b j} : ME ca X (.Constant (.bool b) j pos) (eC (.bool b)) := fun F W _ => PE.imp pe_bl fun σ H Q h => go_pure h fun _ => by unfold Rp; rfl
theorem me_non {j} : ME ca X (.Constant .none j pos) (eC .none) := fun F W _ => PE.imp pe_non fun σ H Q h => go_pure h fun _ => by unfold Rp; rfl
theorem me_str {x j} : ME ca X (.Constant (.str x) j pos) (eC (.str x)) := fun F W _ => PE.imp pe_str fun σ H Q h => go_pure h fun _ => by unfold Rp; rfl
/-- a name is read: data; an own list is data from then on -/
def eV (i : Nat) : M D := fun e => match e[i]? with
  | some (.d x) => .ok x e
  | some (.o true (.lst xs)) => .ok (.list xs) (e.set i (.d (.list xs)))
  | _ => .bad
theorem held_set {env : List Sl} {σ : St} {i : Nat} {x : D} {p : Addr} (h : Held (env.set i (.d x)) σ p) : Held env σ p := by
  obtain ⟨j, l, k, h1, h2⟩ := h
  by_cases e : i = j
  · subst e
    by_cases hl : i < env.length
    · rw [List.getElem?_set_self hl] at h1; cases h1
    · rw [List.getElem?_eq_none (by simpa using hl)] at h1; cases h1
  · rw [List.getElem?_set_ne e] at h1
    exact ⟨j, l, k, h1, h2⟩
theorem me_var (i : Nat) {x : Str} (hN : X.N[i]? = some x := by rfl) (hv : Vis X.env.scope x := by first | exact Or.inl rfl | exact Or.inr (Or.inl rfl) | exact Or.inr (Or.inr rfl)) (hd : (x == ("__debug__" : Str)) = false := by decide)
    (hcd : (x == ("__classdict__" : Str)) = false := by decide) : ME ca X (.Name x pos) (eV i) := fun F W _ => PE.imp (pe_var hN hv hd hcd) fun σ H Q h => by
  obtain ⟨ow, env, R, g⟩ := h
  unfold eV at g
  split at g
  · rename_i x e
    obtain ⟨v, h1, h2⟩ := R.data e
    exact ⟨v, h1, g v ow H Go.refl R h2⟩
  · rename_i xs e
    obtain ⟨p, h1, h2, h3⟩ := R.freeze e
    refine ⟨.ref p, h1, g (.ref p) (less ow p) H ⟨stp_less, fun q w n => ⟨⟨w, fun z => n ⟨i, true, .lst xs, e, by rw [h1, z]⟩⟩, rfl, fun z => n (held_set z)⟩, fun _ h => h⟩ h3 h2⟩
  · exact g.elim
/-- .. kept as it is: for what looks at it at once -/
def eR (i : Nat) : M AV := ret (.ref i)

/-! ### arguments -/
def aNil : M (List AV) := ret []
def aD (m : M D) (r : M (List AV)) : M (List AV) := bind m fun x => bind r fun xs => ret (.d x :: xs)
/-- the slot is stored -/
def okR (i : Nat) : M Unit := fun e => match e[i]? with
  | some .un => .bad
  | some _ => .ok () e
  | none => .bad
def aR (i : Nat) (r : M (List AV)) : M (List AV) := bind (okR i) fun _ => bind r fun xs => ret (.ref i :: xs)
def aF (m : M Ob) (r : M (List AV)) : M (List AV) := bind m fun k => bind r fun xs => ret (.fr k :: xs)
theorem ma_nil : MA ca X [] aNil := fun F W _ => PA.imp pa_nil fun σ H Q h => by
  obtain ⟨ow, env, R, g⟩ := h
  exact g [] ow H Go.refl R (by show AvA _ _ _ _ _ _ _ _ [] []; unfold AvA; rfl)
variable {e : Expr} {es : List Expr}
theorem ma_d {m : M D} {r : M (List AV)} (h : ME ca X e m) (hr : MA ca X es r) (hs : starEach (e :: es) X.env = (false, eval e X.env) :: starEach es X.env := by rfl) : MA ca X (e :: es) (aD m r) := fun F W tk => PA.imp (pa_cons (h F W tk) (hr F W tk) hs) fun σ H Q ⟨ow, env, R, g⟩ => by
  refine go_bind R g fun x e1 v ow1 H1 g1 R1 p1 q1 => go_bind R1 q1 fun xs e2 vs ow2 H2 g2 R2 p2 q2 => ?_
  refine q2 _ ow2 H2 Go.refl R2 ?_
  show AvA _ _ _ _ _ _ _ _ (_ :: _) _
  unfold AvA
  exact ⟨v, vs, rfl, Rp.stp g2.stp _ _ p1, fun z => (by cases z), AvA.back (fun a h => g1.dom a h) p2⟩
theorem Rel.at (R : Rel K ca F ow env σ H) {i : Nat} {s : Sl} (h : env[i]? = some s) (n : s ≠ .un) : ∃ v, σ[i]? = some (some v) := by
  obtain ⟨v, e, r⟩ := SlR.at R h
  cases s with
  | un => exact absurd rfl n
  | d x => obtain ⟨u, rfl, _⟩ := r; exact ⟨u, e⟩
  | o l k => cases l <;> (obtain ⟨p, rfl, _⟩ := r; exact ⟨_, e⟩)
  | sc ns => obtain ⟨a, rfl, _⟩ := r; exact ⟨_, e⟩
  | xc => subst r; exact ⟨_, e⟩
theorem ma_r (i : Nat) {x : Str} {p : Pos} {r : M (List AV)} (hr : MA ca X es r) (hN : X.N[i]? = some x := by rfl) (hv : Vis X.env.scope x := by first | exact Or.inl rfl | exact Or.inr (Or.inl rfl) | exact Or.inr (Or.inr rfl)) (hd : (x == ("__debug__" : Str)) = false := by decide)
    (hcd : (x == ("__classdict__" : Str)) = false := by decide) (hs : starEach (.Name x p :: es) X.env = (false, eval (.Name x p) X.env) :: starEach es X.env := by rfl) : MA ca X (.Name x p :: es) (aR i r) := fun F W tk => PA.imp (pa_cons (pe_var hN hv hd hcd) (hr F W tk) hs) fun σ H Q ⟨ow, env, R, g⟩ => by
  have hz : ∃ v, σ[i]? = some (some v) ∧ GoG X.K ca F W (PA_ X.K ca F) H ow env H σ Q (bind r (fun xs => ret (.ref i :: xs)) env) := by
    unfold aR at g
    cases ho : env[i]? with
    | none =>
      have z : bind (okR i) (fun _ => bind r fun xs => ret (.ref i :: xs)) env = .bad := by simp only [bind, okR, ho]
      rw [z] at g; exact g.elim
    | some s =>
      by_cases hs : s = .un
      · have z : bind (okR i) (fun _ => bind r fun xs => ret (.ref i :: xs)) env = .bad := by subst hs; simp only [bind, okR, ho]
        rw [z] at g; exact g.elim
      · obtain ⟨v, hv⟩ := Rel.at R ho hs
        have z : bind (okR i) (fun _ => bind r fun xs => ret (.ref i :: xs)) env = bind r (fun xs => ret (.ref i :: xs)) env := by
          cases s with
          | un => exact absurd rfl hs
          | d x => simp only [bind, okR, ho]
          | o l k => simp only [bind, okR, ho]
          | sc ns => simp only [bind, okR, ho]
          | xc => simp only [bind, okR, ho]
        rw [z] at g
        exact ⟨v, hv, g⟩
  obtain ⟨v, hv, g⟩ := hz
  refine ⟨v, hv, go_bind R g fun xs e2 vs ow2 H2 g2 R2 p2 q2 => q2 _ ow2 H2 Go.refl R2 ?_⟩
  show AvA _ _ _ _ _ _ _ _ (_ :: _) _
  unfold AvA
  exact ⟨v, vs, rfl, hv, fun z => (by cases z), p2⟩
theorem ma_f {m : M Ob} {r : M (List AV)} (h : MO ca X e m) (hr : MA ca X es r) (hs : starEach (e :: es) X.env = (false, eval e X.env) :: starEach es X.env := by rfl) : MA ca X (e :: es) (aF m r) := fun F W tk => PA.imp (pa_cons (h F W tk) (hr F W tk) hs) fun σ H Q ⟨ow, env, R, g⟩ => by
  refine go_bind R g fun k e1 v ow1 H1 g1 R1 p1 q1 => go_bind R1 q1 fun xs e2 vs ow2 H2 g2 R2 p2 q2 => ?_
  refine q2 _ ow2 H2 Go.refl R2 ?_
  show AvA _ _ _ _ _ _ _ _ (_ :: _) _
  unfold AvA
  obtain ⟨p, rfl, n, r1, L⟩ := p1
  obtain ⟨L2, e2'⟩ := L.go g2
  obtain ⟨u, hu⟩ := r1.there
  exact ⟨_, vs, rfl, ⟨p, rfl, r1.stp g2.stp e2', L2⟩, fun _ q eq => by cases eq; exact ⟨n, AvA.frNot hu p2⟩, AvA.back (fun a h => g1.dom a h) p2⟩
end
end ML
end

section
set_option Elab.async false
set_option linter.all false
set_option maxRecDepth 100000
set_option maxHeartbeats 2000000
/-! # Operators, comparisons, tests, displays, subscripts, built-in functions: by what their operands hold -/
namespace ML
open PySem L2

/-- what a value holds: data, an object's content, the script -/
def SvR (K : PySem.W.Frag) (ca : CA) (ow : Addr → Prop) (H : Hp) : Sl → V → Prop
  | .un, _ => False
  | .d x, v => Rp K ow H x v
  | .o _ k, v => ∃ p, v = .ref p ∧ ow p ∧ OwnR K ca ow H p k
  | .sc ns, v => ∃ a, v = .ref a ∧ ScAt K ow H a ns
  | .xc, _ => False
def clean : Sl → Sl
  | .xc => .un
  | s => s
def content (e : List Sl) : AV → Sl
  | .d x => .d x
  | .ref i => clean (e.getD i .un)
  | .fr k => .o true k
def contents (e : List Sl) (as : List AV) : List Sl := as.map (content e)
def SvA (K : PySem.W.Frag) (ca : CA) (ow : Addr → Prop) (H : Hp) : List Sl → List V → Prop
  | [], vs => vs = []
  | s :: r, vs => ∃ v us, vs = v :: us ∧ (s ≠ .un → SvR K ca ow H s v) ∧ SvA K ca ow H r us
abbrev Trk (ow : Addr → Prop) (H : Hp) : Prop := ∀ a, ow a → ∃ o, H a = some o

section
variable {K : PySem.W.Frag} {ca : CA} {F : Fr} {ow ow' : Addr → Prop} {H H' Hs : Hp} {env e e' : List Sl} {σ : St}
theorem AvR.go {a : AV} {v : V} (g : Go σ ow e H ow' e' H') (h : AvR K ca F ow H e σ a v) : AvR K ca F ow' H' e' σ a v := by
  cases a with
  | d x => exact Rp.stp g.stp _ _ h
  | ref i => exact h
  | fr k =>
    obtain ⟨p, rfl, r, L⟩ := h
    obtain ⟨L2, eq⟩ := L.go g
    exact ⟨p, rfl, r.stp g.stp eq, L2⟩
theorem AvR.sv {a : AV} {v : V} (R : Rel K ca F ow e σ H) (h : AvR K ca F ow H e σ a v) (n : content e a ≠ .un) : SvR K ca ow H (content e a) v := by
  cases a with
  | d x => exact h
  | fr k => obtain ⟨p, rfl, r, L⟩ := h; exact ⟨p, rfl, L.1, r⟩
  | ref i =>
    have hs : content e (.ref i) = clean (e.getD i .un) := rfl
    rw [hs] at n ⊢
    cases he : e[i]? with
    | none => rw [List.getD_eq_getElem?_getD, he] at n; exact absurd rfl n
    | some s =>
      have es : e.getD i .un = s := by rw [List.getD_eq_getElem?_getD, he]; rfl
      rw [es] at n ⊢
      have hv : σ[i]? = some (some v) := h
      have q := R.sl i s (some v) he hv
      cases s with
      | un => exact absurd rfl n
      | d x => obtain ⟨u, eu, r⟩ := q; cases eu; exact r
      | o l k =>
        cases l with
        | true => obtain ⟨p, eu, w, r, _⟩ := q; cases eu; exact ⟨p, rfl, w, r⟩
        | false => obtain ⟨p, eu, w, r, _⟩ := q; cases eu; exact ⟨p, rfl, w, r⟩
      | sc ns => obtain ⟨a, eu, r⟩ := q; cases eu; exact ⟨a, rfl, r⟩
      | xc => exact absurd rfl n
theorem AvA.sv (R : Rel K ca F ow e σ H) : ∀ {as : List AV} {vs : List V}, AvA K ca F Hs ow H e σ as vs → SvA K ca ow H (contents e as) vs
  | [], _, h => h
  | a :: r, _, h => by
    unfold AvA at h
    obtain ⟨v, us, rfl, ra, _, t⟩ := h
    show SvA K ca ow H (content e a :: contents e r) _
    unfold SvA
    exact ⟨v, us, rfl, fun n => ra.sv R n, AvA.sv R t⟩
end

/-- one operand: data, a slot's object as it stands, a fresh object -/
def PQ (K : PySem.W.Frag) (ca : CA) (F : Fr) : PP AV V := fun a v H0 ow H e σ => AvR K ca F ow H e σ a v ∧ (isFr a = true → ∀ p, v = .ref p → H0 p = none)
abbrev tQ (K : PySem.W.Frag) (ca : CA) (F : Fr) (W : WX) (m : M AV) : TE := tG K ca F W (PQ K ca F) m
def MQ (ca : CA) (X : Cx) (e : Expr) (m : M AV) : Prop := ∀ F W, Tk X F W → PE X e (tQ X.K ca F W m)
def qD (m : M D) : M AV := bind m fun x => ret (.d x)
def qR (i : Nat) : M AV := bind (okR i) fun _ => ret (.ref i)
def qF (m : M Ob) : M AV := bind m fun k => ret (.fr k)

section
variable {ca : CA} {X : Cx} {pos : Pos} {e a b c : Expr} {es : List Expr}
theorem mq_d {m : M D} (h : ME ca X e m) : MQ ca X e (qD m) := fun F W tk => PE.imp (h F W tk) fun σ H Q ⟨ow, env, R, g⟩ =>
  go_bind R g fun x e1 v ow1 H1 g1 R1 p1 q1 => q1 v ow1 H1 Go.refl R1 ⟨p1, fun z => by cases z⟩
theorem mq_f {m : M Ob} (h : MO ca X e m) : MQ ca X e (qF m) := fun F W tk => PE.imp (h F W tk) fun σ H Q ⟨ow, env, R, g⟩ =>
  go_bind R g fun x e1 v ow1 H1 g1 R1 ⟨p, ev, n, r, L⟩ q1 => q1 v ow1 H1 Go.refl R1 ⟨⟨p, ev, r, L⟩, fun _ q eq => by rw [ev] at eq; cases eq; exact n⟩
theorem okR_go {K : PySem.W.Frag} {F : Fr} {W : WX} {β γ : Type} {P : PP γ β} {Hs H : Hp} {ow : Addr → Prop} {env : List Sl} {σ : St} {Q : β → Hp → Prop} {i : Nat} {f : Unit → M γ} (R : Rel K ca F ow env σ H) (g : GoG K ca F W P Hs ow env H σ Q (bind (okR i) f env)) :
    ∃ v, σ[i]? = some (some v) ∧ GoG K ca F W P Hs ow env H σ Q (f () env) := by
  cases ho : env[i]? with
  | none =>
    have z : bind (okR i) f env = .bad := by simp only [bind, okR, ho]
    rw [z] at g; exact g.elim
  | some s =>
    by_cases hs : s = .un
    · have z : bind (okR i) f env = .bad := by subst hs; simp only [bind, okR, ho]
      rw [z] at g; exact g.elim
    · obtain ⟨v, hv⟩ := Rel.at R ho hs
      have z : bind (okR i) f env = f () env := by
        cases s with
        | un => exact absurd rfl hs
        | d x => simp only [bind, okR, ho]
        | o l k => simp only [bind, okR, ho]
        | sc ns => simp only [bind, okR, ho]
        | xc => simp only [bind, okR, ho]
      rw [z] at g
      exact ⟨v, hv, g⟩
theorem mq_r (i : Nat) {x : Str} (hN : X.N[i]? = some x := by rfl) (hv : Vis X.env.scope x := by first | exact Or.inl rfl | exact Or.inr (Or.inl rfl) | exact Or.inr (Or.inr rfl)) (hd : (x == ("__debug__" : Str)) = false := by decide)
    (hcd : (x == ("__classdict__" : Str)) = false := by decide) : MQ ca X (.Name x pos) (qR i) := fun F W tk => PE.imp (pe_var hN hv hd hcd) fun σ H Q ⟨ow, env, R, g⟩ => by
  obtain ⟨v, hv, g⟩ := okR_go R g
  exact ⟨v, hv, g v ow H Go.refl R ⟨hv, fun z => by cases z⟩⟩
/-- a fresh list is data, from now on -/
def obD : Ob → Option D
  | .lst xs => some (.list xs)
  | .dct kvs => some (.dict (kvs.map fun p => (kD p.1, p.2)))
  | .ins _ _ => none
def eO (m : M Ob) : M D := bind m fun k => lift (obD k)
theorem rpK_of {K : PySem.W.Frag} {ow : Addr → Prop} {H : Hp} : ∀ {kvs : List (Key × D)} {us : List (Key × V)}, RpE K ow H kvs us → RpK K ow H (kvs.map fun p => (kD p.1, p.2)) us
  | _, _, .nil => by unfold RpK; rfl
  | _, _, .cons h t => by
    show RpK K ow H (_ :: _) _
    unfold RpK
    exact ⟨_, _, _, rfl, congrArg kD h.1, h.2, rpK_of t⟩
theorem Loose.data {K : PySem.W.Frag} {F : Fr} {ow : Addr → Prop} {H : Hp} {env : List Sl} {σ : St} {p : Addr} {k : Ob} {d : D} (L : Loose F ow env σ p) (r : OwnR K ca ow H p k) (h : obD k = some d) : Rp K (less ow p) H d (.ref p) := by
  cases k with
  | lst xs =>
    cases h
    obtain ⟨vs, h1, h2⟩ := r
    unfold Rp
    exact ⟨p, vs, rfl, h1, fun z => z.2 rfl, h2.stp stp_less⟩
  | dct kvs =>
    cases h
    obtain ⟨us, h1, h2⟩ := r
    unfold Rp
    exact ⟨p, us, rfl, h1, fun z => z.2 rfl, rpK_of (h2.stp stp_less)⟩
  | ins c fs => cases h
theorem me_o {m : M Ob} (h : MO ca X e m) : ME ca X e (eO m) := fun F W tk => PE.imp (h F W tk) fun σ H Q ⟨ow, env, R, g⟩ => by
  refine ⟨ow, env, R, ?_⟩
  unfold eO bind at g
  cases hm : m env with
  | ok k e =>
    rw [hm] at g
    rintro v ow1 H1 g1 R1 ⟨p, rfl, n, r, L⟩
    cases hk : obD k with
    | none => simp only [lift, hk] at g; exact g.elim
    | some d =>
      simp only [lift, hk] at g
      refine g (.ref p) (less ow1 p) H1 ⟨g1.stp.trans stp_less, fun q w nh => ?_, g1.dom⟩ (R1.loose L) (L.data r hk)
      obtain ⟨w1, h1, n1⟩ := g1.lo q w nh
      refine ⟨⟨w1, fun z => ?_⟩, h1, n1⟩
      obtain ⟨u, hu⟩ := R.trk q w
      rw [z, n] at hu
      cases hu
  | ex c e => rw [hm] at g; exact g
  | bad => rw [hm] at g; exact g

/-! ### operators by contents -/
/-- an operator's answer is data -/
def OpS (K : PySem.W.Frag) (ca : CA) (r : R2) (g : Sl → Sl → Option D) : Prop :=
  ∀ s t z ow H v1 v2 Q, g s t = some z → (s ≠ .un → SvR K ca ow H s v1) → (t ≠ .un → SvR K ca ow H t v2) → Trk ow H → (∀ v H', Gr H H' → Rp K ow H' z v → Q v H') → r v1 v2 H Q
/-- .. is a new list -/
def OpF (K : PySem.W.Frag) (ca : CA) (r : R2) (g : Sl → Sl → Option (List D)) : Prop :=
  ∀ s t z ow H v1 v2 Q, g s t = some z → (s ≠ .un → SvR K ca ow H s v1) → (t ≠ .un → SvR K ca ow H t v2) → Trk ow H → (∀ p vs, H p = none → RpA K ow H z vs → Q (.ref p) (upd H p (.lst vs))) → r v1 v2 H Q
def e2 (g : Sl → Sl → Option D) (ma mb : M AV) : M D := bind ma fun a => bind mb fun b => fun e => lift (g (content e a) (content e b)) e
def o2 (g : Sl → Sl → Option (List D)) (ma mb : M AV) : M Ob := bind ma fun a => bind mb fun b => fun e => lift ((g (content e a) (content e b)).map Ob.lst) e
section
variable {K : PySem.W.Frag} {F : Fr} {W : WX} {ow : Addr → Prop} {env : List Sl} {Hs H : Hp} {σ : St} {Q : VK}
theorem go_val {z : D} {v : V} {H' : Hp} (R : Rel K ca F ow env σ H) (g : GoG K ca F W (PD K) Hs ow env H σ Q (.ok z env)) (gr : Gr H H') (r : Rp K ow H' z v) : Q v H' := g v ow H' (Go.gr R gr) (R.gr gr) r
theorem go_new {xs : List D} {vs : List V} {p : Addr} (R : Rel K ca F ow env σ H) (g : GoG K ca F W (PO_ K ca F) Hs ow env H σ Q (.ok (.lst xs) env)) (back : ∀ x, H x = none → Hs x = none) (h : H p = none) (r : RpA K ow H xs vs) : Q (.ref p) (upd H p (.lst vs)) := by
  obtain ⟨R1, L⟩ := R.more (o := .lst vs) h
  exact g (.ref p) _ _ (Go.more R h) R1 ⟨p, rfl, back p h, ⟨vs, upd_same, r.stp (stp_more h)⟩, L⟩
theorem lift_go {α β : Type} {P : PP α β} {Q : β → Hp → Prop} {o : Option α} (g : GoG K ca F W P Hs ow env H σ Q (lift o env)) : ∃ z, o = some z ∧ GoG K ca F W P Hs ow env H σ Q (.ok z env) := by
  cases o with
  | none => exact g.elim
  | some z => exact ⟨z, rfl, g⟩
end
theorem two_go {K : PySem.W.Frag} {F : Fr} {W : WX} {ma mb : M AV} {f : AV → AV → M D} {σ : St} {H : Hp} {Q : VK} {r : V → V → Hp → VK → Prop} (h : tE K ca F W (bind ma fun a => bind mb fun b => f a b) σ H Q)
    (k : ∀ x y v1 v2 ow e H1 Hs, Rel K ca F ow e σ H1 → AvR K ca F ow H1 e σ x v1 → AvR K ca F ow H1 e σ y v2 → GoG K ca F W (PD K) Hs ow e H1 σ Q (f x y e) → r v1 v2 H1 Q) :
    tQ K ca F W ma σ H fun x H1 => tQ K ca F W mb σ H1 fun y H2 => r x y H2 Q := by
  obtain ⟨ow, env, R, g⟩ := h
  exact go_bind R g fun x e1 v1 ow1 H1 g1 R1 p1 q1 => go_bind R1 q1 fun y e2 v2 ow2 H2 g2 R2 p2 q2 => k x y v1 v2 ow2 e2 H2 H R2 (p1.1.go g2) p2.1 q2
theorem me_op {op : Operator} {r : R2} {g : Sl → Sl → Option D} {ma mb : M AV} (ho : OpR X (binaryOp op) r) (hs : OpS X.K ca r g) (ha : MQ ca X a ma) (hb : MQ ca X b mb) : ME ca X (.BinOp a op b pos) (e2 g ma mb) := fun F W tk =>
  PE.imp (pe_op ho (ha F W tk) (hb F W tk)) fun σ H Q h => two_go h fun x y v1 v2 ow e H1 Hs R p1 p2 q => by
    obtain ⟨z, ez, q⟩ := lift_go q
    exact hs _ _ z ow H1 v1 v2 Q ez (fun n => p1.sv R n) (fun n => p2.sv R n) R.trk fun v H' gr rp => go_val R q gr rp
theorem mo_op {op : Operator} {r : R2} {g : Sl → Sl → Option (List D)} {ma mb : M AV} (ho : OpR X (binaryOp op) r) (hs : OpF X.K ca r g) (ha : MQ ca X a ma) (hb : MQ ca X b mb) : MO ca X (.BinOp a op b pos) (o2 g ma mb) := fun F W tk =>
  PE.imp (pe_op ho (ha F W tk) (hb F W tk)) fun σ H Q ⟨ow, env, R, gg⟩ =>
    go_bind R gg fun x e1 v1 ow1 H1 g1 R1 p1 q1 => go_bind R1 q1 fun y e2 v2 ow2 H2 g2 R2 p2 q2 => by
      obtain ⟨z, ez, q⟩ := lift_go q2
      obtain ⟨xs, exs, rfl⟩ := Option.map_eq_some_iff.mp ez
      exact hs _ _ xs ow2 H2 v1 v2 _ exs (fun n => (p1.1.go g2).sv R2 n) (fun n => p2.1.sv R2 n) R2.trk fun p vs hp rp => go_new R2 q (fun x h => g1.dom x (g2.dom x h)) hp rp
/-- a comparison -/
theorem me_cmp {op : CmpOp} {r : R2} {g : Sl → Sl → Option D} {ma mb : M AV} (ho : OpR X (compareOp op) r) (hs : OpS X.K ca r g) (ha : MQ ca X a ma) (hb : MQ ca X b mb) (hm : behindInMarks op b = false := by first | exact nomark _ | with_unfolding_all rfl) : ME ca X (.Compare a [op] [b] pos) (e2 g ma mb) := fun F W tk =>
  PE.imp (pe_cmpR ho (ha F W tk) (hb F W tk) hm) fun σ H Q h => two_go h fun x y v1 v2 ow e H1 Hs R p1 p2 q => by
    obtain ⟨z, ez, q⟩ := lift_go q
    exact hs _ _ z ow H1 v1 v2 Q ez (fun n => p1.sv R n) (fun n => p2.sv R n) R.trk fun v H' gr rp => go_val R q gr rp
/-- data as a truth value -/
def dB : D → Option Bool
  | .bool b => some b
  | _ => none
def b2 (g : Sl → Sl → Option D) (ma mb : M AV) : M Bool := bind ma fun a => bind mb fun b => fun e => lift ((g (content e a) (content e b)).bind dB) e
theorem dB_some {d : D} {b : Bool} (h : dB d = some b) : d = .bool b := by
  cases d <;> first | cases h | skip
  rfl
theorem mt_cmp {op : CmpOp} {r : R2} {g : Sl → Sl → Option D} {ma mb : M AV} (ho : OpR X (compareOp op) r) (hs : OpS X.K ca r g) (ha : MQ ca X a ma) (hb : MQ ca X b mb) (hm : behindInMarks op b = false := by first | exact nomark _ | with_unfolding_all rfl) : MT ca X (.Compare a [op] [b] pos) (b2 g ma mb) := fun F W tk =>
  PT.imp (pt_cmpR ho (ha F W tk) (hb F W tk) hm) fun σ H Q ⟨ow, env, R, gg⟩ =>
    go_bind R gg fun x e1 v1 ow1 H1 g1 R1 p1 q1 => go_bind R1 q1 fun y e2 v2 ow2 H2 g2 R2 p2 q2 => by
      obtain ⟨z, ez, q⟩ := lift_go q2
      obtain ⟨d, ed, ez⟩ := Option.bind_eq_some_iff.mp ez
      have ed' := dB_some ez
      subst ed'
      refine hs _ _ _ ow2 H2 v1 v2 _ ed (fun n => (p1.1.go g2).sv R2 n) (fun n => p2.1.sv R2 n) R2.trk fun v H' gr rp => ?_
      unfold Rp at rp
      exact ⟨z, rp, q z ow2 H' (Go.gr R2 gr) (R2.gr gr) rfl⟩
def tB_ (m : M D) : M Bool := bind m fun x => lift (dB x)
/-- an expression that gives True or False, as a test -/
theorem mt_val {m : M D} (h : ME ca X e m) (he : ∀ whole, isTrue e X.env whole = (do let v ← whole; standAt e.pos; holding [v] (truthy v)) := by intro _; rfl) : MT ca X e (tB_ m) := fun F W tk =>
  PT.imp (pt_val (h F W tk) he) fun σ H Q ⟨ow, env, R, g⟩ => go_bind R g fun x e1 v1 ow1 H1 g1 R1 p1 q1 => by
    obtain ⟨z, ez, q⟩ := lift_go q1
    have ed := dB_some ez
    subst ed
    have p1' : Rp X.K ow1 H1 (.bool z) v1 := p1
    unfold Rp at p1'
    exact ⟨z, p1', q z ow1 H1 Go.refl R1 rfl⟩
def tNot_ (m : M Bool) : M Bool := bind m fun b => ret (!b)
theorem mt_not {m : M Bool} (h : MT ca X a m) : MT ca X (.UnaryOp .Not a pos) (tNot_ m) := fun F W tk =>
  PT.imp (pt_not (h F W tk)) fun σ H Q ⟨ow, env, R, g⟩ => go_bind R g fun x e1 v1 ow1 H1 g1 R1 p1 q1 => by
    have p1' : v1 = x := p1
    subst p1'
    exact q1 _ ow1 H1 Go.refl R1 rfl
def tAnd_ (m n : M Bool) : M Bool := bind m fun b => if b = true then n else ret false
def tOr_ (m n : M Bool) : M Bool := bind m fun b => if b = true then ret true else n
variable {rest : List Expr}
theorem mw_mt {m : M Bool} (h : MW ca X a m) : MT ca X a m := fun F W tk => (h F W tk).pt
theorem mw_and1 {m : M Bool} (h : MT ca X a m) : MW ca X (.BoolOp .And [a] pos) m := fun F W tk => pw_and1 (h F W tk)
theorem mw_or1 {m : M Bool} (h : MT ca X a m) : MW ca X (.BoolOp .Or [a] pos) m := fun F W tk => pw_or1 (h F W tk)
theorem mw_and {m n : M Bool} (h : MT ca X a m) (h2 : MW ca X (.BoolOp .And (b :: rest) pos) n) : MW ca X (.BoolOp .And (a :: b :: rest) pos) (tAnd_ m n) := fun F W tk =>
  PW.imp (pw_and (h F W tk) (h2 F W tk)) fun σ H Q ⟨ow, env, R, g⟩ => go_bind R g fun x e1 v1 ow1 H1 g1 R1 p1 q1 => by
    have p1' : v1 = x := p1
    subst p1'
    cases v1 with
    | true => rw [if_pos rfl] at q1 ⊢; exact ⟨ow1, e1, R1, q1⟩
    | false => rw [if_neg Bool.false_ne_true] at q1 ⊢; exact q1 _ ow1 H1 Go.refl R1 rfl
theorem mw_or {m n : M Bool} (h : MT ca X a m) (h2 : MW ca X (.BoolOp .Or (b :: rest) pos) n) : MW ca X (.BoolOp .Or (a :: b :: rest) pos) (tOr_ m n) := fun F W tk =>
  PW.imp (pw_or (h F W tk) (h2 F W tk)) fun σ H Q ⟨ow, env, R, g⟩ => go_bind R g fun x e1 v1 ow1 H1 g1 R1 p1 q1 => by
    have p1' : v1 = x := p1
    subst p1'
    cases v1 with
    | false => rw [if_neg Bool.false_ne_true] at q1 ⊢; exact ⟨ow1, e1, R1, q1⟩
    | true => rw [if_pos rfl] at q1 ⊢; exact q1 _ ow1 H1 Go.refl R1 rfl
end
end ML
end

section
set_option Elab.async false
set_option linter.all false
set_option maxRecDepth 100000
set_option maxHeartbeats 2000000
/-! # Values by and, or, not, if; displays; subscripts; slices; built-in functions; calls -/
namespace ML
open PySem L2
section
variable {ca : CA} {X : Cx} {pos : Pos} {e a b c : Expr} {es rest : List Expr}
def eAnd (m n : M D) : M D := bind m fun x => fun e => match x with
  | .bool true => n e
  | .bool false => .ok (.bool false) e
  | _ => .bad
def eOr (m n : M D) : M D := bind m fun x => fun e => match x with
  | .bool true => .ok (.bool true) e
  | .bool false => n e
  | _ => .bad
def eNot (m : M D) : M D := bind m fun x => lift ((dB x).map fun b => .bool (!b))
def eIf (t : M Bool) (m n : M D) : M D := bind t fun b => if b = true then m else n
def oIf (t : M Bool) (m n : M Ob) : M Ob := bind t fun b => if b = true then m else n
theorem me_one {op} {m : M D} (h : ME ca X a m) : ME ca X (.BoolOp op [a] pos) m := fun F W tk => pe_one (h F W tk)
theorem me_and {m n : M D} (h : ME ca X a m) (h2 : ME ca X (.BoolOp .And (b :: rest) pos) n) : ME ca X (.BoolOp .And (a :: b :: rest) pos) (eAnd m n) := fun F W tk =>
  PE.imp (pe_and (h F W tk) (h2 F W tk)) fun σ H Q ⟨ow, env, R, g⟩ => go_bind R g fun x e1 v1 ow1 H1 g1 R1 p1 q1 => by
    cases x with
    | bool b =>
      have p1' : Rp X.K ow1 H1 (.bool b) v1 := p1
      unfold Rp at p1'
      refine ⟨b, p1', ?_⟩
      cases b with
      | true => rw [if_pos rfl]; exact ⟨ow1, e1, R1, q1⟩
      | false => rw [if_neg Bool.false_ne_true]; exact q1 _ ow1 H1 Go.refl R1 (by show Rp _ _ _ (.bool false) _; unfold Rp; rfl)
    | _ => exact q1.elim
theorem me_or {m n : M D} (h : ME ca X a m) (h2 : ME ca X (.BoolOp .Or (b :: rest) pos) n) : ME ca X (.BoolOp .Or (a :: b :: rest) pos) (eOr m n) := fun F W tk =>
  PE.imp (pe_or (h F W tk) (h2 F W tk)) fun σ H Q ⟨ow, env, R, g⟩ => go_bind R g fun x e1 v1 ow1 H1 g1 R1 p1 q1 => by
    cases x with
    | bool b =>
      have p1' : Rp X.K ow1 H1 (.bool b) v1 := p1
      unfold Rp at p1'
      refine ⟨b, p1', ?_⟩
      cases b with
      | false => rw [if_neg Bool.false_ne_true]; exact ⟨ow1, e1, R1, q1⟩
      | true => rw [if_pos rfl]; exact q1 _ ow1 H1 Go.refl R1 (by show Rp _ _ _ (.bool true) _; unfold Rp; rfl)
    | _ => exact q1.elim
theorem me_not {m : M D} (h : ME ca X a m) : ME ca X (.UnaryOp .Not a pos) (eNot m) := fun F W tk =>
  PE.imp (pe_not (h F W tk)) fun σ H Q ⟨ow, env, R, g⟩ => go_bind R g fun x e1 v1 ow1 H1 g1 R1 p1 q1 => by
    obtain ⟨z, ez, q⟩ := lift_go q1
    obtain ⟨b, eb, rfl⟩ := Option.map_eq_some_iff.mp ez
    have ed := dB_some eb
    subst ed
    have p1' : Rp X.K ow1 H1 (.bool b) v1 := p1
    unfold Rp at p1'
    exact ⟨b, p1', q _ ow1 H1 Go.refl R1 (by show Rp _ _ _ (.bool (!b)) _; unfold Rp; rfl)⟩
theorem me_if {t : M Bool} {m n : M D} (hc : MT ca X c t) (h : ME ca X a m) (h2 : ME ca X b n) : ME ca X (.IfExp c a b pos) (eIf t m n) := fun F W tk =>
  PE.imp (pe_ifExp (hc F W tk) (h F W tk) (h2 F W tk)) fun σ H Q ⟨ow, env, R, g⟩ => go_bind R g fun x e1 v1 ow1 H1 g1 R1 p1 q1 => by
    have p1' : v1 = x := p1
    subst p1'
    cases v1 with
    | true => rw [if_pos rfl] at q1 ⊢; exact ⟨ow1, e1, R1, q1⟩
    | false => rw [if_neg Bool.false_ne_true] at q1 ⊢; exact ⟨ow1, e1, R1, q1⟩
theorem GoG.start {K : PySem.W.Frag} {F : Fr} {W : WX} {ow : Addr → Prop} {env : List Sl} {Hs H1 H : Hp} {σ : St} {Q : VK} {r : R Ob} (d : ∀ x, H1 x = none → Hs x = none) (g : GoG K ca F W (PO_ K ca F) Hs ow env H σ Q r) : GoG K ca F W (PO_ K ca F) H1 ow env H σ Q r := by
  cases r with
  | ok k e => exact fun b ow' H' g' R' ⟨p, ev, n, r⟩ => g b ow' H' g' R' ⟨p, ev, d p n, r⟩
  | ex c e => exact g
  | bad => exact g
theorem mo_if {t : M Bool} {m n : M Ob} (hc : MT ca X c t) (h : MO ca X a m) (h2 : MO ca X b n) : MO ca X (.IfExp c a b pos) (oIf t m n) := fun F W tk =>
  PE.imp (pe_ifExp (hc F W tk) (h F W tk) (h2 F W tk)) fun σ H Q ⟨ow, env, R, g⟩ => go_bind R g fun x e1 v1 ow1 H1 g1 R1 p1 q1 => by
    have p1' : v1 = x := p1
    subst p1'
    cases v1 with
    | true => rw [if_pos rfl] at q1 ⊢; exact ⟨ow1, e1, R1, q1.start fun x h => g1.dom x h⟩
    | false => rw [if_neg Bool.false_ne_true] at q1 ⊢; exact ⟨ow1, e1, R1, q1.start fun x h => g1.dom x h⟩
/-! ### displays -/
/-- all arguments are data -/
def datas : List AV → Option (List D)
  | [] => some []
  | .d x :: r => (datas r).map fun xs => x :: xs
  | _ :: _ => none
theorem AvA.datas {K : PySem.W.Frag} {F : Fr} {Hs H : Hp} {ow : Addr → Prop} {e : List Sl} {σ : St} : ∀ {as : List AV} {vs : List V} {xs : List D}, AvA K ca F Hs ow H e σ as vs → datas as = some xs → RpA K ow H xs vs
  | [], _, _, h, e => by
    cases e
    unfold AvA at h
    unfold RpA
    exact h
  | .d x :: r, _, _, h, e => by
    unfold ML.datas at e
    obtain ⟨ys, ey, rfl⟩ := Option.map_eq_some_iff.mp e
    unfold AvA at h
    obtain ⟨v, us, rfl, ra, _, t⟩ := h
    unfold RpA
    exact ⟨v, us, rfl, ra, AvA.datas t ey⟩
  | .ref i :: r, _, _, h, e => by cases e
  | .fr k :: r, _, _, h, e => by cases e
theorem RpA.length {K : PySem.W.Frag} {ow : Addr → Prop} {H : Hp} : ∀ {xs : List D} {vs : List V}, RpA K ow H xs vs → xs.length = vs.length
  | [], _, h => by unfold RpA at h; rw [h]; rfl
  | _ :: _, _, h => by
    unfold RpA at h
    obtain ⟨v, us, rfl, _, t⟩ := h
    rw [List.length_cons, List.length_cons, t.length]
/-- below the length that memory lets -/
abbrev LIM : Nat := 10000000
theorem lim_line {n : Nat} (h : n ≤ LIM) : n ≤ sizeLine := Nat.le_trans h (by rw [sizeLine_eq]; decide)
theorem lim_lt {n : Nat} (h : n < LIM) : n < sizeLine := Nat.lt_of_lt_of_le h (by rw [sizeLine_eq]; decide)
def eTup (m : M (List AV)) : M D := bind m fun as => lift ((datas as).bind fun xs => if xs.length ≤ LIM then some (.tuple xs) else none)
def oLst (m : M (List AV)) : M Ob := bind m fun as => lift ((datas as).bind fun xs => if xs.length ≤ LIM then some (.lst xs) else none)
theorem ite_some {α : Type} {c : Prop} [Decidable c] {x z : α} (h : (if c then some x else none) = some z) : c ∧ x = z := by
  by_cases q : c
  · rw [if_pos q] at h; exact ⟨q, Option.some.inj h⟩
  · rw [if_neg q] at h; cases h
theorem me_tup {x1} {m : M (List AV)} (h : MA ca X es m) : ME ca X (.Tuple es x1 pos) (eTup m) := fun F W tk =>
  PE.imp (pe_tup (h F W tk)) fun σ H Q ⟨ow, env, R, g⟩ => go_bind R g fun as e1 vs ow1 H1 g1 R1 p1 q1 => by
    obtain ⟨z, ez, q⟩ := lift_go q1
    obtain ⟨xs, ex, ez⟩ := Option.bind_eq_some_iff.mp ez
    obtain ⟨hl, rfl⟩ := ite_some ez
    have rp := AvA.datas p1 ex
    refine ⟨lim_line (by rw [← rp.length]; exact hl), fun p hp => go_val R1 q (Gr.new hp) ?_⟩
    unfold Rp
    exact ⟨p, vs, rfl, .inl ⟨upd_same, R1.free hp⟩, rp.stp (Gr.new hp).stp⟩
theorem mo_lst {m : M (List AV)} (h : MA ca X es m) : MO ca X (.List es pos) (oLst m) := fun F W tk =>
  PE.imp (pe_lst (h F W tk)) fun σ H Q ⟨ow, env, R, g⟩ => go_bind R g fun as e1 vs ow1 H1 g1 R1 p1 q1 => by
    obtain ⟨z, ez, q⟩ := lift_go q1
    obtain ⟨xs, ex, ez⟩ := Option.bind_eq_some_iff.mp ez
    obtain ⟨hl, rfl⟩ := ite_some ez
    have rp := AvA.datas p1 ex
    exact ⟨lim_line (by rw [← rp.length]; exact hl), fun p hp => go_new R1 q (fun x h => g1.dom x h) hp rp⟩
/-! ### built-in functions and types -/
def BltS (K : PySem.W.Frag) (ca : CA) (r : List V → Hp → VK → Prop) (g : List Sl → Option D) : Prop :=
  ∀ ss z ow H vs Q, g ss = some z → SvA K ca ow H ss vs → Trk ow H → (∀ v H', Gr H H' → Rp K ow H' z v → Q v H') → r vs H Q
def BltF (K : PySem.W.Frag) (ca : CA) (r : List V → Hp → VK → Prop) (g : List Sl → Option (List D)) : Prop :=
  ∀ ss z ow H vs Q, g ss = some z → SvA K ca ow H ss vs → Trk ow H → (∀ p us, H p = none → RpA K ow H z us → Q (.ref p) (upd H p (.lst us))) → r vs H Q
def eBlt (g : List Sl → Option D) (m : M (List AV)) : M D := bind m fun as => fun e => lift (g (contents e as)) e
def oBlt (g : List Sl → Option (List D)) (m : M (List AV)) : M Ob := bind m fun as => fun e => lift ((g (contents e as)).map Ob.lst) e
theorem me_blt {id : String} {x : Str} {p : Pos} {r : List V → Hp → VK → Prop} {g : List Sl → Option D} {m : M (List AV)} (hc : CallR X (.builtin id) r) (hs : BltS X.K ca r g) (ha : MA ca X (e :: es) m) (hm : X.mg x = none) (hv : bootBuiltins x = some (.builtin id)) (hg : Gl X x := by rfl)
    (hn : x ≠ "__name__" := by decide) (hdb : (x == ("__debug__" : Str)) = false := by decide)
    (he : starEach (e :: es) X.env = (false, eval e X.env) :: starEach es X.env := by rfl) (hpl : (backTo pos (starEach es X.env)).any (·.1) = false := by rfl) : ME ca X (.Call (.Name x p) (e :: es) [] pos) (eBlt g m) := fun F W tk =>
  PE.imp (pe_callB hc hg hm hv (ha F W tk) hn hdb he hpl) fun σ H Q ⟨ow, env, R, gg⟩ => go_bind R gg fun as e1 vs ow1 H1 g1 R1 p1 q1 => by
    obtain ⟨z, ez, q⟩ := lift_go q1
    exact hs _ z ow1 H1 vs Q ez (AvA.sv R1 p1) R1.trk fun v H' gr rp => go_val R1 q gr rp
theorem me_bltT {T : String} {x : Str} {p : Pos} {r : List V → Hp → VK → Prop} {g : List Sl → Option D} {m : M (List AV)} (hc : CallR X (.type T) r) (hs : BltS X.K ca r g) (ha : MA ca X (e :: es) m) (hm : X.mg x = none) (hv : bootBuiltins x = some (.type T)) (hg : Gl X x := by rfl)
    (hn : x ≠ "__name__" := by decide) (hdb : (x == ("__debug__" : Str)) = false := by decide)
    (he : starEach (e :: es) X.env = (false, eval e X.env) :: starEach es X.env := by rfl) (hpl : (backTo pos (starEach es X.env)).any (·.1) = false := by rfl) : ME ca X (.Call (.Name x p) (e :: es) [] pos) (eBlt g m) := fun F W tk =>
  PE.imp (pe_callTy hc hg hm hv (ha F W tk) hn hdb he hpl) fun σ H Q ⟨ow, env, R, gg⟩ => go_bind R gg fun as e1 vs ow1 H1 g1 R1 p1 q1 => by
    obtain ⟨z, ez, q⟩ := lift_go q1
    exact hs _ z ow1 H1 vs Q ez (AvA.sv R1 p1) R1.trk fun v H' gr rp => go_val R1 q gr rp
theorem mo_blt {id : String} {x : Str} {p : Pos} {r : List V → Hp → VK → Prop} {g : List Sl → Option (List D)} {m : M (List AV)} (hc : CallR X (.builtin id) r) (hs : BltF X.K ca r g) (ha : MA ca X (e :: es) m) (hm : X.mg x = none) (hv : bootBuiltins x = some (.builtin id)) (hg : Gl X x := by rfl)
    (hn : x ≠ "__name__" := by decide) (hdb : (x == ("__debug__" : Str)) = false := by decide)
    (he : starEach (e :: es) X.env = (false, eval e X.env) :: starEach es X.env := by rfl) (hpl : (backTo pos (starEach es X.env)).any (·.1) = false := by rfl) : MO ca X (.Call (.Name x p) (e :: es) [] pos) (oBlt g m) := fun F W tk =>
  PE.imp (pe_callB hc hg hm hv (ha F W tk) hn hdb he hpl) fun σ H Q ⟨ow, env, R, gg⟩ => go_bind R gg fun as e1 vs ow1 H1 g1 R1 p1 q1 => by
    obtain ⟨z, ez, q⟩ := lift_go q1
    obtain ⟨xs, exs, rfl⟩ := Option.map_eq_some_iff.mp ez
    exact hs _ xs ow1 H1 vs Q exs (AvA.sv R1 p1) R1.trk fun p us hp rp => go_new R1 q (fun x h => g1.dom x h) hp rp
theorem mo_bltT {T : String} {x : Str} {p : Pos} {r : List V → Hp → VK → Prop} {g : List Sl → Option (List D)} {m : M (List AV)} (hc : CallR X (.type T) r) (hs : BltF X.K ca r g) (ha : MA ca X (e :: es) m) (hm : X.mg x = none) (hv : bootBuiltins x = some (.type T)) (hg : Gl X x := by rfl)
    (hn : x ≠ "__name__" := by decide) (hdb : (x == ("__debug__" : Str)) = false := by decide)
    (he : starEach (e :: es) X.env = (false, eval e X.env) :: starEach es X.env := by rfl) (hpl : (backTo pos (starEach es X.env)).any (·.1) = false := by rfl) : MO ca X (.Call (.Name x p) (e :: es) [] pos) (oBlt g m) := fun F W tk =>
  PE.imp (pe_callTy hc hg hm hv (ha F W tk) hn hdb he hpl) fun σ H Q ⟨ow, env, R, gg⟩ => go_bind R gg fun as e1 vs ow1 H1 g1 R1 p1 q1 => by
    obtain ⟨z, ez, q⟩ := lift_go q1
    obtain ⟨xs, exs, rfl⟩ := Option.map_eq_some_iff.mp ez
    exact hs _ xs ow1 H1 vs Q exs (AvA.sv R1 p1) R1.trk fun p us hp rp => go_new R1 q (fun x h => g1.dom x h) hp rp
/-! ### subscripts -/
theorem me_ix {r : R2} {g : Sl → Sl → Option D} {ma mb : M AV} (hr : IxR X r) (hs : OpS X.K ca r g) (ha : MQ ca X a ma) (hb : MQ ca X b mb) (hp : PlainIx b := by intro _ _; rfl) : ME ca X (.Subscript a b pos) (e2 g ma mb) := fun F W tk =>
  PE.imp (pe_ix hr (ha F W tk) (hb F W tk) hp) fun σ H Q h => two_go h fun x y v1 v2 ow e H1 Hs R p1 p2 q => by
    obtain ⟨z, ez, q⟩ := lift_go q
    exact hs _ _ z ow H1 v1 v2 Q ez (fun n => p1.sv R n) (fun n => p2.sv R n) R.trk fun v H' gr rp => go_val R q gr rp
/-! ### slices -/
def tPt (K : PySem.W.Frag) (ca : CA) (F : Fr) (W : WX) (m : M (Option Int)) : TO := tG K ca F W (fun (a b : Option Int) _ _ _ _ _ => b = a) m
def MPt (ca : CA) (X : Cx) (e : Option Expr) (m : M (Option Int)) : Prop := ∀ F W, Tk X F W → PO X e (tPt X.K ca F W m)
def dI : D → Option Int
  | .int i => some i
  | _ => none
def ptI (m : M D) : M (Option Int) := bind m fun x => lift ((dI x).map some)
theorem dI_some {d : D} {i : Int} (h : dI d = some i) : d = .int i := by
  cases d <;> first | cases h | skip
  rfl
theorem PO.imp {e : Option Expr} {t t' : TO} (h : PO X e t) (k : ∀ σ H Q, t' σ H Q → t σ H Q) : PO X e t' := ⟨fun pins s σ H Q I q => h.run pins s σ H Q I (k _ _ _ q)⟩
theorem mpt_none : MPt ca X none (ret none) := fun F W tk => PO.imp po_none fun σ H Q ⟨ow, env, R, g⟩ => g none ow H Go.refl R rfl
theorem mpt_some {m : M D} (h : ME ca X a m) : MPt ca X (some a) (ptI m) := fun F W tk => PO.imp (po_some (h F W tk)) fun σ H Q ⟨ow, env, R, g⟩ => go_bind R g fun x e1 v ow1 H1 g1 R1 p1 q1 => by
  obtain ⟨z, ez, q⟩ := lift_go q1
  obtain ⟨i, ei, rfl⟩ := Option.map_eq_some_iff.mp ez
  have ed := dI_some ei
  subst ed
  have p1' : Rp X.K ow1 H1 (.int i) v := p1
  unfold Rp at p1'
  exact ⟨i, p1', q _ ow1 H1 Go.refl R1 rfl⟩
def SlS (K : PySem.W.Frag) (ca : CA) (r : V → Option Int → Option Int → Hp → VK → Prop) (g : Sl → Option Int → Option Int → Option D) : Prop :=
  ∀ s lo hi z ow H v Q, g s lo hi = some z → (s ≠ .un → SvR K ca ow H s v) → Trk ow H → (∀ v H', Gr H H' → Rp K ow H' z v → Q v H') → r v lo hi H Q
def SlF (K : PySem.W.Frag) (ca : CA) (r : V → Option Int → Option Int → Hp → VK → Prop) (g : Sl → Option Int → Option Int → Option (List D)) : Prop :=
  ∀ s lo hi z ow H v Q, g s lo hi = some z → (s ≠ .un → SvR K ca ow H s v) → Trk ow H → (∀ p us, H p = none → RpA K ow H z us → Q (.ref p) (upd H p (.lst us))) → r v lo hi H Q
def eSl (g : Sl → Option Int → Option Int → Option D) (m : M AV) (ml mh : M (Option Int)) : M D := bind m fun a => bind ml fun lo => bind mh fun hi => fun e => lift (g (content e a) lo hi) e
def oSl (g : Sl → Option Int → Option Int → Option (List D)) (m : M AV) (ml mh : M (Option Int)) : M Ob := bind m fun a => bind ml fun lo => bind mh fun hi => fun e => lift ((g (content e a) lo hi).map Ob.lst) e
theorem me_slice {lo hi : Option Expr} {p2 : Pos} {r : V → Option Int → Option Int → Hp → VK → Prop} {g : Sl → Option Int → Option Int → Option D} {m : M AV} {ml mh : M (Option Int)} (hr : L2.SlR X r) (hs : SlS X.K ca r g) (ha : MQ ca X a m) (hl : MPt ca X lo ml) (hh : MPt ca X hi mh) :
    ME ca X (.Subscript a (.Slice lo hi none p2) pos) (eSl g m ml mh) := fun F W tk => PE.imp (pe_slice hr (ha F W tk) (hl F W tk) (hh F W tk)) fun σ H Q ⟨ow, env, R, gg⟩ =>
  go_bind R gg fun x e1 v ow1 H1 g1 R1 p1 q1 => go_bind R1 q1 fun l e2 l' ow2 H2 g2 R2 el q2 => go_bind R2 q2 fun h e3 h' ow3 H3 g3 R3 eh q3 => by
    subst el
    subst eh
    obtain ⟨z, ez, q⟩ := lift_go q3
    exact hs _ _ _ z ow3 H3 v Q ez (fun n => ((p1.1.go g2).go g3).sv R3 n) R3.trk fun v H' gr rp => go_val R3 q gr rp
theorem mo_slice {lo hi : Option Expr} {p2 : Pos} {r : V → Option Int → Option Int → Hp → VK → Prop} {g : Sl → Option Int → Option Int → Option (List D)} {m : M AV} {ml mh : M (Option Int)} (hr : L2.SlR X r) (hs : SlF X.K ca r g) (ha : MQ ca X a m) (hl : MPt ca X lo ml) (hh : MPt ca X hi mh) :
    MO ca X (.Subscript a (.Slice lo hi none p2) pos) (oSl g m ml mh) := fun F W tk => PE.imp (pe_slice hr (ha F W tk) (hl F W tk) (hh F W tk)) fun σ H Q ⟨ow, env, R, gg⟩ =>
  go_bind R gg fun x e1 v ow1 H1 g1 R1 p1 q1 => go_bind R1 q1 fun l e2 l' ow2 H2 g2 R2 el q2 => go_bind R2 q2 fun h e3 h' ow3 H3 g3 R3 eh q3 => by
    subst el
    subst eh
    obtain ⟨z, ez, q⟩ := lift_go q3
    obtain ⟨xs, exs, rfl⟩ := Option.map_eq_some_iff.mp ez
    exact hs _ _ _ xs ow3 H3 v Q exs (fun n => ((p1.1.go g2).go g3).sv R3 n) R3.trk fun p us hp rp => go_new R3 q (fun x h => g1.dom x (g2.dom x (g3.dom x h))) hp rp
end
end ML
end

section
set_option Elab.async false
set_option linter.all false
set_option maxRecDepth 100000
set_option maxHeartbeats 2000000
/-! # Statements; a def by its body; a call -/
namespace ML
open PySem L2
open PyProof.Rows (envOfC)

/-- what a def hands back: data, or a fresh object -/
inductive RV where
  | d (x : D)
  | o (k : Ob)
/-- what comes of a statement -/
inductive SR where
  | nx (e : List Sl)
  | rt (r : RV) (e : List Sl)
  | bk (e : List Sl)
  | ct (e : List Sl)
  | ex (c : Str) (e : List Sl)
  | bad
abbrev MStm := List Sl → SR

def GoS (K : PySem.W.Frag) (ca : CA) (F : Fr) (W : WX) (ow : Addr → Prop) (H : Hp) (Dn : Ends) : SR → Prop
  | .nx e => ∀ σ' ow' H', Stp ow H ow' H' → Rel K ca F ow' e σ' H' → Dn.nx σ' H'
  | .bk e => ∀ σ' ow' H', Stp ow H ow' H' → Rel K ca F ow' e σ' H' → Dn.bk σ' H'
  | .ct e => ∀ σ' ow' H', Stp ow H ow' H' → Rel K ca F ow' e σ' H' → Dn.ct σ' H'
  | .rt (.d x) e => ∀ v σ' ow' H', Stp ow H ow' H' → Rel K ca F ow' e σ' H' → Rp K ow' H' x v → Dn.rt v H'
  | .rt (.o k) e => ∀ p σ' ow' H', Stp ow H ow' H' → Rel K ca F ow' e σ' H' → OwnR K ca ow' H' p k → Loose F ow' e σ' p → Dn.rt (.ref p) H'
  | .ex c e => ∀ σ' ow' H', Stp ow H ow' H' → Rel K ca F ow' e σ' H' → WSat ca W c σ' H'
  | .bad => False
def tS (K : PySem.W.Frag) (ca : CA) (F : Fr) (W : WX) (m : MStm) : TS := fun Dn σ H => ∃ ow env, Rel K ca F ow env σ H ∧ GoS K ca F W ow H Dn (m env)
def MS (ca : CA) (X : Cx) (st : Stmt) (m : MStm) : Prop := ∀ F W, Tk X F W → PassesOwn (model X.prog X.w) X.A X.env X.xe → PS X st (tS X.K ca F W m)
def MSs (ca : CA) (X : Cx) (st : List Stmt) (m : MStm) : Prop := ∀ F W, Tk X F W → PassesOwn (model X.prog X.w) X.A X.env X.xe → PSs X st (tS X.K ca F W m)

section
variable {K : PySem.W.Frag} {ca : CA} {F : Fr} {W : WX} {ow ow1 : Addr → Prop} {H H1 : Hp} {Dn : Ends} {env : List Sl} {σ : St}
theorem GoS.mono {r : SR} (s : Stp ow H ow1 H1) (h : GoS K ca F W ow H Dn r) : GoS K ca F W ow1 H1 Dn r := by
  cases r with
  | nx e => exact fun σ' ow' H' s' R => h σ' ow' H' (s.trans s') R
  | bk e => exact fun σ' ow' H' s' R => h σ' ow' H' (s.trans s') R
  | ct e => exact fun σ' ow' H' s' R => h σ' ow' H' (s.trans s') R
  | rt r e =>
    cases r with
    | d x => exact fun v σ' ow' H' s' R => h v σ' ow' H' (s.trans s') R
    | o k => exact fun p σ' ow' H' s' R => h p σ' ow' H' (s.trans s') R
  | ex c e => exact fun σ' ow' H' s' R => h σ' ow' H' (s.trans s') R
  | bad => exact h
/-- an expression, then a statement's rest -/
def xS {α : Type} (m : M α) (f : α → MStm) : MStm := fun e => match m e with
  | .ok a e' => f a e'
  | .ex c e' => .ex c e'
  | .bad => .bad
theorem go_stm {α β : Type} {P : PP α β} {m : M α} {f : α → MStm} {C : β → Hp → Prop} (R : Rel K ca F ow env σ H) (h : GoS K ca F W ow H Dn (xS m f env))
    (k : ∀ a e b ow1 H1, Go σ ow env H ow1 e H1 → Rel K ca F ow1 e σ H1 → P a b H ow1 H1 e σ → GoS K ca F W ow1 H1 Dn (f a e) → C b H1) : tG K ca F W P m σ H C := by
  refine ⟨ow, env, R, ?_⟩
  unfold xS at h
  cases hm : m env with
  | ok a e =>
    rw [hm] at h
    exact fun b ow1 H1 g R1 p => k a e b ow1 H1 g R1 p (h.mono g.stp)
  | ex c e => rw [hm] at h; exact fun ow' H' s' R' => h σ ow' H' s' R'
  | bad => rw [hm] at h; exact h
end

section
variable {ca : CA} {X : Cx} {pos : Pos} {e a b c : Expr} {es : List Expr} {st : Stmt} {rest : List Stmt}
/-! ### blocks -/
def sNil : MStm := fun e => .nx e
def sSeq (m n : MStm) : MStm := fun e => match m e with
  | .nx e' => n e'
  | r => r
theorem mss_nil : MSs ca X [] sNil := fun F W tk hp => PSs.imp pss_nil fun Dn σ H ⟨ow, env, R, g⟩ => g σ ow H Stp.refl R
theorem mss_cons {m n : MStm} (h1 : MS ca X st m) (h2 : MSs ca X rest n) : MSs ca X (st :: rest) (sSeq m n) := fun F W tk hp => PSs.imp (pss_cons (h1 F W tk hp) (h2 F W tk hp)) fun Dn σ H ⟨ow, env, R, g⟩ => by
  refine ⟨ow, env, R, ?_⟩
  unfold sSeq at g
  cases hm : m env with
  | nx e =>
    rw [hm] at g
    exact fun σ' ow' H' s' R' => ⟨ow', e, R', GoS.mono s' g⟩
  | bk e => rw [hm] at g; exact g
  | ct e => rw [hm] at g; exact g
  | rt r e => rw [hm] at g; cases r <;> exact g
  | ex c e => rw [hm] at g; exact g
  | bad => rw [hm] at g; exact g
theorem mss_one {m : MStm} (h1 : MS ca X st m) : MSs ca X [st] m := fun F W tk hp => pss_one (h1 F W tk hp)
theorem ms_pass : MS ca X (.Pass pos) sNil := fun F W tk hp => PS.imp ps_pass fun Dn σ H ⟨ow, env, R, g⟩ => g σ ow H Stp.refl R
def sBk : MStm := fun e => .bk e
def sCt : MStm := fun e => .ct e
theorem ms_break : MS ca X (.Break pos) sBk := fun F W tk hp => PS.imp ps_break fun Dn σ H ⟨ow, env, R, g⟩ => g σ ow H Stp.refl R
theorem ms_continue : MS ca X (.Continue pos) sCt := fun F W tk hp => PS.imp ps_continue fun Dn σ H ⟨ow, env, R, g⟩ => g σ ow H Stp.refl R
/-! ### return -/
def sRet (m : M D) : MStm := xS m fun x e => .rt (.d x) e
def sRetO (m : M Ob) : MStm := xS m fun k e => .rt (.o k) e
theorem ms_ret {m : M D} (h : ME ca X e m) : MS ca X (.Return (some e) pos) (sRet m) := fun F W tk hp => PS.imp (ps_ret (h F W tk)) fun Dn σ H ⟨ow, env, R, g⟩ =>
  go_stm R g fun x e1 v ow1 H1 g1 R1 p1 q1 => q1 v σ ow1 H1 Stp.refl R1 p1
theorem ms_retO {m : M Ob} (h : MO ca X e m) : MS ca X (.Return (some e) pos) (sRetO m) := fun F W tk hp => PS.imp (ps_ret (h F W tk)) fun Dn σ H ⟨ow, env, R, g⟩ =>
  go_stm R g fun x e1 v ow1 H1 g1 R1 ⟨p, ev, n, r, L⟩ q1 => by
    rw [ev]
    exact q1 p σ ow1 H1 Stp.refl R1 r L
theorem ms_retN : MS ca X (.Return none pos) (fun e => .rt (.d .none) e) := fun F W tk hp => PS.imp ps_retN fun Dn σ H ⟨ow, env, R, g⟩ => g .non σ ow H Stp.refl R (by unfold Rp; rfl)
/-- return of a name: its own object goes out fresh, data as data -/
def sRetV (i : Nat) : MStm := fun e => match e[i]? with
  | some (.d x) => .rt (.d x) e
  | some (.o true k) => .rt (.o k) (e.set i .un)
  | _ => .bad
theorem ms_retV (i : Nat) {x : Str} {p : Pos} (hN : X.N[i]? = some x := by rfl) (hv : Vis X.env.scope x := by first | exact Or.inl rfl | exact Or.inr (Or.inl rfl) | exact Or.inr (Or.inr rfl)) (hd : (x == ("__debug__" : Str)) = false := by decide)
    (hcd : (x == ("__classdict__" : Str)) = false := by decide) : MS ca X (.Return (some (.Name x p)) pos) (sRetV i) := fun F W tk hp => PS.imp (ps_ret (pe_var hN hv hd hcd)) fun Dn σ H ⟨ow, env, R, g⟩ => by
  unfold sRetV at g
  split at g
  · rename_i x e
    obtain ⟨v, h1, h2⟩ := R.data e
    exact ⟨v, h1, g v σ ow H Stp.refl R h2⟩
  · rename_i k e
    obtain ⟨q, h1, h2, h3, h4⟩ := R.let_ e
    exact ⟨.ref q, h1, g q σ ow H Stp.refl h3 h2 h4⟩
  · exact g.elim
/-! ### if -/
def sIf (t : M Bool) (m n : MStm) : MStm := xS t fun b => if b = true then m else n
theorem ms_if {p q : List Stmt} {t : M Bool} {m n : MStm} (hc : MT ca X c t) (h1 : MSs ca X p m) (h2 : MSs ca X q n) : MS ca X (.If c p q pos) (sIf t m n) := fun F W tk hp => PS.imp (ps_if (hc F W tk) (h1 F W tk hp) (h2 F W tk hp)) fun Dn σ H ⟨ow, env, R, g⟩ =>
  go_stm R g fun x e1 v ow1 H1 g1 R1 p1 q1 => by
    have p1' : v = x := p1
    subst p1'
    cases v with
    | true => rw [if_pos rfl] at q1 ⊢; exact ⟨ow1, e1, R1, q1⟩
    | false => rw [if_neg Bool.false_ne_true] at q1 ⊢; exact ⟨ow1, e1, R1, q1⟩
/-! ### assignment -/
def sSet (i : Nat) (m : M D) : MStm := xS m fun x e => .nx (e.set i (.d x))
def sSetO (i : Nat) (m : M Ob) : MStm := xS m fun k e => .nx (e.set i (.o true k))
theorem ms_set (i : Nat) {x : Str} {p : Pos} {m : M D} (h : ME ca X e m) (hN : X.N.Nodup) (hi : X.N[i]? = some x := by rfl) (hx : Loc X.env.scope x := by first | exact Or.inl rfl | exact Or.inr rfl) (hf : X.fn x = true ∨ X.env.scope.names.lookup x = some .local := by first | exact .inl rfl | exact .inr rfl)
    (hs : swapsWithSole [.Name x p] e pos.line X.env = pure false := by rfl) : MS ca X (.Assign [.Name x p] e pos) (sSet i m) := fun F W tk hp => PS.imp (ps_set (i := i) hN hi hx (h F W tk) hs hf) fun Dn σ H ⟨ow, env, R, g⟩ =>
  go_stm R g fun x e1 v ow1 H1 g1 R1 p1 q1 => q1 (σ.set i (some v)) ow1 H1 Stp.refl (R1.set p1)
theorem ms_setO (i : Nat) {x : Str} {p : Pos} {m : M Ob} (h : MO ca X e m) (hN : X.N.Nodup) (hi : X.N[i]? = some x := by rfl) (hx : Loc X.env.scope x := by first | exact Or.inl rfl | exact Or.inr rfl) (hf : X.fn x = true ∨ X.env.scope.names.lookup x = some .local := by first | exact .inl rfl | exact .inr rfl)
    (hs : swapsWithSole [.Name x p] e pos.line X.env = pure false := by rfl) : MS ca X (.Assign [.Name x p] e pos) (sSetO i m) := fun F W tk hp => PS.imp (ps_set (i := i) hN hi hx (h F W tk) hs hf) fun Dn σ H ⟨ow, env, R, g⟩ =>
  go_stm R g fun x e1 v ow1 H1 g1 R1 ⟨p, ev, n, r, L⟩ q1 => by
    rw [ev]
    exact q1 (σ.set i (some (.ref p))) ow1 H1 Stp.refl (R1.setO L r)
/-- an expression alone -/
def sDrop (m : M D) : MStm := xS m fun _ e => .nx e
theorem ms_expr {m : M D} (h : ME ca X e m) (hs : swapsWith e none pos.line X.env = pure false := by rfl) : MS ca X (.Expr e pos) (sDrop m) := fun F W tk hp => PS.imp (ps_expr (h F W tk) hs) fun Dn σ H ⟨ow, env, R, g⟩ =>
  go_stm R g fun x e1 v ow1 H1 g1 R1 p1 q1 => q1 σ ow1 H1 Stp.refl R1
end

/-! ### a def's promise, by a plain function of its arguments -/
inductive CR where
  | ok (r : RV) (outs : List Sl)
  | ex (c : Str) (outs : List Sl)
  | bad
def argOf : Sl → Sl
  | .o _ k => .o false k
  | s => s
structure ArgsOk (K : PySem.W.Frag) (ca : CA) (ow : Addr → Prop) (H : Hp) (args : List Sl) (vs : List V) : Prop where
  len : args.length = vs.length
  sl : ∀ (i : Nat) (s : Sl) (v : V), args[i]? = some s → vs[i]? = some v → SvR K ca ow H s v
  own : ∀ (i : Nat) (k : Ob), args[i]? ≠ some (.o true k)
  dis : ∀ (i j : Nat) (p : Addr) (k k' : Ob), args[i]? = some (.o false k) → args[j]? = some (.o false k') → vs[i]? = some (.ref p) → vs[j]? = some (.ref p) → i = j
def IoA (args : List Sl) (vs : List V) (a : Addr) : Prop := ∃ (i : Nat) (k : Ob), args[i]? = some (.o false k) ∧ vs[i]? = some (.ref a)
structure Kept (H H' : Hp) (args : List Sl) (vs : List V) : Prop where
  keep : ∀ a o, H a = some o → ¬ IoA args vs a → H' a = some o
  dom : ∀ a, H' a = none → H a = none
def OutsOk (K : PySem.W.Frag) (ca : CA) (ow : Addr → Prop) (H' : Hp) (args : List Sl) (vs : List V) (outs : List Sl) : Prop :=
  ∀ (i : Nat) (k : Ob) (p : Addr), args[i]? = some (.o false k) → vs[i]? = some (.ref p) → ∃ k', outs[i]? = some (.o false k') ∧ OwnR K ca ow H' p k'
def GoC (K : PySem.W.Frag) (ca : CA) (ow : Addr → Prop) (H : Hp) (args : List Sl) (vs : List V) (Q : VK) (E : XK) : CR → Prop
  | .ok (.d x) outs => ∀ v H', Kept H H' args vs → OutsOk K ca ow H' args vs outs → Rp K ow H' x v → Q v H'
  | .ok (.o k) outs => ∀ p H', Kept H H' args vs → H p = none → (∃ o, H' p = some o) → OutsOk K ca (more ow p) H' args vs outs → OwnR K ca (more ow p) H' p k → Q (.ref p) H'
  | .ex c outs => ∀ H', Kept H H' args vs → OutsOk K ca ow H' args vs outs → E (.ref (ca c)) none H'
  | .bad => False
def spM (K : PySem.W.Frag) (ca : CA) (n : Nat) (mf : List Sl → CR) : Sp := fun vs H Q E => ∃ ow args, vs.length = n ∧ ArgsOk K ca ow H args vs ∧ Trk ow H ∧ GoC K ca ow H args vs Q E (mf args)
/-- what is passed to be changed still stands in its slot -/
def ioOk (args e : List Sl) : Bool := (List.range args.length).all fun i => match args[i]? with
  | some (.o _ _) => match e[i]? with
    | some (.o false _) => true
    | _ => false
  | _ => true
def runBody (n N : Nat) (m : MStm) (args : List Sl) : CR := if args.length = n then match m (args ++ List.replicate (N - n) .un) with
    | .nx e => if ioOk args e = true then .ok (.d .none) (e.take n) else .bad
    | .rt r e => if ioOk args e = true then .ok r (e.take n) else .bad
    | .ex c e => if ioOk args e = true then .ex c (e.take n) else .bad
    | _ => .bad
  else .bad
section
variable {K : PySem.W.Frag} {ca : CA} {ow ow' : Addr → Prop} {H H' : Hp} {args e : List Sl} {vs : List V} {σ : St}
theorem anti (h : ∀ a, ow a → ow' a) : Stp ow' H ow H := fun a o e n => ⟨e, fun z => n (h a z)⟩
theorem ArgsOk.rel {N : List Str} (A : ArgsOk K ca ow H args vs) (tr : Trk ow H) (hN : vs.length ≤ N.length) : Rel K ca ⟨H, ow, IoA args vs, vs, 0⟩ ow (args ++ List.replicate (N.length - vs.length) .un) (L2.start N vs) H where
  len := by unfold L2.start; simp [A.len]
  sl := fun i s v h1 h2 => by
    by_cases hi : i < args.length
    · rw [List.getElem?_append_left hi] at h1
      unfold L2.start at h2
      rw [List.getElem?_append_left (by simpa using (A.len ▸ hi)), List.getElem?_map] at h2
      cases hv : vs[i]? with
      | none => rw [hv] at h2; cases h2
      | some u =>
        rw [hv] at h2
        cases h2
        have q := A.sl i s u h1 hv
        cases s with
        | un => exact q.elim
        | d x => exact ⟨u, rfl, q⟩
        | o l k =>
          cases l with
          | true => exact absurd h1 (A.own i k)
          | false => obtain ⟨p, rfl, w, r⟩ := q; exact ⟨p, rfl, w, r, ⟨i, k, h1, hv⟩, hv⟩
        | sc ns => obtain ⟨a, rfl, r⟩ := q; exact ⟨a, rfl, r⟩
        | xc => exact q.elim
    · rw [List.getElem?_append_right (by omega), List.getElem?_replicate] at h1
      split at h1
      · cases h1; exact True.intro
      · cases h1
  dis := fun i j p l l' k k' h1 h2 h3 h4 => by
    have at_ : ∀ {i : Nat} {l : Bool} {k : Ob} {p : Addr}, (args ++ List.replicate (N.length - vs.length) Sl.un)[i]? = some (Sl.o l k) → (L2.start N vs)[i]? = some (some (V.ref p)) → args[i]? = some (.o false k) ∧ vs[i]? = some (.ref p) := fun {i l k p} a b => by
      by_cases hi : i < args.length
      · rw [List.getElem?_append_left hi] at a
        unfold L2.start at b
        rw [List.getElem?_append_left (by simpa using (A.len ▸ hi)), List.getElem?_map] at b
        cases hv : vs[i]? with
        | none => rw [hv] at b; cases b
        | some u =>
          rw [hv] at b
          cases b
          cases l with
          | true => exact absurd a (A.own i k)
          | false => exact ⟨a, rfl⟩
      · rw [List.getElem?_append_right (by omega), List.getElem?_replicate] at a
        split at a <;> cases a
    obtain ⟨a1, b1⟩ := at_ h1 h3
    obtain ⟨a2, b2⟩ := at_ h2 h4
    exact A.dis i j p k k' a1 a2 b1 b2
  keep := fun _ _ h _ => h
  dom := fun _ h => h
  sub := fun _ h => h
  trk := tr
theorem outs_of {n : Nat} (R : Rel K ca ⟨H, ow, IoA args vs, vs, 0⟩ ow' e σ H') (hn : args.length = n) (io : ioOk args e = true) {w : Addr → Prop} (sub : ∀ a, w a → ow' a) : OutsOk K ca w H' args vs (e.take n) := fun i k p h1 h2 => by
  have hi : i < args.length := (List.getElem?_eq_some_iff.mp h1).1
  have q := (List.all_eq_true.mp io) i (List.mem_range.mpr hi)
  simp only [h1] at q
  split at q
  · rename_i k' he
    obtain ⟨v, ev, p', rfl, w', r, _, hv⟩ := SlR.at R he
    have hp : some (V.ref p') = some (V.ref p) := hv.symm.trans h2
    cases hp
    exact ⟨k', by rw [List.getElem?_take, if_pos (by omega)]; exact he, r.stp (anti sub) rfl⟩
  · cases q
theorem Rel.kept (R : Rel K ca ⟨H, ow, IoA args vs, vs, 0⟩ ow' e σ H') : Kept H H' args vs := ⟨R.keep, R.dom⟩
end
section
variable {P : Program} {w : World} {K : PySem.W.Frag} {mg : Str → Option Value} {base : Heap} {ca : CA}
/-- a def keeps the promise of its body's function -/
theorem fnM {x qual : Str} {st : Stmt} {f : Addr} {fd : FuncData} {N ps : List Str} {k : Nat} {m : MStm} (Fn : Fun K x qual st f fd) (S : FnScope N ps (defScope st)) (hl : ps.length ≤ N.length := by decide)
    (hbody : ∀ (cdv : Value) (A : Around) (outer : List Env) (s : Shared) (H : Hp) (E : XK), Room k (A.deeper (envOfC qual (defScope st) s.heap.objs.size f cdv)) → MSs ca (cxOf (L2.CX P w) P w K mg base N qual (defScope st) f cdv A outer s H E) (defBody st) m) :
    FnOk P w K mg base (L2.CX P w) (k + 1) f fd ps (spM K ca ps.length (runBody ps.length N.length m)) := by
  refine Fn.okX S (fun vs H Q E ⟨_, _, h, _⟩ => h) fun cdv A outer s H vs Q E hr ⟨ow, args, hv, AO, tr, g⟩ => ?_
  have hp : PassesOwn (model P w) (cxOf (L2.CX P w) P w K mg base N qual (defScope st) f cdv A outer s H E).A (cxOf (L2.CX P w) P w K mg base N qual (defScope st) f cdv A outer s H E).env (cxOf (L2.CX P w) P w K mg base N qual (defScope st) f cdv A outer s H E).xe := PassesOwn.leaving
  refine ⟨_, hbody cdv A outer s H E hr ⟨H, ow, IoA args vs, vs, 0⟩ (fun cls d _ H => E cls d H) ⟨takes_of rfl rfl rfl rfl, fun a h => by have z := hr.hd; rw [show (A.deeper (envOfC qual (defScope st) s.heap.objs.size f cdv)).handled = some (.ref a) from h] at z; cases z⟩ hp, ?_⟩
  have ha : args.length = ps.length := AO.len.trans hv
  refine ⟨ow, _, AO.rel tr (by omega), ?_⟩
  show GoS K ca _ _ ow H _ _
  unfold runBody at g
  rw [if_pos ha] at g
  rw [← hv] at g
  rw [hv] at g ⊢
  cases hm : m (args ++ List.replicate (N.length - ps.length) .un) with
  | nx e =>
    rw [hm] at g
    dsimp only at g
    by_cases io : ioOk args e = true
    · rw [if_pos io] at g
      exact fun σ' ow' H' s' R' => g .non H' R'.kept (outs_of R' ha io R'.sub) (by unfold Rp; rfl)
    · rw [if_neg io] at g; exact g.elim
  | rt r e =>
    rw [hm] at g
    dsimp only at g
    by_cases io : ioOk args e = true
    · rw [if_pos io] at g
      cases r with
      | d x => exact fun v σ' ow' H' s' R' rp => g v H' R'.kept (outs_of R' ha io R'.sub) (rp.stp (anti R'.sub))
      | o k =>
        intro p σ' ow' H' s' R' ro L
        have sub : ∀ a, more ow p a → ow' a := fun a z => by
          rcases z with z | z
          · exact R'.sub a z
          · rw [z]; exact L.1
        exact g p H' R'.kept L.2.1 ro.there (outs_of R' ha io sub) (ro.stp (anti sub) rfl)
    · rw [if_neg io] at g; exact g.elim
  | ex c e =>
    rw [hm] at g
    dsimp only at g
    by_cases io : ioOk args e = true
    · rw [if_pos io] at g
      exact fun σ' ow' H' s' R' => g H' R'.kept (outs_of R' ha io R'.sub)
    · rw [if_neg io] at g; exact g.elim
  | bk e => rw [hm] at g; exact g.elim
  | ct e => rw [hm] at g; exact g.elim
  | bad => rw [hm] at g; exact g.elim
end
end ML
end

section
set_option Elab.async false
set_option linter.all false
set_option maxRecDepth 100000
set_option maxHeartbeats 2000000
/-! # A call of a def -/
namespace ML
open PySem L2
open PyProof.Rows (envOfC)

/-- which argument is an object of a slot: at most one is -/
def ios (e : List Sl) : List AV → Nat → Option (Option (Nat × Nat))
  | [], _ => some none
  | .fr _ :: _, _ => none
  | .d _ :: r, i => ios e r (i + 1)
  | .ref j :: r, i => match e[j]? with
    | some (.o _ _) => match ios e r (i + 1) with
      | some none => some (some (i, j))
      | _ => none
    | some (.d _) => ios e r (i + 1)
    | some (.sc _) => ios e r (i + 1)
    | _ => none
theorem ios_none {e : List Sl} : ∀ {as : List AV} {n : Nat}, ios e as n = some none → ∀ (i : Nat) (l : Bool) (k : Ob), (contents e as)[i]? ≠ some (Sl.o l k) ∧ (contents e as)[i]? ≠ some Sl.un
  | [], _, _, i, l, k => by simp [contents]
  | .fr _ :: _, _, h, _, _, _ => by cases h
  | .d x :: r, n, h, i, l, k => by
    unfold ios at h
    cases i with
    | zero => exact ⟨fun z => (by cases z), fun z => (by cases z)⟩
    | succ i => exact ios_none (as := r) h i l k
  | .ref j :: r, n, h, i, l, k => by
    unfold ios at h
    have hc : content e (.ref j) = clean (e.getD j .un) := rfl
    have go : ∀ {s : Sl}, e[j]? = some s → content e (.ref j) = clean s := fun {s} he => by rw [hc, List.getD_eq_getElem?_getD, he]; rfl
    split at h
    · split at h <;> cases h
    · rename_i x he
      cases i with
      | zero => exact ⟨fun z => (by rw [contents, List.map_cons, List.getElem?_cons_zero, go he] at z; cases z), fun z => (by rw [contents, List.map_cons, List.getElem?_cons_zero, go he] at z; cases z)⟩
      | succ i => exact ios_none (as := r) h i l k
    · rename_i x he
      cases i with
      | zero => exact ⟨fun z => (by rw [contents, List.map_cons, List.getElem?_cons_zero, go he] at z; cases z), fun z => (by rw [contents, List.map_cons, List.getElem?_cons_zero, go he] at z; cases z)⟩
      | succ i => exact ios_none (as := r) h i l k
    · cases h
theorem ios_one {e : List Sl} {i0 j : Nat} : ∀ {as : List AV} {n : Nat}, ios e as n = some (some (i0, j)) → n ≤ i0 ∧ as[i0 - n]? = some (.ref j) ∧ (∃ l k, e[j]? = some (.o l k)) ∧ ∀ (i : Nat), (∀ (l : Bool) (k : Ob), (contents e as)[i]? = some (Sl.o l k) → i = i0 - n) ∧ (contents e as)[i]? ≠ some Sl.un
  | [], _, h => by cases h
  | .fr _ :: _, _, h => by cases h
  | .d x :: r, n, h => by
    unfold ios at h
    obtain ⟨h1, h2, h3, h4⟩ := ios_one (as := r) h
    refine ⟨by omega, ?_, h3, fun i => ?_⟩
    · have : i0 - n = (i0 - (n + 1)) + 1 := by omega
      rw [this, List.getElem?_cons_succ]; exact h2
    · cases i with
      | zero => exact ⟨fun l k z => (by cases z), fun z => (by cases z)⟩
      | succ i => exact ⟨fun l k z => by have := (h4 i).1 l k z; omega, (h4 i).2⟩
  | .ref j' :: r, n, h => by
    unfold ios at h
    have hc : content e (.ref j') = clean (e.getD j' .un) := rfl
    have go : ∀ {s : Sl}, e[j']? = some s → content e (.ref j') = clean s := fun {s} he => by rw [hc, List.getD_eq_getElem?_getD, he]; rfl
    have step : ∀ {s : Sl}, e[j']? = some s → (∀ l k, clean s ≠ .o l k) → clean s ≠ .un → ios e r (n + 1) = some (some (i0, j)) → n ≤ i0 ∧ (AV.ref j' :: r)[i0 - n]? = some (.ref j) ∧ (∃ l k, e[j]? = some (.o l k)) ∧ ∀ (i : Nat), (∀ (l : Bool) (k : Ob), (contents e (AV.ref j' :: r))[i]? = some (Sl.o l k) → i = i0 - n) ∧ (contents e (AV.ref j' :: r))[i]? ≠ some Sl.un := fun {s} he ns nu h => by
      obtain ⟨h1, h2, h3, h4⟩ := ios_one (as := r) h
      refine ⟨by omega, ?_, h3, fun i => ?_⟩
      · have : i0 - n = (i0 - (n + 1)) + 1 := by omega
        rw [this, List.getElem?_cons_succ]; exact h2
      · cases i with
        | zero => exact ⟨fun l k z => (by rw [contents, List.map_cons, List.getElem?_cons_zero, go he] at z; exact absurd (Option.some.inj z) (ns l k)), fun z => by rw [contents, List.map_cons, List.getElem?_cons_zero, go he] at z; exact nu (Option.some.inj z)⟩
        | succ i => exact ⟨fun l k z => by have := (h4 i).1 l k z; omega, (h4 i).2⟩
    split at h
    · rename_i l k he
      split at h
      · rename_i hr
        cases h
        refine ⟨Nat.le_refl _, by rw [Nat.sub_self]; rfl, ⟨l, k, he⟩, fun i => ?_⟩
        cases i with
        | zero => exact ⟨fun _ _ _ => by rw [Nat.sub_self], fun z => by rw [contents, List.map_cons, List.getElem?_cons_zero, go he] at z; cases z⟩
        | succ i => exact ⟨fun l k z => absurd z (ios_none hr i l k).1, (ios_none hr i false (.lst [])).2⟩
      · cases h
    · rename_i x he
      exact step he (fun _ _ z => by cases z) (fun z => by cases z) h
    · rename_i x he
      exact step he (fun _ _ z => by cases z) (fun z => by cases z) h
    · cases h

/-- the object of slot j holds k from now on -/
def setK (e : List Sl) (j : Nat) (k : Ob) : List Sl := match e[j]? with
  | some (.o l _) => e.set j (.o l k)
  | _ => e
def outK (e : List Sl) (i j : Nat) (outs : List Sl) : Option (List Sl) := match outs[i]? with
  | some (.o _ k) => some (setK e j k)
  | _ => none
def backs (e : List Sl) (w : Option (Nat × Nat)) (outs : List Sl) : Option (List Sl) := match w with
  | none => some e
  | some (i, j) => outK e i j outs
def callM (mf : List Sl → CR) (ma : M (List AV)) : M RV := bind ma fun as => fun e => match ios e as 0 with
  | some w => match mf ((contents e as).map argOf) with
    | .ok r outs => match backs e w outs with
      | some e' => .ok r e'
      | none => .bad
    | .ex c outs => match backs e w outs with
      | some e' => .ex c e'
      | none => .bad
    | .bad => .bad
  | none => .bad
def rvD : RV → Option D
  | .d x => some x
  | .o k => obD k
def rvO : RV → Option Ob
  | .d _ => none
  | .o k => some k
def eCall (mf : List Sl → CR) (ma : M (List AV)) : M D := bind (callM mf ma) fun r => lift (rvD r)
def oCall (mf : List Sl → CR) (ma : M (List AV)) : M Ob := bind (callM mf ma) fun r => lift (rvO r)

section
variable {K : PySem.W.Frag} {ca : CA} {F : Fr} {ow ow' : Addr → Prop} {H H' Hs : Hp} {e : List Sl} {σ : St} {as : List AV} {vs : List V}
theorem SvA.get : ∀ {ss : List Sl} {vs : List V}, SvA K ca ow H ss vs → ss.length = vs.length ∧ ∀ (i : Nat) (s : Sl) (v : V), ss[i]? = some s → vs[i]? = some v → s ≠ .un → SvR K ca ow H s v
  | [], _, h => by
    unfold SvA at h
    subst h
    exact ⟨rfl, fun i s v e => by cases e⟩
  | s :: r, _, h => by
    unfold SvA at h
    obtain ⟨v, us, rfl, h1, t⟩ := h
    obtain ⟨h2, h3⟩ := SvA.get t
    refine ⟨by rw [List.length_cons, List.length_cons, h2], fun i s' v' e1 e2 n => ?_⟩
    cases i with
    | zero => cases e1; cases e2; exact h1 n
    | succ i => exact h3 i s' v' e1 e2 n
theorem AvA.get : ∀ {as : List AV} {vs : List V}, AvA K ca F Hs ow H e σ as vs → as.length = vs.length ∧ ∀ (i : Nat) (a : AV) (v : V), as[i]? = some a → vs[i]? = some v → AvR K ca F ow H e σ a v
  | [], _, h => by
    unfold AvA at h
    subst h
    exact ⟨rfl, fun i s v e => by cases e⟩
  | s :: r, _, h => by
    unfold AvA at h
    obtain ⟨v, us, rfl, h1, _, t⟩ := h
    obtain ⟨h2, h3⟩ := AvA.get t
    refine ⟨by rw [List.length_cons, List.length_cons, h2], fun i s' v' e1 e2 => ?_⟩
    cases i with
    | zero => cases e1; cases e2; exact h1
    | succ i => exact h3 i s' v' e1 e2
theorem argOf_get {ss : List Sl} {i : Nat} {s : Sl} (h : (ss.map argOf)[i]? = some s) : ∃ s0, ss[i]? = some s0 ∧ s = argOf s0 := by
  rw [List.getElem?_map] at h
  obtain ⟨s0, h1, h2⟩ := Option.map_eq_some_iff.mp h
  exact ⟨s0, h1, h2.symm⟩
theorem argsOk (R : Rel K ca F ow e σ H) (p : AvA K ca F Hs ow H e σ as vs) {w : Option (Nat × Nat)} (hi : ios e as 0 = some w) : ArgsOk K ca ow H ((contents e as).map argOf) vs := by
  obtain ⟨l1, s1⟩ := (AvA.sv R p).get
  have nu : ∀ (i : Nat), (contents e as)[i]? ≠ some Sl.un := fun i => by
    cases w with
    | none => exact (ios_none hi i false (.lst [])).2
    | some ij => obtain ⟨i0, j⟩ := ij; exact ((ios_one hi).2.2.2 i).2
  refine ⟨by rw [List.length_map]; exact l1, fun i s v h1 h2 => ?_, fun i k z => ?_, fun i j p k k' h1 h2 h3 h4 => ?_⟩
  · obtain ⟨s0, e0, rfl⟩ := argOf_get h1
    have q := s1 i s0 v e0 h2 (fun z => nu i (z ▸ e0))
    cases s0 with
    | un => exact absurd e0 (nu i)
    | d x => exact q
    | o l k => exact q
    | sc ns => exact q
    | xc => exact q.elim
  · obtain ⟨s0, e0, e1⟩ := argOf_get z
    cases s0 <;> cases e1
  · obtain ⟨s0, e0, e1⟩ := argOf_get h1
    obtain ⟨s2, e2, e3⟩ := argOf_get h2
    cases s0 with
    | o l k0 =>
      cases s2 with
      | o l2 k2 =>
        cases w with
        | none => exact absurd e0 (ios_none hi i l k0).1
        | some ij =>
          obtain ⟨i0, j0⟩ := ij
          have h := (ios_one hi).2.2.2
          rw [(h i).1 l k0 e0, (h j).1 l2 k2 e2]
      | _ => cases e3
    | _ => cases e1
theorem setK_len {j : Nat} {k : Ob} : (setK e j k).length = e.length := by
  unfold setK
  split
  · rw [List.length_set]
  · rfl
/-- behind a call: the slots -/
theorem Rel.called (R : Rel K ca F ow e σ H) (p : AvA K ca F Hs ow H e σ as vs) {w : Option (Nat × Nat)} (hi : ios e as 0 = some w) (kp : Kept H H' ((contents e as).map argOf) vs) {outs e' : List Sl} (hb : backs e w outs = some e')
    (sub : ∀ a, ow a → ow' a) (new : ∀ a, ow' a → ow a ∨ H a = none) (trk : Trk ow' H') (oo : OutsOk K ca ow' H' ((contents e as).map argOf) vs outs) :
    Rel K ca F ow' e' σ H' ∧ Go σ ow e H ow' e' H' := by
  have io_ow : ∀ a, IoA ((contents e as).map argOf) vs a → ow a := fun a ⟨i, k, h1, h2⟩ => by
    obtain ⟨q, w1, w2, _⟩ := (argsOk R p hi).sl i _ _ h1 h2
    cases w1; exact w2
  have st : Stp ow H ow' H' := fun a o h n => ⟨kp.keep a o h fun z => n (io_ow a z), fun z => by
    rcases new a z with z | z
    · exact n z
    · rw [z] at h; cases h⟩
  cases w with
  | none =>
    have noio : ∀ a, ¬ IoA ((contents e as).map argOf) vs a := fun a ⟨i, k, h1, h2⟩ => by
      obtain ⟨s0, e0, e1⟩ := argOf_get h1
      cases s0 with
      | o l k0 => exact (ios_none hi i l k0).1 e0
      | _ => cases e1
    have gr : Gr H H' := fun a o h => kp.keep a o h (noio a)
    cases hb
    refine ⟨R.step rfl (fun i s' h => .inl ⟨h, fun l k p hs hp => ?_⟩) st sub trk (fun a o h n => gr a o (R.keep a o h n)) kp.dom, st, fun q wq n => ?_, kp.dom⟩
    · subst hs
      obtain ⟨q, eq, wq, rq⟩ := R.own h
      rw [hp] at eq
      cases eq
      obtain ⟨u, hu⟩ := rq.there
      rw [gr p u hu, hu]
    · obtain ⟨u, hu⟩ := R.trk q wq
      exact ⟨sub q wq, by rw [gr q u hu, hu], n⟩
  | some ij =>
    obtain ⟨i0, j⟩ := ij
    obtain ⟨_, h2, ⟨l, k, he⟩, h4⟩ := ios_one hi
    rw [Nat.sub_zero] at h2
    obtain ⟨al, ag⟩ := p.get
    have hlt : i0 < vs.length := by rw [← al]; exact (List.getElem?_eq_some_iff.mp h2).1
    have hv0 : vs[i0]? = some vs[i0] := List.getElem?_eq_getElem hlt
    have hσ : σ[j]? = some (some vs[i0]) := ag i0 (.ref j) _ h2 hv0
    obtain ⟨q, hq, wq, rq⟩ := R.own he
    rw [hσ] at hq
    have hvq : vs[i0] = .ref q := Option.some.inj (Option.some.inj hq)
    rw [hvq] at hσ hv0
    have hc0 : ((contents e as).map argOf)[i0]? = some (.o false k) := by
      rw [List.getElem?_map, contents, List.getElem?_map, h2]
      show some (argOf (clean (e.getD j .un))) = _
      rw [List.getD_eq_getElem?_getD, he]; rfl
    have ioq : ∀ a, IoA ((contents e as).map argOf) vs a → a = q := fun a ⟨i, k1, e1, e2⟩ => by
      obtain ⟨s0, e0, e3⟩ := argOf_get e1
      cases s0 with
      | o l1 k0 =>
        have := (h4 i).1 l1 k0 e0
        rw [this, Nat.sub_zero, hv0] at e2
        cases e2; rfl
      | _ => cases e3
    have keepq : ∀ a o, H a = some o → a ≠ q → H' a = some o := fun a o h n => kp.keep a o h fun z => n (ioq a z)
    have hb' : outK e i0 j outs = some e' := hb
    unfold outK at hb'
    split at hb'
    · rename_i l' k' ho
      cases hb'
      obtain ⟨k2, ho2, ro⟩ := oo i0 k q hc0 hv0
      rw [ho] at ho2
      cases ho2
      have es : setK e j k' = e.set j (.o l k') := by unfold setK; rw [he]
      have hj : j < e.length := (List.getElem?_eq_some_iff.mp he).1
      rw [es]
      refine ⟨R.step (by rw [List.length_set]) (fun i s' h => ?_) st sub trk (fun a o h n => ?_) kp.dom, st, fun q' wq' n => ?_, kp.dom⟩
      · by_cases ej : j = i
        · subst ej
          rw [List.getElem?_set_self hj] at h
          cases h
          exact .inr ⟨l, k, k', q, he, rfl, hσ, ro⟩
        · rw [List.getElem?_set_ne ej] at h
          refine .inl ⟨h, fun l1 k1 p1 hs hp => ?_⟩
          subst hs
          have np : p1 ≠ q := fun z => ej (R.dis j i q _ _ _ _ he h hσ (z ▸ hp))
          obtain ⟨q1, eq1, wq1, rq1⟩ := R.own h
          rw [hp] at eq1
          cases eq1
          obtain ⟨u, hu⟩ := rq1.there
          rw [keepq p1 u hu np, hu]
      · have hne : a ≠ q := fun z => by
          subst z
          have qq := R.sl j _ _ he hσ
          cases l with
          | true => obtain ⟨p', e', _, _, c, _⟩ := qq; cases e'; rw [c] at h; cases h
          | false => obtain ⟨p', e', _, _, c, _⟩ := qq; cases e'; exact n c
        exact keepq a o (R.keep a o h n) hne
      · have hne : q' ≠ q := fun z => n ⟨j, l, k, he, by rw [hσ, z]⟩
        obtain ⟨u, hu⟩ := R.trk q' wq'
        refine ⟨sub q' wq', by rw [keepq q' u hu hne, hu], fun ⟨i, l1, k1, a1, a2⟩ => ?_⟩
        by_cases ej : j = i
        · subst ej
          rw [hσ] at a2
          cases a2
          exact hne rfl
        · rw [List.getElem?_set_ne ej] at a1
          exact n ⟨i, l1, k1, a1, a2⟩
    · cases hb'
end

/-- what is known of a def of the program: its name, its promise, how deep it calls -/
structure Cal (P : Program) (w : World) (K : PySem.W.Frag) (mg : Str → Option Value) (base : Heap) (ca : CA) (k : Nat) (x : Str) (n : Nat) (mf : List Sl → CR) : Prop where
  ex : ∃ (f : Addr) (fd : FuncData) (ps : List Str), mg x = some (.ref f) ∧ PySem.W.keepIn K (.ref f) = true ∧ Binds K fd ps [] ∧ FnOk P w K mg base (L2.CX P w) k f fd ps (spM K ca n mf)
theorem Cal.mono {P : Program} {w : World} {K : PySem.W.Frag} {mg : Str → Option Value} {base : Heap} {ca : CA} {j k : Nat} {x : Str} {n : Nat} {mf : List Sl → CR} (c : Cal P w K mg base ca j x n mf) (h : j ≤ k) : Cal P w K mg base ca k x n mf := by
  obtain ⟨f, fd, ps, a, b, c, d⟩ := c.ex
  exact ⟨f, fd, ps, a, b, c, d.mono h⟩

def PR (K : PySem.W.Frag) (ca : CA) (F : Fr) : PP RV V := fun r v H0 ow H e σ => match r with
  | .d x => Rp K ow H x v
  | .o k => PO_ K ca F k v H0 ow H e σ
def MC (ca : CA) (X : Cx) (e : Expr) (m : M RV) : Prop := ∀ F W, Tk X F W → PE X e (tG X.K ca F W (PR X.K ca F) m)
section
variable {ca : CA} {X : Cx} {pos : Pos} {e a b c : Expr} {es : List Expr}
theorem go_called {F : Fr} {W : WX} {mf : List Sl → CR} {as : List AV} {e : List Sl} {vs : List V} {ow : Addr → Prop} {H Hs : Hp} {Hs' : Hp} {σ : St} {Q : VK} {n : Nat} (R : Rel X.K ca F ow e σ H) (p : AvA X.K ca F Hs' ow H e σ as vs) (hn : vs.length = n) (d : ∀ x, H x = none → Hs x = none)
    (g : GoG X.K ca F W (PR X.K ca F) Hs ow e H σ Q ((fun e => match ios e as 0 with
      | some w => match mf ((contents e as).map argOf) with
        | .ok r outs => match backs e w outs with
          | some e' => .ok r e'
          | none => .bad
        | .ex c outs => match backs e w outs with
          | some e' => .ex c e'
          | none => .bad
        | .bad => .bad
      | none => .bad : M RV) e)) : spM X.K ca n mf vs H Q (fun cls dx H => W cls dx σ H) := by
  dsimp only at g
  cases hi : ios e as 0 with
  | none => rw [hi] at g; exact g.elim
  | some w =>
    rw [hi] at g
    dsimp only at g
    refine ⟨ow, _, hn, argsOk R p hi, R.trk, ?_⟩
    cases hm : mf ((contents e as).map argOf) with
    | bad => rw [hm] at g; exact g.elim
    | ok r outs =>
      rw [hm] at g
      dsimp only at g
      cases hb : backs e w outs with
      | none => rw [hb] at g; exact g.elim
      | some e' =>
        rw [hb] at g
        cases r with
        | d x =>
          intro v H' kp oo rp
          have io_ow : ∀ a, IoA ((contents e as).map argOf) vs a → ow a := fun a ⟨i, k, h1, h2⟩ => by
            obtain ⟨q, w1, w2, _⟩ := (argsOk R p hi).sl i _ _ h1 h2
            cases w1; exact w2
          have tr : Trk ow H' := fun a z => by
            cases hh : H' a with
            | some o => exact ⟨o, rfl⟩
            | none =>
              obtain ⟨u, hu⟩ := R.trk a z
              rw [kp.dom a hh] at hu; cases hu
          obtain ⟨R', g'⟩ := R.called p hi kp hb (fun _ z => z) (fun _ z => .inl z) tr oo
          exact g v ow H' g' R' rp
        | o k =>
          intro q H' kp hq hq' oo ro
          have tr : Trk (more ow q) H' := fun a z => by
            rcases z with z | z
            · cases hh : H' a with
              | some o => exact ⟨o, rfl⟩
              | none =>
                obtain ⟨u, hu⟩ := R.trk a z
                rw [kp.dom a hh] at hu; cases hu
            · rw [z]; exact hq'
          obtain ⟨R', g'⟩ := R.called p hi kp hb (fun _ z => .inl z) (fun a z => by
            rcases z with z | z
            · exact .inl z
            · rw [z]; exact .inr hq) tr oo
          refine g (.ref q) (more ow q) H' g' R' ⟨q, rfl, d q hq, ro, loose_of (.inr rfl) (R.dom q hq) (fun z => R.free hq (R.sub q z)) fun ⟨i, l, k1, a1, a2⟩ => ?_⟩
          have hh : Held e σ q := by
            cases w with
            | none => cases hb; exact ⟨i, l, k1, a1, a2⟩
            | some ij =>
              obtain ⟨i0, j⟩ := ij
              have hb' : outK e i0 j outs = some e' := hb
              unfold outK at hb'
              split at hb'
              · cases hb'
                obtain ⟨l2, k2, he⟩ := (ios_one hi).2.2.1
                unfold setK at a1
                rw [he] at a1
                dsimp only at a1
                by_cases ej : j = i
                · subst ej; exact ⟨j, l2, k2, he, a2⟩
                · rw [List.getElem?_set_ne ej] at a1; exact ⟨i, l, k1, a1, a2⟩
              · cases hb'
          obtain ⟨i, l, k1, a1, a2⟩ := hh
          obtain ⟨q2, eq2, w2, r2⟩ := R.own a1
          rw [a2] at eq2
          cases eq2
          obtain ⟨u, hu⟩ := r2.there
          rw [hq] at hu; cases hu
    | ex c outs =>
      rw [hm] at g
      dsimp only at g
      cases hb : backs e w outs with
      | none => rw [hb] at g; exact g.elim
      | some e' =>
        rw [hb] at g
        intro H' kp oo
        have tr : Trk ow H' := fun a z => by
          cases hh : H' a with
          | some o => exact ⟨o, rfl⟩
          | none =>
            obtain ⟨u, hu⟩ := R.trk a z
            rw [kp.dom a hh] at hu; cases hu
        obtain ⟨R', g'⟩ := R.called p hi kp hb (fun _ z => z) (fun _ z => .inl z) tr oo
        exact g ow H' g'.stp R'
theorem mc_call {k n : Nat} {x : Str} {p : Pos} {mf : List Sl → CR} {m : M (List AV)} (c : Cal X.prog X.w X.K X.mg X.base ca k x n mf) (hr : Room k X.A) (ha : MA ca X (e :: es) m) (hn : (e :: es).length = n := by rfl) (hg : Gl X x := by rfl)
    (hdb : (x == ("__debug__" : Str)) = false := by decide) (he : starEach (e :: es) X.env = (false, eval e X.env) :: starEach es X.env := by rfl) (hpl : (backTo pos (starEach es X.env)).any (·.1) = false := by rfl)
    (hlen : ∀ env as e', m env = .ok as e' → as.length = n) : MC ca X (.Call (.Name x p) (e :: es) [] pos) (callM mf m) := fun F W tk => by
  obtain ⟨f, fd, ps, hm, hk, hb, fn⟩ := c.ex
  refine PE.imp (pe_callS fn hr hg hm hk hb (fun σ => passAt tk.t σ) (ha F W tk) hdb he hpl) fun σ H Q ⟨ow, env, R, g⟩ => ?_
  refine ⟨ow, env, R, ?_⟩
  unfold callM bind at g
  cases hm' : m env with
  | ok as e1 =>
    rw [hm'] at g
    rintro vs ow1 H1 g1 R1 p1
    exact go_called R1 p1 (by rw [← (AvA.get p1).1]; exact hlen _ _ _ hm') (fun x h => g1.dom x h) (g.mono g1)
  | ex c e => rw [hm'] at g; exact g
  | bad => rw [hm'] at g; exact g
theorem me_c {m : M RV} (h : MC ca X e m) : ME ca X e (bind m fun r => lift (rvD r)) := fun F W tk => PE.imp (h F W tk) fun σ H Q ⟨ow, env, R, g⟩ => by
  refine ⟨ow, env, R, ?_⟩
  unfold bind at g
  cases hm : m env with
  | ok r e =>
    rw [hm] at g
    rintro v ow1 H1 g1 R1 p1
    cases r with
    | d x => exact g v ow1 H1 g1 R1 p1
    | o k =>
      obtain ⟨p, rfl, n, ro, L⟩ := p1
      cases hk : obD k with
      | none => simp only [lift, rvD, hk] at g; exact g.elim
      | some d =>
        simp only [lift, rvD, hk] at g
        refine g (.ref p) (less ow1 p) H1 ⟨g1.stp.trans stp_less, fun q w nh => ?_, g1.dom⟩ (R1.loose L) (L.data ro hk)
        obtain ⟨w1, h1, n1⟩ := g1.lo q w nh
        refine ⟨⟨w1, fun z => ?_⟩, h1, n1⟩
        obtain ⟨u, hu⟩ := R.trk q w
        rw [z, n] at hu
        cases hu
  | ex c e => rw [hm] at g; exact g
  | bad => rw [hm] at g; exact g
theorem mo_c {m : M RV} (h : MC ca X e m) : MO ca X e (bind m fun r => lift (rvO r)) := fun F W tk => PE.imp (h F W tk) fun σ H Q ⟨ow, env, R, g⟩ => by
  refine ⟨ow, env, R, ?_⟩
  unfold bind at g
  cases hm : m env with
  | ok r e =>
    rw [hm] at g
    rintro v ow1 H1 g1 R1 p1
    cases r with
    | d x => exact g.elim
    | o k => exact g v ow1 H1 g1 R1 p1
  | ex c e => rw [hm] at g; exact g
  | bad => rw [hm] at g; exact g
end
/-- how many arguments come -/
def Len (m : M (List AV)) (n : Nat) : Prop := ∀ env as e', m env = .ok as e' → as.length = n
theorem len_nil : Len aNil 0 := fun env as e' h => by cases h; rfl
theorem len_d {m : M D} {r : M (List AV)} {n : Nat} (h : Len r n) : Len (aD m r) (n + 1) := fun env as e' q => by
  simp only [aD, bind] at q
  split at q
  · rename_i a e1 h1
    split at q
    · rename_i xs e2 h2
      cases q
      rw [List.length_cons, h _ _ _ h2]
    · cases q
    · cases q
  · cases q
  · cases q
theorem len_r {i : Nat} {r : M (List AV)} {n : Nat} (h : Len r n) : Len (aR i r) (n + 1) := fun env as e' q => by
  simp only [aR, bind] at q
  split at q
  · rename_i a e1 h1
    split at q
    · rename_i xs e2 h2
      cases q
      rw [List.length_cons, h _ _ _ h2]
    · cases q
    · cases q
  · cases q
  · cases q
end ML
end

section
set_option Elab.async false
set_option linter.all false
set_option maxRecDepth 100000
set_option maxHeartbeats 2000000
/-! # Targets, what is walked, loops, comprehensions -/
namespace ML
open PySem L2

/-- a target's function: the slots behind it -/
abbrev GF := D → List Sl → Option (List Sl)
def tGt (K : PySem.W.Frag) (ca : CA) (F : Fr) (js : List Nat) (g : GF) : TG := fun v σ H Q => ∃ ow env d env', Rel K ca F ow env σ H ∧ Rp K ow H d v ∧ g d env = some env' ∧
  ∀ σ', σ'.length = σ.length → (∀ i, i ∉ js → σ'[i]? = σ[i]?) → Rel K ca F ow env' σ' H → (∀ p, Held env' σ' p → Held env σ p) → Q σ' H
def MG (ca : CA) (X : Cx) (tg : Expr) (js : List Nat) (g : GF) : Prop := ∀ F, PG X tg (tGt X.K ca F js g)
def tGs (K : PySem.W.Frag) (ca : CA) (F : Fr) (js : List Nat) (g : List D → List Sl → Option (List Sl)) : TGs := fun vs σ H Q => ∃ ow env ds env', Rel K ca F ow env σ H ∧ RpA K ow H ds vs ∧ g ds env = some env' ∧
  ∀ σ', σ'.length = σ.length → (∀ i, i ∉ js → σ'[i]? = σ[i]?) → Rel K ca F ow env' σ' H → (∀ p, Held env' σ' p → Held env σ p) → Q σ' H
def MGs (ca : CA) (X : Cx) (tg : List Expr) (js : List Nat) (g : List D → List Sl → Option (List Sl)) : Prop := ∀ F, PGs X tg (tGs X.K ca F js g)
theorem PG.imp {X : Cx} {tg : Expr} {t t' : TG} (h : PG X tg t) (k : ∀ v σ H Q, t' v σ H Q → t v σ H Q) : PG X tg t' := ⟨fun pins s σ H v u Q I r q => h.run pins s σ H v u Q I r (k _ _ _ _ q)⟩
theorem PGs.imp {X : Cx} {tg : List Expr} {t t' : TGs} (h : PGs X tg t) (k : ∀ v σ H Q, t' v σ H Q → t v σ H Q) : PGs X tg t' := ⟨fun pins s σ H v u Q I r q => h.run pins s σ H v u Q I r (k _ _ _ _ q)⟩
def gN (i : Nat) : GF := fun d e => some (e.set i (.d d))
def gNil : List D → List Sl → Option (List Sl) := fun ds e => match ds with
  | [] => some e
  | _ => none
def gCons (g : GF) (r : List D → List Sl → Option (List Sl)) : List D → List Sl → Option (List Sl) := fun ds e => match ds with
  | d :: ds => (g d e).bind (r ds)
  | [] => none
def gT (g : List D → List Sl → Option (List Sl)) : GF := fun d e => match d with
  | .tuple ds => g ds e
  | _ => none
theorem held_setD {env : List Sl} {σ : St} {i : Nat} {x : D} {u : Option V} {p : Addr} (h : Held (env.set i (.d x)) (σ.set i u) p) : Held env σ p := by
  obtain ⟨j, l, k, h1, h2⟩ := h
  by_cases e : i = j
  · subst e
    by_cases hl : i < env.length
    · rw [List.getElem?_set_self hl] at h1; cases h1
    · rw [List.getElem?_eq_none (by simpa using hl)] at h1; cases h1
  · rw [List.getElem?_set_ne e] at h1 h2
    exact ⟨j, l, k, h1, h2⟩
section
variable {ca : CA} {X : Cx} {pos : Pos} {e : Expr} {es : List Expr}
theorem mg_name (i : Nat) {x : Str} (hN : X.N.Nodup) (hi : X.N[i]? = some x := by rfl) (hx : Loc X.env.scope x := by first | exact Or.inl rfl | exact Or.inr rfl) (hf : X.fn x = true ∨ X.env.scope.names.lookup x = some .local := by first | exact .inl rfl | exact .inr rfl) : MG ca X (.Name x pos) [i] (gN i) := fun F =>
  PG.imp (pg_name hN hi hx hf) fun v σ H Q ⟨ow, env, d, env', R, rp, hg, q⟩ => by
    cases hg
    exact q _ (by rw [List.length_set]) (fun j hj => List.getElem?_set_ne (fun z => hj (by simp [z]))) (R.set rp) fun p h => held_setD h
theorem mgs_nil : MGs ca X [] [] gNil := fun F => PGs.imp pgs_nil fun vs σ H Q ⟨ow, env, ds, env', R, rp, hg, q⟩ => by
  cases ds with
  | nil =>
    cases hg
    unfold RpA at rp
    exact ⟨rp, q σ rfl (fun _ _ => rfl) R fun _ h => h⟩
  | cons d ds => cases hg
theorem mgs_cons {js ks : List Nat} {g : GF} {r : List D → List Sl → Option (List Sl)} (h : MG ca X e js g) (hr : MGs ca X es ks r) (hs : (assignEach (e :: es) X.env).map (·.2) = assign e X.env :: (assignEach es X.env).map (·.2) := by rfl) : MGs ca X (e :: es) (js ++ ks) (gCons g r) := fun F =>
  PGs.imp (pgs_cons (h F) (hr F) hs) fun vs σ H Q ⟨ow, env, ds, env', R, rp, hg, q⟩ => by
    cases ds with
    | nil => cases hg
    | cons d ds =>
      unfold RpA at rp
      obtain ⟨v, us, rfl, rp1, rp2⟩ := rp
      obtain ⟨e1, h1, h2⟩ := Option.bind_eq_some_iff.mp hg
      refine ⟨v, us, rfl, ow, env, d, e1, R, rp1, h1, fun σ1 l1 f1 R1 k1 => ⟨ow, e1, ds, env', R1, rp2, h2, fun σ2 l2 f2 R2 k2 => ?_⟩⟩
      exact q σ2 (l2.trans l1) (fun i hi => (f2 i fun z => hi (List.mem_append_right _ z)).trans (f1 i fun z => hi (List.mem_append_left _ z))) R2 fun p hp => k1 p (k2 p hp)
theorem gCons_len {n : Nat} {g : GF} {r : List D → List Sl → Option (List Sl)} (hr : ∀ ds e e', r ds e = some e' → ds.length = n) : ∀ ds e e', gCons g r ds e = some e' → ds.length = n + 1 := fun ds e e' h => by
  cases ds with
  | nil => cases h
  | cons d ds =>
    obtain ⟨e1, h1, h2⟩ := Option.bind_eq_some_iff.mp h
    rw [List.length_cons, hr _ _ _ h2]
theorem gNil_len : ∀ ds e e', gNil ds e = some e' → ds.length = 0 := fun ds e e' h => by
  cases ds with
  | nil => rfl
  | cons d ds => cases h
theorem mg_tup {k : Nat} {js : List Nat} {g : List D → List Sl → Option (List Sl)} {n : Nat} (h : MGs ca X es js g) (hl : ∀ ds e e', g ds e = some e' → ds.length = n) (hc : X.calm = true := by rfl)
    (hn : (assignEach es X.env).length = n := by rfl) (hst : (assignEach es X.env).findIdx? (·.1) = none := by rfl) : MG ca X (.Tuple es k pos) js (gT g) := fun F =>
  PG.imp (pg_tup hc (h F) hn hst) fun v σ H Q ⟨ow, env, d, env', R, rp, hg, q⟩ => by
    cases d with
    | tuple ds =>
      unfold Rp at rp
      obtain ⟨a, xs, rfl, ht, ra⟩ := rp
      exact ⟨a, xs, rfl, ht.sq, by rw [← ra.length]; exact hl _ _ _ hg, ow, env, ds, env', R, ra, hg, q⟩
    | _ => cases hg
end

/-- a walk over ds: what it leans on stays, each turn brings the next -/
def Wk (K : PySem.W.Frag) (J : It) (ds : List D) (ow : Addr → Prop) (H : Hp) : Prop :=
  ∃ inv : (Addr → Prop) → Hp → Prop, inv ow H ∧ (∀ ow1 H1 ow2 H2, Stp ow1 H1 ow2 H2 → inv ow1 H1 → inv ow2 H2) ∧
    (∀ i ow H, inv ow H → Trk ow H → i < ds.length → J.go i H ∧ ∀ x H', J.yld i H x H' → Gr H H' ∧ ∀ d, ds[i]? = some d → Rp K ow H' d x) ∧ (∀ i ow H, inv ow H → ds.length ≤ i → J.stop i H)
def tI_ (K : PySem.W.Frag) (ca : CA) (F : Fr) (W : WX) (m : M (List D)) : TI := fun σ H R => ∃ ow env, Rel K ca F ow env σ H ∧ match m env with
  | .ok ds e => ∀ J ow' H', Go σ ow env H ow' e H' → Rel K ca F ow' e σ H' → Wk K J ds ow' H' → R J H'
  | .ex c e => ∀ ow' H', Stp ow H ow' H' → Rel K ca F ow' e σ H' → WSat ca W c σ H'
  | .bad => False
def MI (ca : CA) (X : Cx) (tg iter : Expr) (m : M (List D)) : Prop := ∀ F W, Tk X F W → PI X tg iter (tI_ X.K ca F W m)
theorem PI.imp {X : Cx} {tg iter : Expr} {t t' : TI} (h : PI X tg iter t) (k : ∀ σ H R, t' σ H R → t σ H R) : PI X tg iter t' := ⟨fun pins s σ H R I q => h.run pins s σ H R I (k _ _ _ q)⟩
/-- a value of any kind that is walked -/
def iAny (K : PySem.W.Frag) (te : TE) : TI := fun σ H R => te σ H fun x H1 => (∃ a, x = .ref a ∧ (∃ xs, SqL K H1 a xs) ∧ R (Itl K a) H1) ∨ (∃ a, x = .ref a ∧ (∃ xs, SqT K H1 a xs) ∧ R (Itt K a) H1) ∨ (∃ z, x = .str z ∧ R (Its z) H1)
theorem pi_any {X : Cx} {tg l : Expr} {tl : TE} (hl : PE X l tl) : PI X tg l (iAny X.K tl) := by
  refine ⟨fun pins s σ H R I h => ?_⟩
  refine thn (hl.run pins s σ H _ I h) fun v s1 ⟨x, H1, I1, r1, q1⟩ => ?_
  rcases q1 with ⟨a, e, ⟨xs, hq⟩, q⟩ | ⟨a, e, ⟨xs, hq⟩, q⟩ | ⟨z, e, q⟩
  · subst e
    cases r1
    obtain ⟨its, rv, p, hz⟩ := I1.list hq
    refine PySem.wpAny_pyIter_list p.isList ?_
    refine ⟨s1.heap.objs.size, [s1.heap.objs.size], _, _, H1, rfl, I1.kept (t' := s1.toks) fun b o e => Heap.get?_push_of_some _ e, turn_list a _, ⟨_, Heap.get?_push_size _ rfl, rfl, rfl⟩, fun b hb => ?_, q⟩
    have e : b = s1.heap.objs.size := by simpa using hb
    subst e
    exact I1.fpOk (Nat.le_refl _) (I1.hok.fresh (Nat.le_refl _))
  · subst e
    cases r1
    obtain ⟨its, rv, p, hz⟩ := I1.tuple hq
    refine PySem.wpAny_pyIter_tuple (show s1.heap.IsTuple a its.toArray from p) ?_
    refine ⟨s1.heap.objs.size, [s1.heap.objs.size], _, _, H1, rfl, I1.kept (t' := s1.toks) fun b o e => Heap.get?_push_of_some _ e, turn_tuple a _, ⟨_, Heap.get?_push_size _ rfl, rfl, rfl⟩, fun b hb => ?_, q⟩
    have e : b = s1.heap.objs.size := by simpa using hb
    subst e
    exact I1.fpOk (Nat.le_refl _) (I1.hok.fresh (Nat.le_refl _))
  · have h2 : PIE X pins σ tg R = PIE X pins σ tg R := rfl
    subst e
    obtain ⟨t, rfl⟩ := r1
    cases ha : z.cps.all (· < 128)
    · exact wpAny_pyIter_wide ha (pi_one (tk := s1.toks) I1 _ (turn_str _ z t "str_iterator" (.inr rfl)) ⟨_, Heap.get?_push_size _ rfl, rfl, rfl⟩ q)
    · exact wpAny_pyIter_ascii ha (pi_one (tk := s1.toks) I1 _ (turn_str _ z t "str_ascii_iterator" (.inl rfl)) ⟨_, Heap.get?_push_size _ rfl, rfl, rfl⟩ q)
/-- one sign -/
def sign (c : Nat) : Str := ⟨#[c]⟩
def dItems : D → Option (List D)
  | .list xs => some xs
  | .tuple xs => some xs
  | .str z => some (z.cps.toList.map fun c => .str (sign c))
  | _ => none
def iD (m : M D) : M (List D) := bind m fun x => lift (dItems x)
theorem RpA.get {K : PySem.W.Frag} {ow : Addr → Prop} {H : Hp} : ∀ {ds : List D} {xs : List V}, RpA K ow H ds xs → ∀ {i : Nat} {d : D} {x : V}, ds[i]? = some d → xs[i]? = some x → Rp K ow H d x
  | [], _, _, i, d, x, h, _ => by cases h
  | a :: r, _, h, i, d, x, h1, h2 => by
    unfold RpA at h
    obtain ⟨v, us, rfl, r1, t⟩ := h
    cases i with
    | zero => cases h1; cases h2; exact r1
    | succ i => exact RpA.get t (i := i) h1 h2
theorem some_of_lt {α : Type} {xs : List α} {i : Nat} (h : i < xs.length) : ∃ x, xs[i]? = some x := ⟨xs[i], List.getElem?_eq_getElem h⟩
theorem wk_list {K : PySem.W.Frag} {ow : Addr → Prop} {H : Hp} {a : Addr} {xs : List V} {ds : List D} (h : H a = some (.lst xs)) (n : ¬ ow a) (r : RpA K ow H ds xs) : Wk K (Itl K a) ds ow H := by
  refine ⟨fun ow H => H a = some (.lst xs) ∧ ¬ ow a ∧ RpA K ow H ds xs, ⟨h, n, r⟩, fun ow1 H1 ow2 H2 st ⟨h, n, r⟩ => ⟨(st a _ h n).1, (st a _ h n).2, r.stp st⟩, fun i ow H ⟨h, n, r⟩ tr hi => ?_, fun i ow H ⟨h, n, r⟩ hi => ⟨xs, SqL.of h, by rw [← r.length]; exact hi⟩⟩
  obtain ⟨x, hx⟩ := some_of_lt (xs := xs) (i := i) (by rw [← r.length]; exact hi)
  refine ⟨⟨xs, x, SqL.of h, hx⟩, fun y H' ⟨e, q⟩ => ?_⟩
  subst e
  exact ⟨Gr.refl, fun d hd => r.get hd (q xs (SqL.of h))⟩
theorem wk_tup {K : PySem.W.Frag} {ow : Addr → Prop} {H : Hp} {a : Addr} {xs : List V} {ds : List D} (h : TupAt K ow H a xs) (r : RpA K ow H ds xs) : Wk K (Itt K a) ds ow H := by
  refine ⟨fun ow H => TupAt K ow H a xs ∧ RpA K ow H ds xs, ⟨h, r⟩, fun ow1 H1 ow2 H2 st ⟨h, r⟩ => ⟨h.stp st, r.stp st⟩, fun i ow H ⟨h, r⟩ tr hi => ?_, fun i ow H ⟨h, r⟩ hi => ⟨xs, h.sq, by rw [← r.length]; exact hi⟩⟩
  obtain ⟨x, hx⟩ := some_of_lt (xs := xs) (i := i) (by rw [← r.length]; exact hi)
  refine ⟨⟨xs, x, h.sq, hx⟩, fun y H' ⟨e, q⟩ => ?_⟩
  subst e
  exact ⟨Gr.refl, fun d hd => r.get hd (q xs h.sq)⟩
theorem wk_str {K : PySem.W.Frag} {ow : Addr → Prop} {H : Hp} {z : Str} : Wk K (Its z) (z.cps.toList.map fun c => .str (sign c)) ow H := by
  refine ⟨fun _ _ => True, trivial, fun _ _ _ _ _ _ => trivial, fun i ow H _ tr hi => ?_, fun i ow H _ hi => ?_⟩
  · rw [List.length_map, Array.length_toList] at hi
    refine ⟨hi, fun y H' ⟨e, c, hc, ey⟩ => ?_⟩
    subst e
    refine ⟨Gr.refl, fun d hd => ?_⟩
    rw [List.getElem?_map, Array.getElem?_toList, hc] at hd
    cases hd
    unfold Rp
    exact ey
  · rw [List.length_map, Array.length_toList] at hi
    exact hi
theorem wk_rng {K : PySem.W.Frag} {ow : Addr → Prop} {H : Hp} {lo : Int} {n : Nat} : Wk K (Itr lo n) ((List.range n).map fun (i : Nat) => .int (lo + (i : Nat))) ow H := by
  refine ⟨fun _ _ => True, trivial, fun _ _ _ _ _ _ => trivial, fun i ow H _ tr hi => ?_, fun i ow H _ hi => ?_⟩
  · rw [List.length_map, List.length_range] at hi
    refine ⟨hi, fun y H' ⟨e, ey⟩ => ?_⟩
    subst e
    refine ⟨Gr.refl, fun d hd => ?_⟩
    rw [List.getElem?_map, List.getElem?_range hi] at hd
    cases hd
    unfold Rp
    exact ey
  · rw [List.length_map, List.length_range] at hi
    exact hi
section
variable {ca : CA} {X : Cx} {pos : Pos} {tg e a b : Expr} {es : List Expr}
theorem mi_any {m : M D} (h : ME ca X e m) : MI ca X tg e (iD m) := fun F W tk => PI.imp (pi_any (h F W tk)) fun σ H R ⟨ow, env, rel, g⟩ => by
  refine ⟨ow, env, rel, ?_⟩
  unfold iD bind at g
  cases hm : m env with
  | ok x e =>
    rw [hm] at g
    rintro v ow1 H1 g1 R1 p1
    have p1' : Rp X.K ow1 H1 x v := p1
    cases x with
    | list xs =>
      unfold Rp at p1'
      obtain ⟨a, us, rfl, h1, n, r⟩ := p1'
      exact .inl ⟨a, rfl, ⟨us, SqL.of h1⟩, g _ ow1 H1 g1 R1 (wk_list h1 n r)⟩
    | tuple xs =>
      unfold Rp at p1'
      obtain ⟨a, us, rfl, h1, r⟩ := p1'
      exact .inr (.inl ⟨a, rfl, ⟨us, h1.sq⟩, g _ ow1 H1 g1 R1 (wk_tup h1 r)⟩)
    | str z =>
      unfold Rp at p1'
      exact .inr (.inr ⟨z, p1', g _ ow1 H1 g1 R1 wk_str⟩)
    | _ => exact g.elim
  | ex c e => rw [hm] at g; exact g
  | bad => rw [hm] at g; exact g
def rng1 : List AV → Option (List D)
  | [.d (.int j)] => if j.natAbs < 4611686018427387904 then some ((List.range j.toNat).map fun (i : Nat) => .int (0 + (i : Nat))) else none
  | _ => none
def rng2 : List AV → Option (List D)
  | [.d (.int i), .d (.int j)] => if i.natAbs < 4611686018427387904 ∧ j.natAbs < 4611686018427387904 then some ((List.range (j - i).toNat).map fun (k : Nat) => .int (i + (k : Nat))) else none
  | _ => none
def iRg (f : List AV → Option (List D)) (m : M (List AV)) : M (List D) := bind m fun as => lift (f as)
theorem mi_range1 {m : M (List AV)} {p : Pos} (ha : MA ca X [a] m) (hm : X.mg "range" = none) (hg : Gl X "range" := by rfl) (hs : starEach [a] X.env = [(false, eval a X.env)] := by rfl) : MI ca X tg (.Call (.Name "range" p) [a] [] pos) (iRg rng1 m) := fun F W tk =>
  PI.imp (pi_range1 hg hm (ha F W tk) hs) fun σ H R ⟨ow, env, rel, g⟩ => by
    refine ⟨ow, env, rel, ?_⟩
    unfold iRg bind at g
    cases hm' : m env with
    | ok as e =>
      rw [hm'] at g
      rintro vs ow1 H1 g1 R1 p1
      have p1' : AvA X.K ca F H ow1 H1 e σ as vs := p1
      cases hr : rng1 as with
      | none => simp only [lift, hr] at g
      | some ds =>
        simp only [lift, hr] at g
        unfold rng1 at hr
        split at hr
        · obtain ⟨hj, rfl⟩ := ite_some hr
          unfold AvA at p1'
          obtain ⟨v, us, rfl, r, _, t⟩ := p1'
          unfold AvA at t
          subst t
          have r' : Rp X.K ow1 H1 (.int _) v := r
          unfold Rp at r'
          exact ⟨_, by rw [r'], by omega, by omega, g _ ow1 H1 g1 R1 wk_rng⟩
        · cases hr
    | ex c e => rw [hm'] at g; exact g
    | bad => rw [hm'] at g; exact g
theorem mi_range2 {m : M (List AV)} {p : Pos} (ha : MA ca X [a, b] m) (hm : X.mg "range" = none) (hg : Gl X "range" := by rfl) (hs : starEach [a, b] X.env = [(false, eval a X.env), (false, eval b X.env)] := by rfl) (hs2 : starEach [b] X.env = [(false, eval b X.env)] := by rfl) : MI ca X tg (.Call (.Name "range" p) [a, b] [] pos) (iRg rng2 m) := fun F W tk =>
  PI.imp (pi_range2 hg hm (ha F W tk) hs hs2) fun σ H R ⟨ow, env, rel, g⟩ => by
    refine ⟨ow, env, rel, ?_⟩
    unfold iRg bind at g
    cases hm' : m env with
    | ok as e =>
      rw [hm'] at g
      rintro vs ow1 H1 g1 R1 p1
      have p1' : AvA X.K ca F H ow1 H1 e σ as vs := p1
      cases hr : rng2 as with
      | none => simp only [lift, hr] at g
      | some ds =>
        simp only [lift, hr] at g
        unfold rng2 at hr
        split at hr
        · obtain ⟨hj, rfl⟩ := ite_some hr
          unfold AvA at p1'
          obtain ⟨v, us, rfl, r, _, t⟩ := p1'
          unfold AvA at t
          obtain ⟨v2, us2, rfl, r2, _, t2⟩ := t
          unfold AvA at t2
          subst t2
          have r' : Rp X.K ow1 H1 (.int _) v := r
          have r2' : Rp X.K ow1 H1 (.int _) v2 := r2
          unfold Rp at r' r2'
          exact ⟨_, _, by rw [r', r2'], ⟨by omega, by omega, by omega, by omega⟩, g _ ow1 H1 g1 R1 wk_rng⟩
        · cases hr
    | ex c e => rw [hm'] at g; exact g
    | bad => rw [hm'] at g; exact g

/-! ### for, while -/
def forL (g : GF) (mb : MStm) : List D → MStm
  | [], e => .nx e
  | d :: r, e => match g d e with
    | none => .bad
    | some e1 => match mb e1 with
      | .nx e2 => forL g mb r e2
      | .ct e2 => forL g mb r e2
      | .bk e2 => .nx e2
      | x => x
def sFor (mi : M (List D)) (g : GF) (mb : MStm) : MStm := xS mi fun ds => forL g mb ds
theorem ms_for {body : List Stmt} {mi : M (List D)} {js : List Nat} {g : GF} {mb : MStm} (hi : MI ca X tg e mi) (hg : MG ca X tg js g) (hb : MSs ca X body mb) (hc : X.calm = true := by rfl) (hs : ∀ x, foldedSetIterable e X.env x = pure x := by intro _; rfl) :
    MS ca X (.For tg e body [] pos) (sFor mi g mb) := fun F W tk hp => PS.imp (ps_for hp hc (hi F W tk) (hg F) (hb F W tk hp) hs) fun Dn σ H ⟨ow, env, R, gg⟩ => by
  refine ⟨ow, env, R, ?_⟩
  unfold sFor xS at gg
  cases hm : mi env with
  | ok ds e1 =>
    rw [hm] at gg
    rintro J ow1 H1 g1 R1 ⟨inv, i0, ist, igo, istop⟩
    have gg1 := gg.mono g1.stp
    refine ⟨fun i m σ H => m = ds.length - i ∧ i ≤ ds.length ∧ ∃ ow env, Rel X.K ca F ow env σ H ∧ inv ow H ∧ GoS X.K ca F W ow H Dn (forL g mb (ds.drop i) env), ⟨_, rfl, Nat.zero_le _, ow1, e1, R1, i0, gg1⟩, ?_⟩
    rintro i m σ2 H2 ⟨rfl, hi2, ow2, env2, R2, in2, g2⟩
    by_cases hlt : i < ds.length
    · obtain ⟨d, hd⟩ := some_of_lt hlt
      have ed : ds.drop i = d :: ds.drop (i + 1) := by
        rw [List.drop_eq_getElem_cons hlt]
        have := List.getElem?_eq_getElem hlt
        rw [this] at hd
        cases hd; rfl
      rw [ed] at g2
      obtain ⟨jg, jy⟩ := igo i ow2 H2 in2 R2.trk hlt
      refine .inr ⟨jg, fun σ' H' => ∃ ow env, Rel X.K ca F ow env σ' H' ∧ inv ow H' ∧ GoS X.K ca F W ow H' Dn (forL g mb (ds.drop (i + 1)) env), fun σ' H' ⟨ow, env, a, b, c⟩ => ⟨_, by omega, rfl, hlt, ow, env, a, b, c⟩, fun x H' y => ?_⟩
      obtain ⟨gr, rp⟩ := jy x H' y
      have R3 := R2.gr gr
      have g3 := g2.mono gr.stp
      unfold forL at g3
      cases hg1 : g d env2 with
      | none => rw [hg1] at g3; exact g3.elim
      | some e3 =>
        rw [hg1] at g3
        refine ⟨ow2, env2, d, e3, R3, rp d hd, hg1, fun σ4 _ _ R4 _ => ⟨ow2, e3, R4, ?_⟩⟩
        cases hb : mb e3 with
        | nx e4 => simp only [hb] at g3; exact fun σ5 ow5 H5 s5 R5 => ⟨ow5, e4, R5, ist _ _ _ _ (gr.stp.trans s5) in2, g3.mono s5⟩
        | ct e4 => simp only [hb] at g3; exact fun σ5 ow5 H5 s5 R5 => ⟨ow5, e4, R5, ist _ _ _ _ (gr.stp.trans s5) in2, g3.mono s5⟩
        | bk e4 => simp only [hb] at g3; exact g3
        | rt r e4 => simp only [hb] at g3; cases r <;> exact g3
        | ex c e4 => simp only [hb] at g3; exact g3
        | bad => simp only [hb] at g3; exact g3
    · have ei : i = ds.length := by omega
      subst ei
      rw [List.drop_length] at g2
      exact .inl ⟨istop _ ow2 H2 in2 (Nat.le_refl _), g2 σ2 ow2 H2 Stp.refl R2⟩
  | ex c e1 => rw [hm] at gg; exact fun ow' H' s' R' => gg σ ow' H' s' R'
  | bad => rw [hm] at gg; exact gg
def whileL (t : M Bool) (mb : MStm) : Nat → MStm
  | 0, _ => .bad
  | n + 1, e => match t e with
    | .ok true e1 => match mb e1 with
      | .nx e2 => whileL t mb n e2
      | .ct e2 => whileL t mb n e2
      | .bk e2 => .nx e2
      | x => x
    | .ok false e1 => .nx e1
    | .ex c e1 => .ex c e1
    | .bad => .bad
def sWhile (n : Nat) (t : M Bool) (mb : MStm) : MStm := whileL t mb n
theorem ms_while (n : Nat) {c : Expr} {body : List Stmt} {t : M Bool} {mb : MStm} (hc : MT ca X c t) (hb : MSs ca X body mb) : MS ca X (.While c body [] pos) (sWhile n t mb) := fun F W tk hp => PS.imp (ps_while hp (hc F W tk) (hb F W tk hp)) fun Dn σ H ⟨ow, env, R, gg⟩ => by
  refine ⟨fun m σ H => ∃ ow env, Rel X.K ca F ow env σ H ∧ GoS X.K ca F W ow H Dn (whileL t mb m env), ⟨n, ow, env, R, gg⟩, ?_⟩
  rintro m σ1 H1 ⟨ow1, env1, R1, g1⟩
  cases m with
  | zero => exact g1.elim
  | succ m =>
    unfold whileL at g1
    refine ⟨ow1, env1, R1, ?_⟩
    cases ht : t env1 with
    | ok b e2 =>
      rw [ht] at g1
      rintro b' ow2 H2 g2 R2 eb
      have eb' : b' = b := eb
      subst eb'
      cases b' with
      | true =>
        rw [if_pos rfl]
        dsimp only at g1
        have g3 := g1.mono g2.stp
        refine ⟨fun σ' H' => ∃ ow env, Rel X.K ca F ow env σ' H' ∧ GoS X.K ca F W ow H' Dn (whileL t mb m env), fun σ' H' ⟨ow, env, a, c⟩ => ⟨m, Nat.lt_succ_self m, ow, env, a, c⟩, ow2, e2, R2, ?_⟩
        cases hb : mb e2 with
        | nx e4 => simp only [hb] at g3; exact fun σ5 ow5 H5 s5 R5 => ⟨ow5, e4, R5, g3.mono s5⟩
        | ct e4 => simp only [hb] at g3; exact fun σ5 ow5 H5 s5 R5 => ⟨ow5, e4, R5, g3.mono s5⟩
        | bk e4 => simp only [hb] at g3; exact g3
        | rt r e4 => simp only [hb] at g3; cases r <;> exact g3
        | ex c e4 => simp only [hb] at g3; exact g3
        | bad => simp only [hb] at g3; exact g3
      | false =>
        rw [if_neg Bool.false_ne_true]
        exact (g1.mono g2.stp) σ1 ow2 H2 Stp.refl R2
    | ex c e2 => rw [ht] at g1; exact fun ow' H' s' R' => g1 σ1 ow' H' s' R'
    | bad => rw [ht] at g1; exact g1
end
end ML
end

section
set_option Elab.async false
set_option linter.all false
set_option maxRecDepth 100000
set_option maxHeartbeats 2000000
/-! # List comprehensions -/
namespace ML
open PySem L2

/-- the slots of a block's own names forgotten -/
def wipeE (e : List Sl) : List Nat → List Sl
  | [] => e
  | v :: vs => (wipeE e vs).set v .un
/-- .. and as they stood, where they held data -/
def dataAt (e0 : List Sl) (v : Nat) : Sl := match e0[v]? with
  | some (.d x) => .d x
  | _ => .un
def restE (e0 e : List Sl) : List Nat → List Sl
  | [] => e
  | v :: vs => (restE e0 e vs).set v (dataAt e0 v)
def restS (σ σ1 : St) : List Nat → St
  | [] => σ1
  | v :: vs => (restS σ σ1 vs).set v (σ.getD v none)
section
variable {K : PySem.W.Frag} {ca : CA} {F : Fr} {ow ow' ow0 : Addr → Prop} {H H' H0 : Hp} {e env env0 : List Sl} {σ σ1 : St}
theorem Rel.wipe (R : Rel K ca F ow e σ H) : ∀ vs : List Nat, Rel K ca F ow (wipeE e vs) (L2.wipe σ vs) H
  | [] => R
  | _ :: vs => (R.wipe vs).drop
theorem held_un {i : Nat} {u : Option V} {p : Addr} (h : Held (e.set i .un) (σ.set i u) p) : Held e σ p := by
  obtain ⟨j, l, k, h1, h2⟩ := h
  by_cases ej : i = j
  · subst ej
    by_cases hl : i < e.length
    · rw [List.getElem?_set_self hl] at h1; cases h1
    · rw [List.getElem?_eq_none (by simpa using hl)] at h1; cases h1
  · rw [List.getElem?_set_ne ej] at h1 h2
    exact ⟨j, l, k, h1, h2⟩
theorem held_wipe {p : Addr} : ∀ {vs : List Nat}, Held (wipeE e vs) (L2.wipe σ vs) p → Held e σ p
  | [], h => h
  | _ :: vs, h => held_wipe (vs := vs) (held_un h)
theorem Rel.rest (R : Rel K ca F ow e σ1 H) (d : ∀ (v : Nat) (x : D), env0[v]? = some (Sl.d x) → ∃ u, σ[v]? = some (some u) ∧ Rp K ow H x u) : ∀ vs : List Nat, Rel K ca F ow (restE env0 e vs) (restS σ σ1 vs) H
  | [] => R
  | v :: vs => by
    have R1 := Rel.rest R d vs
    show Rel K ca F ow ((restE env0 e vs).set v (dataAt env0 v)) ((restS σ σ1 vs).set v (σ.getD v none)) H
    unfold dataAt
    split
    · rename_i x he
      obtain ⟨u, hu, r⟩ := d v x he
      rw [List.getD_eq_getElem?_getD, hu]
      exact R1.set r
    · exact R1.drop
theorem held_rest {p : Addr} : ∀ {vs : List Nat}, Held (restE env0 e vs) (restS σ σ1 vs) p → Held e σ1 p
  | [], h => h
  | v :: vs, h => by
    have h' : Held ((restE env0 e vs).set v (dataAt env0 v)) ((restS σ σ1 vs).set v (σ.getD v none)) p := h
    unfold dataAt at h'
    split at h'
    · exact held_rest (vs := vs) (held_setD h')
    · exact held_rest (vs := vs) (held_un h')
theorem restS_wipe : ∀ (vs ws : List Nat), (∀ v ∈ ws, v ∈ vs) → ∀ i, (restS σ (L2.wipe σ vs) ws)[i]? = if i ∈ ws ∨ i ∉ vs then σ[i]? else (L2.wipe σ vs)[i]? := by
  intro vs ws hsub
  induction ws with
  | nil =>
    intro i
    show (L2.wipe σ vs)[i]? = _
    by_cases h : i ∉ vs
    · rw [if_pos (.inr h)]
      have : ∀ us : List Nat, i ∉ us → (L2.wipe σ us)[i]? = σ[i]? := by
        intro us
        induction us with
        | nil => intro _; rfl
        | cons u us ih =>
          intro hn
          show ((L2.wipe σ us).set u none)[i]? = _
          rw [List.getElem?_set_ne (fun z => hn (by simp [z]))]
          exact ih fun z => hn (List.mem_cons_of_mem _ z)
      exact this vs h
    · rw [if_neg (by simp only [List.not_mem_nil, false_or]; exact h)]
  | cons w ws ih =>
    intro i
    show ((restS σ (L2.wipe σ vs) ws).set w (σ.getD w none))[i]? = _
    have lenw : ∀ us : List Nat, (restS σ (L2.wipe σ vs) us).length = σ.length := by
      intro us
      induction us with
      | nil => exact wipe_length σ vs
      | cons u us ih => show ((restS σ (L2.wipe σ vs) us).set u _).length = _; rw [List.length_set]; exact ih
    by_cases hw : w = i
    · subst hw
      rw [if_pos (.inl List.mem_cons_self)]
      by_cases hl : w < σ.length
      · rw [List.getElem?_set_self (by rw [lenw]; exact hl), List.getD_eq_getElem?_getD, List.getElem?_eq_getElem hl]; rfl
      · rw [List.getElem?_eq_none (by rw [List.length_set, lenw]; omega), List.getElem?_eq_none (by omega)]
    · rw [List.getElem?_set_ne hw, ih (fun v hv => hsub v (List.mem_cons_of_mem _ hv)) i]
      by_cases h1 : i ∈ ws ∨ i ∉ vs
      · rw [if_pos h1, if_pos (h1.elim (fun z => .inl (List.mem_cons_of_mem _ z)) .inr)]
      · rw [if_neg h1, if_neg (fun z => h1 (z.elim (fun z => .inl ((List.mem_cons.mp z).resolve_left (fun z => hw z.symm))) .inr))]
theorem restS_all (vs : List Nat) : restS σ (L2.wipe σ vs) vs = σ := by
  apply List.ext_getElem?
  intro i
  rw [restS_wipe vs vs (fun _ h => h) i]
  by_cases h : i ∈ vs
  · rw [if_pos (.inl h)]
  · rw [if_pos (.inr h)]
/-- a loose object holds something else -/
theorem Rel.mutL (R : Rel K ca F ow e σ H) {p : Addr} {o : HO} (L : Loose F ow e σ p) : Rel K ca F ow e σ (upd H p o) := by
  have st : Stp ow H ow (upd H p o) := stp_mut L.1
  refine R.step rfl (fun i s' h => .inl ⟨h, fun l k q hs hq => ?_⟩) st (fun _ h => h) (fun a z => ?_) (fun a u ha n => ?_) (fun a ha => ?_)
  · subst hs
    exact upd_ne fun z => L.2.2.2 i l k h (by rw [hq, z])
  · by_cases ea : a = p
    · rw [ea]; exact ⟨o, upd_same⟩
    · rw [upd_ne ea]; exact R.trk a z
  · rw [upd_ne (fun z => by rw [z, L.2.1] at ha; cases ha)]
    exact R.keep a u ha n
  · by_cases ea : a = p
    · rw [ea, upd_same] at ha; cases ha
    · rw [upd_ne ea] at ha; exact ha
end

def tTs (K : PySem.W.Frag) (ca : CA) (F : Fr) (W : WX) (m : M Bool) : TT := tG K ca F W PB m
def MTs (ca : CA) (X : Cx) (es : List Expr) (m : M Bool) : Prop := ∀ F W, Tk X F W → PTs X es (tTs X.K ca F W m)
theorem PTs.imp {X : Cx} {es : List Expr} {t t' : TT} (h : PTs X es t) (k : ∀ σ H Q, t' σ H Q → t σ H Q) : PTs X es t' := ⟨fun pins s σ H Q I q => h.run pins s σ H Q I (k _ _ _ q)⟩
section
variable {ca : CA} {X : Cx} {pos : Pos} {tg e a b c : Expr} {es : List Expr}
theorem mts_nil : MTs ca X [] (ret true) := fun F W tk => PTs.imp pts_nil fun σ H Q ⟨ow, env, R, g⟩ => g true ow H Go.refl R rfl
theorem mts_one {m : M Bool} (h : MT ca X e m) : MTs ca X [e] m := fun F W tk => pts_one (h F W tk)

/-- the turns of a comprehension -/
def compL (g : GF) (tt : M Bool) (te : M D) (vs : List Nat) : List D → List D → List Sl → R (List D)
  | [], done, e => .ok done e
  | d :: r, done, e => match g d e with
    | none => .bad
    | some e1 => match tt e1 with
      | .ok true e2 => match te e2 with
        | .ok y e3 => if done.length < LIM then compL g tt te vs r (done ++ [y]) (wipeE e3 vs) else .bad
        | _ => .bad
      | .ok false e2 => compL g tt te vs r done (wipeE e2 vs)
      | _ => .bad
def oComp (mi : M (List D)) (g : GF) (tt : M Bool) (te : M D) (vs : List Nat) : M Ob := bind mi fun ds => fun env => match compL g tt te vs ds [] (wipeE env vs) with
  | .ok xs e => .ok (.lst xs) (restE env e vs)
  | _ => .bad
theorem RpA.snoc {K : PySem.W.Frag} {ow : Addr → Prop} {H : Hp} {y : D} {v : V} (r : Rp K ow H y v) : ∀ {xs : List D} {us : List V}, RpA K ow H xs us → RpA K ow H (xs ++ [y]) (us ++ [v])
  | [], _, h => by
    unfold RpA at h
    subst h
    show RpA K ow H [y] [v]
    unfold RpA
    exact ⟨v, [], rfl, r, by unfold RpA; rfl⟩
  | x :: xs, _, h => by
    unfold RpA at h
    obtain ⟨u, us, rfl, h1, h2⟩ := h
    show RpA K ow H (x :: (xs ++ [y])) (u :: (us ++ [v]))
    unfold RpA
    exact ⟨u, us ++ [v], rfl, h1, RpA.snoc r h2⟩
theorem lc_ok {K : PySem.W.Frag} {F : Fr} {W : WX} {F' : Fr} {mi : M (List D)} {js vs : List Nat} {g : GF} {tt : M Bool} {te : M D} (hjs : ∀ j ∈ js, j ∈ vs) {σ : St} {H : Hp} {Q : VK} (h : tO K ca F W (oComp mi g tt te vs) σ H Q) :
    tLc (tI_ K ca F W mi) (tGt K ca F js g) (tTs K ca F (fun _ _ _ _ => False) tt) (tE K ca F (fun _ _ _ _ => False) te) vs σ H Q := by
  obtain ⟨ow, env, R, gg⟩ := h
  refine ⟨ow, env, R, ?_⟩
  unfold oComp bind at gg
  cases hm : mi env with
  | ok ds e1 =>
    rw [hm] at gg
    obtain ⟨rz, hrz⟩ : ∃ rz, compL g tt te vs ds [] (wipeE e1 vs) = rz := ⟨_, rfl⟩
    dsimp only at gg
    rw [hrz] at gg
    rintro J ow1 H1 g1 R1 ⟨inv, i0, ist, igo, istop⟩ Dl hD
    obtain ⟨R2, Lf⟩ := R1.more (o := .lst []) hD
    have hw : ∀ σ2 : St, σ2.length = (L2.wipe σ vs).length → (∀ i, i ∉ js → σ2[i]? = (L2.wipe σ vs)[i]?) → L2.wipe σ2 vs = L2.wipe σ vs := fun σ2 hl hf => by
      apply List.ext_getElem?
      intro i
      have key : ∀ (τ : St) (us : List Nat) (i : Nat), (L2.wipe τ us)[i]? = if i ∈ us then (if i < τ.length then some none else none) else τ[i]? := by
        intro τ us
        induction us with
        | nil => intro i; simp [L2.wipe]
        | cons u us ih =>
          intro i
          show ((L2.wipe τ us).set u none)[i]? = _
          by_cases hu : u = i
          · subst hu
            rw [if_pos List.mem_cons_self]
            by_cases hlt : u < τ.length
            · rw [if_pos hlt, List.getElem?_set_self (by rw [wipe_length]; exact hlt)]
            · rw [if_neg hlt, List.getElem?_eq_none (by rw [List.length_set, wipe_length]; omega)]
          · rw [List.getElem?_set_ne hu, ih i]
            by_cases hi : i ∈ us
            · rw [if_pos hi, if_pos (List.mem_cons_of_mem _ hi)]
            · rw [if_neg hi, if_neg (fun z => hi ((List.mem_cons.mp z).resolve_left fun z => hu z.symm))]
      rw [wipe_length] at hl
      rw [key, key, hl]
      by_cases hi : i ∈ vs
      · rw [if_pos hi, if_pos hi]
      · rw [if_neg hi, if_neg hi, hf i (fun z => hi (hjs i z)), key, if_neg hi]
    -- the end
    have fin : ∀ {ow2 : Addr → Prop} {H2 : Hp} {e2 : List Sl} {xs : List D} {acc : List V}, Rel K ca F ow2 e2 (L2.wipe σ vs) H2 → Stp ow1 H1 ow2 H2 → (∀ p, ow1 p → ¬ Held e1 σ p → ow2 p ∧ H2 p = H1 p ∧ ¬ Held e2 (L2.wipe σ vs) p) → (∀ a, H2 a = none → H1 a = none) →
        H2 Dl = some (.lst acc) → RpA K ow2 H2 xs acc → Loose F ow2 e2 (L2.wipe σ vs) Dl → (∀ b ow' H', Go σ ow env H ow' (restE e1 e2 vs) H' → Rel K ca F ow' (restE e1 e2 vs) σ H' → PO_ K ca F (.lst xs) b H ow' H' (restE e1 e2 vs) σ → Q b H') → Q (.ref Dl) H2 := fun {ow2 H2 e2 xs acc} R3 st lo dom hacc ra L3 k => by
      have R4 := Rel.rest (env0 := e1) (σ := σ) R3 (fun v x hv => by
        obtain ⟨u, hu, r⟩ := R1.data hv
        exact ⟨u, hu, r.stp st⟩) vs
      rw [restS_all] at R4
      have hr : ∀ {p : Addr}, Held (restE e1 e2 vs) σ p → Held e2 (L2.wipe σ vs) p := fun {p} hp => held_rest (env0 := e1) (σ := σ) (vs := vs) (by rw [restS_all]; exact hp)
      refine k (.ref Dl) ow2 H2 (g1.trans ⟨st, fun p w n => ?_, dom⟩) R4 ⟨Dl, rfl, g1.dom _ hD, ⟨acc, hacc, ra⟩, loose_of L3.1 L3.2.1 L3.2.2.1 fun z => L3.held (hr z)⟩
      obtain ⟨a, b, c⟩ := lo p w n
      exact ⟨a, b, fun z => c (hr z)⟩
    refine ⟨fun i m Hx => m = ds.length - i ∧ i ≤ ds.length ∧ ∃ ow2 e2 done acc, Rel K ca F ow2 e2 (L2.wipe σ vs) Hx ∧ inv ow2 Hx ∧ Stp ow1 H1 ow2 Hx ∧ (∀ p, ow1 p → ¬ Held e1 σ p → ow2 p ∧ Hx p = H1 p ∧ ¬ Held e2 (L2.wipe σ vs) p) ∧ (∀ a, Hx a = none → H1 a = none) ∧
      Hx Dl = some (.lst acc) ∧ RpA K ow2 Hx done acc ∧ Loose F ow2 e2 (L2.wipe σ vs) Dl ∧ compL g tt te vs (ds.drop i) done e2 = rz, ⟨_, rfl, Nat.zero_le _, more ow1 Dl, wipeE e1 vs, [], [], R2.wipe vs, ist _ _ _ _ (stp_more hD) i0, stp_more hD, fun p w n => ?_, fun a ha => ?_, upd_same, by unfold RpA; rfl, loose_of Lf.1 Lf.2.1 Lf.2.2.1 fun z => Lf.held (held_wipe z), hrz⟩, ?_⟩
    · refine ⟨.inl w, ?_, fun z => n (held_wipe z)⟩
      obtain ⟨u, hu⟩ := R1.trk p w
      exact upd_ne fun z => by rw [z, hD] at hu; cases hu
    · by_cases z : a = Dl
      · rw [z]; exact hD
      · rw [upd_ne z] at ha; exact ha
    rintro i m Hx ⟨rfl, hi2, ow2, e2, done, acc, R3, in3, st, lo, dom, hacc, ra, L3, ec⟩
    by_cases hlt : i < ds.length
    · obtain ⟨d, hd⟩ := some_of_lt hlt
      have ed : ds.drop i = d :: ds.drop (i + 1) := by
        rw [List.drop_eq_getElem_cons hlt]
        have := List.getElem?_eq_getElem hlt
        rw [this] at hd
        cases hd; rfl
      rw [ed] at ec
      obtain ⟨jg, jy⟩ := igo i ow2 Hx in3 R3.trk hlt
      refine .inr ⟨jg, fun Hx => ∃ ow2 e2 done acc, Rel K ca F ow2 e2 (L2.wipe σ vs) Hx ∧ inv ow2 Hx ∧ Stp ow1 H1 ow2 Hx ∧ (∀ p, ow1 p → ¬ Held e1 σ p → ow2 p ∧ Hx p = H1 p ∧ ¬ Held e2 (L2.wipe σ vs) p) ∧ (∀ a, Hx a = none → H1 a = none) ∧
        Hx Dl = some (.lst acc) ∧ RpA K ow2 Hx done acc ∧ Loose F ow2 e2 (L2.wipe σ vs) Dl ∧ compL g tt te vs (ds.drop (i + 1)) done e2 = rz, fun H' ⟨ow2, e2, done, acc, r⟩ => ⟨_, by omega, rfl, hlt, ow2, e2, done, acc, r⟩, fun x H' y => ?_⟩
      obtain ⟨gr, rp⟩ := jy x H' y
      have R4 := R3.gr gr
      have gogr := Go.gr R3 gr
      -- what is asked would be bad otherwise
      unfold compL at ec
      have nb : ∀ {r : ML.R (List D)}, r = rz → r ≠ .bad := fun {r} er z => by
        rw [← er, z] at gg
        exact gg
      cases hg1 : g d e2 with
      | none => rw [hg1] at ec; exact absurd rfl (nb ec)
      | some e3 =>
        rw [hg1] at ec
        refine ⟨ow2, e2, d, e3, R4, rp d hd, hg1, fun σ4 hl4 hf4 R5 k5 => ⟨hw σ4 hl4 hf4, ow2, e3, R5, ?_⟩⟩
        dsimp only at ec
        cases ht : tt e3 with
        | ok b e4 =>
          rw [ht] at ec
          rintro b' ow5 H5 g5 R6 eb
          have eb' : b' = b := eb
          subst eb'
          have st5 : Stp ow1 H1 ow5 H5 := (st.trans gr.stp).trans g5.stp
          have wp : L2.wipe σ4 vs = L2.wipe σ vs := hw σ4 hl4 hf4
          have lo5 : ∀ p, ow1 p → ¬ Held e1 σ p → ow5 p ∧ H5 p = H1 p ∧ ¬ Held e4 σ4 p := fun p w n => by
            obtain ⟨a, b, c⟩ := lo p w n
            obtain ⟨a2, b2, c2⟩ := gogr.lo p a c
            obtain ⟨a3, b3, c3⟩ := g5.lo p a2 fun z => c2 (k5 p z)
            exact ⟨a3, b3.trans (b2.trans b), c3⟩
          have dom5 : ∀ a, H5 a = none → H1 a = none := fun a ha => dom a (gogr.dom a (g5.dom a ha))
          have LD : Loose F ow5 e4 σ4 Dl ∧ H5 Dl = some (.lst acc) := by
            obtain ⟨l1, q1⟩ := L3.go gogr
            have l2 : Loose F ow2 e3 σ4 Dl := loose_of l1.1 l1.2.1 l1.2.2.1 fun z => l1.held (k5 Dl z)
            obtain ⟨l3, q3⟩ := l2.go g5
            exact ⟨l3, by rw [q3, q1, hacc]⟩
          have in5 : inv ow5 H5 := ist _ _ _ _ (gr.stp.trans g5.stp) in3
          have ra5 : RpA K ow5 H5 done acc := ra.stp (gr.stp.trans g5.stp)
          cases b' with
          | true =>
            rw [if_pos rfl]
            dsimp only at ec
            refine ⟨ow5, e4, R6, ?_⟩
            cases hte : te e4 with
            | ok y e5 =>
              rw [hte] at ec
              rintro v ow6 H6 g6 R7 r7
              obtain ⟨l6, q6⟩ := LD.1.go g6
              have hc : done.length < LIM := by
                by_cases z : done.length < LIM
                · exact z
                · simp only [if_neg z] at ec; exact absurd rfl (nb ec)
              simp only [if_pos hc] at ec
              have h6 : H6 Dl = some (.lst acc) := by rw [q6]; exact LD.2
              have ra6 : RpA K ow6 H6 done acc := ra5.stp g6.stp
              have sm : Stp ow6 H6 ow6 (upd H6 Dl (.lst (acc ++ [v]))) := stp_mut l6.1
              have R8 := (R7.mutL (o := .lst (acc ++ [v])) l6).wipe vs
              rw [wp] at R8
              refine ⟨acc, h6, lim_lt (by rw [← ra6.length]; exact hc), ow6, wipeE e5 vs, done ++ [y], acc ++ [v], R8, ist _ _ _ _ (g6.stp.trans sm) in5, (st5.trans g6.stp).trans sm, fun p w n => ?_, fun a ha => ?_, upd_same, (RpA.snoc r7 ra6).stp sm, ?_, ec⟩
              · obtain ⟨a, b, c⟩ := lo5 p w n
                obtain ⟨a2, b2, c2⟩ := g6.lo p a c
                refine ⟨a2, ?_, fun z => c2 (by rw [← wp] at z; exact held_wipe z)⟩
                obtain ⟨u, hu⟩ := R1.trk p w
                rw [upd_ne (fun z => by rw [z, hD] at hu; cases hu)]
                exact b2.trans b
              · by_cases z : a = Dl
                · rw [z]; exact hD
                · rw [upd_ne z] at ha; exact dom5 a (g6.dom a ha)
              · exact loose_of l6.1 l6.2.1 l6.2.2.1 fun z => l6.held (by rw [← wp] at z; exact held_wipe z)
            | ex c e5 => rw [hte] at ec; exact absurd rfl (nb ec)
            | bad => rw [hte] at ec; exact absurd rfl (nb ec)
          | false =>
            rw [if_neg Bool.false_ne_true]
            dsimp only at ec
            have R8 := R6.wipe vs
            rw [wp] at R8
            refine ⟨ow5, wipeE e4 vs, done, acc, R8, in5, st5, fun p w n => ?_, dom5, LD.2, ra5, ?_, ec⟩
            · obtain ⟨a, b, c⟩ := lo5 p w n
              exact ⟨a, b, fun z => c (by rw [← wp] at z; exact held_wipe z)⟩
            · exact loose_of LD.1.1 LD.1.2.1 LD.1.2.2.1 fun z => LD.1.held (by rw [← wp] at z; exact held_wipe z)
        | ex c e4 => rw [ht] at ec; exact absurd rfl (nb ec)
        | bad => rw [ht] at ec; exact absurd rfl (nb ec)
    · have ei : i = ds.length := by omega
      subst ei
      rw [List.drop_length] at ec
      unfold compL at ec
      refine .inl ⟨istop _ ow2 Hx in3 (Nat.le_refl _), fin R3 st lo dom hacc ra L3 ?_⟩
      rw [← ec] at gg
      exact gg
  | ex c e1 => rw [hm] at gg; exact gg
  | bad => rw [hm] at gg; exact gg
theorem mo_lc {scope : Scope} {own : List (Str × Nat)} {iter elt : Expr} {ifs : List Expr} {mi : M (List D)} {js : List Nat} {g : GF} {tt : M Bool} {te : M D} (hN : X.N.Nodup) (hi : MI ca X tg iter mi) (ok : BlkOk X.N X.env.scope scope own)
    (hg : ∀ (s : Shared) (H : Hp) (C : Addr) (cl : List (Str × Addr)) (fp : List Addr), MG ca (X.blk s H scope (compEnvC scope cl C X.env) fp) tg js g)
    (ht : ∀ (s : Shared) (H : Hp) (C : Addr) (cl : List (Str × Addr)) (fp : List Addr), MTs ca (X.blk s H scope (compEnvC scope cl C X.env) fp) ifs tt)
    (he : ∀ (s : Shared) (H : Hp) (C : Addr) (cl : List (Str × Addr)) (fp : List Addr), ME ca (X.blk s H scope (compEnvC scope cl C X.env) fp) elt te)
    (hjs : ∀ j ∈ js, j ∈ own.map (·.2) := by decide) (hc : X.calm = true := by rfl) (hs : ∀ x, foldedSetIterable iter X.env x = pure x := by intro _; rfl) :
    MO ca X (.ListComp elt [⟨tg, iter, ifs, 0⟩] scope pos) (oComp mi g tt te (own.map (·.2))) := fun F W tk =>
  PE.imp (pe_lc hc hN (hi F W tk) ok (fun s H C cl fp => hg s H C cl fp F) (fun s H C cl fp => ht s H C cl fp F _ ⟨takes0, tk.h⟩) (fun s H C cl fp => he s H C cl fp F _ ⟨takes0, tk.h⟩) hs) fun σ H Q h => lc_ok (F' := F) hjs h
end
end ML
end

section
set_option Elab.async false
set_option linter.all false
set_option maxRecDepth 100000
set_option maxHeartbeats 2000000
/-! # Stores, methods of lists, several targets, errors raised and caught -/
namespace ML
open PySem L2
section
variable {ca : CA} {X : Cx} {pos : Pos} {tg e a b c : Expr} {es : List Expr}
/-! ### y = [.. for ..] -/
theorem ms_setLc (i : Nat) {y : Str} {py spos : Pos} {scope : Scope} {own : List (Str × Nat)} {iter elt : Expr} {ifs : List Expr} {mi : M (List D)} {js : List Nat} {g : GF} {tt : M Bool} {te : M D} (hN : X.N.Nodup) (hi : MI ca X tg iter mi) (ok : BlkOk X.N X.env.scope scope own)
    (hg : ∀ (s : Shared) (H : Hp) (C : Addr) (cl : List (Str × Addr)) (fp : List Addr), MG ca (X.blk s H scope (compEnvC scope cl C X.env) fp) tg js g)
    (ht : ∀ (s : Shared) (H : Hp) (C : Addr) (cl : List (Str × Addr)) (fp : List Addr), MTs ca (X.blk s H scope (compEnvC scope cl C X.env) fp) ifs tt)
    (he : ∀ (s : Shared) (H : Hp) (C : Addr) (cl : List (Str × Addr)) (fp : List Addr), ME ca (X.blk s H scope (compEnvC scope cl C X.env) fp) elt te)
    (hy : X.N[i]? = some y := by rfl) (hyl : X.env.scope.names.lookup y = some .local := by rfl) (hsw : swapsWith (.ListComp elt [⟨tg, iter, ifs, 0⟩] scope pos) (some (.Name y py)) spos.line X.env = pure true := by exact sw_true rfl rfl rfl (by decide +kernel))
    (hjs : ∀ j ∈ js, j ∈ own.map (·.2) := by decide) (hc : X.calm = true := by rfl) (hs : ∀ x, foldedSetIterable iter X.env x = pure x := by intro _; rfl) :
    MS ca X (.Assign [.Name y py] (.ListComp elt [⟨tg, iter, ifs, 0⟩] scope pos) spos) (sSetO i (oComp mi g tt te (own.map (·.2)))) := fun F W tk hp =>
  PS.imp (ps_setLc (i := i) hc hN hy hyl hsw (hi F W tk) ok (fun s H C cl fp => hg s H C cl fp F) (fun s H C cl fp => ht s H C cl fp F _ ⟨takes0, tk.h⟩) (fun s H C cl fp => he s H C cl fp F _ ⟨takes0, tk.h⟩) hs) fun Dn σ H ⟨ow, env, R, gg⟩ => by
    refine lc_ok (F' := F) (g := g) (tt := tt) (te := te) hjs ?_
    exact go_stm R gg fun x e1 v ow1 H1 g1 R1 ⟨p, ev, n, r, L⟩ q1 => by
      rw [ev]
      exact q1 (σ.set i (some (.ref p))) ow1 H1 Stp.refl (R1.setO L r)
/-! ### methods of an own list -/
/-- slot i holds an own list -/
def okL (i : Nat) : M Unit := fun e => match e[i]? with
  | some (.o _ (.lst _)) => .ok () e
  | _ => .bad
theorem okL_go {K : PySem.W.Frag} {F : Fr} {W : WX} {β γ : Type} {P : PP γ β} {Hs H : Hp} {ow : Addr → Prop} {env : List Sl} {σ : St} {Q : β → Hp → Prop} {i : Nat} {f : Unit → M γ} (R : Rel K ca F ow env σ H) (g : GoG K ca F W P Hs ow env H σ Q (bind (okL i) f env)) :
    ∃ p l xs, env[i]? = some (.o l (.lst xs)) ∧ σ[i]? = some (some (.ref p)) ∧ OwnR K ca ow H p (.lst xs) ∧ GoG K ca F W P Hs ow env H σ Q (f () env) := by
  unfold bind okL at g
  split at g
  · rename_i a e' hh
    split at hh
    · rename_i l xs he
      cases hh
      obtain ⟨p, hp, w, r⟩ := R.own he
      exact ⟨p, l, xs, he, hp, r, g⟩
    · cases hh
  · rename_i c e' hh
    split at hh <;> cases hh
  · exact g.elim
/-- the list of slot i: what comes of it and what it holds then -/
def mutL (i : Nat) (f : List D → Option (D × List D)) : M D := fun e => match e[i]? with
  | some (.o l (.lst xs)) => match f xs with
    | some (z, ys) => .ok z (e.set i (.o l (.lst ys)))
    | none => .bad
  | _ => .bad
def eMt (i : Nat) (f : List D → List Sl → Option (D × List D)) (m : M (List AV)) : M D := bind (okL i) fun _ => bind m fun as => fun e => mutL i (fun xs => f xs (contents e as)) e
def MtS (K : PySem.W.Frag) (ca : CA) (r : V → List V → Hp → VK → Prop) (f : List D → List Sl → Option (D × List D)) : Prop :=
  ∀ xs ss z ys ow H p vs us Q, f xs ss = some (z, ys) → H p = some (.lst vs) → ow p → RpA K ow H xs vs → SvA K ca ow H ss us → (∀ v vs', Rp K ow H z v → RpA K ow H ys vs' → Q v (upd H p (.lst vs'))) → r (.ref p) us H Q
theorem mutL_go {K : PySem.W.Frag} {F : Fr} {W : WX} {Hs H : Hp} {ow : Addr → Prop} {env : List Sl} {σ : St} {Q : VK} {i : Nat} {f : List D → Option (D × List D)} {p : Addr} (R : Rel K ca F ow env σ H) (hp : σ[i]? = some (some (.ref p)))
    (g : GoG K ca F W (PD K) Hs ow env H σ Q (mutL i f env)) : ∃ xs z ys vs, f xs = some (z, ys) ∧ H p = some (.lst vs) ∧ ow p ∧ RpA K ow H xs vs ∧ ∀ v vs', Rp K ow H z v → RpA K ow H ys vs' → Q v (upd H p (.lst vs')) := by
  unfold mutL at g
  split at g
  · rename_i l xs he
    split at g
    · rename_i z ys hf
      obtain ⟨q, hq, w, vs, h1, h2⟩ := R.own he
      rw [hp] at hq
      cases hq
      refine ⟨xs, z, ys, vs, hf, h1, w, h2, fun v vs' rv ra => ?_⟩
      have st : Stp ow H ow (upd H p (.lst vs')) := stp_mut w
      have R' := R.mut (o := .lst vs') (k' := .lst ys) he hp ⟨vs', upd_same, ra.stp st⟩
      refine g v ow _ ⟨st, fun q wq nq => ⟨wq, upd_ne fun z => nq ⟨i, l, _, he, by rw [hp, z]⟩, fun ⟨j, l1, k1, a1, a2⟩ => ?_⟩, fun x hx => ?_⟩ R' (rv.stp st)
      · by_cases ej : i = j
        · subst ej
          exact nq ⟨i, l, _, he, a2⟩
        · rw [List.getElem?_set_ne ej] at a1
          exact nq ⟨j, l1, k1, a1, a2⟩
      · by_cases z : x = p
        · rw [z, upd_same] at hx; cases hx
        · rw [upd_ne z] at hx; exact hx
    · exact g.elim
  · exact g.elim
theorem me_mt (i : Nat) {x name : Str} {p apos : Pos} {id : String} {r : V → List V → Hp → VK → Prop} {f : List D → List Sl → Option (D × List D)} {m : M (List AV)} (slot : Slot "list" name id) (hty : typeOf (.builtin id) = pure (.type "method_descriptor")) (hm : MtR X id r) (hs : MtS X.K ca r f) (ha : MA ca X (e :: es) m)
    (hN : X.N[i]? = some x := by rfl) (hv : Vis X.env.scope x := by first | exact Or.inl rfl | exact Or.inr (Or.inl rfl) | exact Or.inr (Or.inr rfl)) (hd : (x == ("__debug__" : Str)) = false := by decide) (hcd : (x == ("__classdict__" : Str)) = false := by decide)
    (hbase : attributeBase (.Name x p) name X.env (eval (.Name x p) X.env) = eval (.Name x p) X.env := by rfl)
    (hfew : ((backTo pos (starEach (e :: es) X.env)).all (fun x => !x.1) && (backToKw pos (keywordEach [] X.env)).all (fun x => x.1.isSome) && decide ((e :: es).length + ([] : List Keyword).length + (if ([] : List Keyword).isEmpty then 0 else 1) < 30)) = true := by rfl)
    (hline : (apos.endLine == pos.line) = true := by rfl) (hst : starEach (e :: es) X.env = (false, eval e X.env) :: starEach es X.env := by rfl) (hplain : (backTo pos (starEach es X.env)).any (·.1) = false := by rfl) :
    ME ca X (.Call (.Attribute (.Name x p) name apos) (e :: es) [] pos) (eMt i f m) := fun F W tk =>
  PE.imp (pe_bm PySem.F.plainAttrs_list slot hty hm (pe_var hN hv hd hcd) (ha F W tk) hbase hfew hline hst hplain) fun σ H Q ⟨ow, env, R, g⟩ => by
    obtain ⟨q, l, xs, he, hp, ⟨vs, h1, h2⟩, g⟩ := okL_go R g
    refine ⟨.ref q, hp, .inl ⟨rfl, _, SqL.of h1⟩, go_bind R g fun as e1 us ow1 H1 g1 R1 p1 q1 => ?_⟩
    obtain ⟨xs', z, ys, vs', hf, h1', w', h2', k⟩ := mutL_go R1 hp q1
    exact hs xs' _ z ys ow1 H1 q vs' us Q hf h1' w' h2' (AvA.sv R1 p1) k
theorem me_mt0 (i : Nat) {x name : Str} {p apos : Pos} {id : String} {r : V → List V → Hp → VK → Prop} {f : List D → List Sl → Option (D × List D)} (slot : Slot "list" name id) (hty : typeOf (.builtin id) = pure (.type "method_descriptor")) (hm : MtR X id r) (hs : MtS X.K ca r f)
    (hN : X.N[i]? = some x := by rfl) (hv : Vis X.env.scope x := by first | exact Or.inl rfl | exact Or.inr (Or.inl rfl) | exact Or.inr (Or.inr rfl)) (hd : (x == ("__debug__" : Str)) = false := by decide) (hcd : (x == ("__classdict__" : Str)) = false := by decide)
    (hbase : attributeBase (.Name x p) name X.env (eval (.Name x p) X.env) = eval (.Name x p) X.env := by rfl) (hline : (apos.endLine == pos.line) = true := by rfl) :
    ME ca X (.Call (.Attribute (.Name x p) name apos) [] [] pos) (eMt i f aNil) := fun F W tk =>
  PE.imp (pe_bm0 PySem.F.plainAttrs_list slot hty hm (pe_var hN hv hd hcd) hbase hline) fun σ H Q ⟨ow, env, R, g⟩ => by
    obtain ⟨q, l, xs, he, hp, ⟨vs, h1, h2⟩, g⟩ := okL_go R g
    refine ⟨.ref q, hp, .inl ⟨rfl, _, SqL.of h1⟩, ?_⟩
    have g' : GoG X.K ca F W (PD X.K) H ow env H σ Q (mutL i (fun xs => f xs []) env) := g
    obtain ⟨xs', z, ys, vs', hf, h1', w', h2', k⟩ := mutL_go R hp g'
    exact hs xs' _ z ys ow H q vs' [] Q hf h1' w' h2' (by unfold SvA; rfl) k
def fApp : List D → List Sl → Option (D × List D) := fun xs ss => match ss with
  | [.d y] => if xs.length < LIM then some (.none, xs ++ [y]) else none
  | _ => none
theorem mts_app {K : PySem.W.Frag} : MtS K ca rAppend fApp := fun xs ss z ys ow H p vs us Q hf h1 w h2 h3 k => by
  unfold fApp at hf
  split at hf
  · obtain ⟨hl, e⟩ := ite_some hf
    cases e
    unfold SvA at h3
    obtain ⟨v, us', rfl, hv, t⟩ := h3
    unfold SvA at t
    subst t
    exact ⟨p, vs, v, rfl, rfl, h1, lim_lt (by rw [← h2.length]; exact hl), k .non _ (by unfold Rp; rfl) (RpA.snoc (hv (by simp)) h2)⟩
  · cases hf
theorem RpA.append {K : PySem.W.Frag} {ow : Addr → Prop} {H : Hp} : ∀ {xs ys : List D} {us vs : List V}, RpA K ow H xs us → RpA K ow H ys vs → RpA K ow H (xs ++ ys) (us ++ vs)
  | [], _, _, _, h, h2 => by
    unfold RpA at h
    subst h
    exact h2
  | x :: xs, _, _, _, h, h2 => by
    unfold RpA at h
    obtain ⟨u, us, rfl, h1, h3⟩ := h
    show RpA K ow H (x :: (xs ++ _)) (u :: (us ++ _))
    unfold RpA
    exact ⟨u, _, rfl, h1, RpA.append h3 h2⟩
/-- the items of a list -/
def slL : Sl → Option (List D)
  | .d (.list xs) => some xs
  | .o _ (.lst xs) => some xs
  | _ => none
theorem slL_ok {K : PySem.W.Frag} {ow : Addr → Prop} {H : Hp} {s : Sl} {v : V} {xs : List D} (h : slL s = some xs) (r : s ≠ .un → SvR K ca ow H s v) : ∃ a us, v = .ref a ∧ H a = some (.lst us) ∧ RpA K ow H xs us := by
  unfold slL at h
  split at h
  · cases h
    have r' : Rp K ow H (.list xs) v := r (by simp)
    unfold Rp at r'
    obtain ⟨a, us, e, h1, _, h2⟩ := r'
    exact ⟨a, us, e, h1, h2⟩
  · cases h
    obtain ⟨p, e, w, us, h1, h2⟩ := r (by simp)
    exact ⟨p, us, e, h1, h2⟩
  · cases h
def fExt : List D → List Sl → Option (D × List D) := fun xs ss => match ss with
  | [s] => (slL s).bind fun ys => if xs.length + ys.length ≤ LIM then some (.none, xs ++ ys) else none
  | _ => none
theorem mts_ext {K : PySem.W.Frag} : MtS K ca rExtend fExt := fun xs ss z ys ow H p vs us Q hf h1 w h2 h3 k => by
  unfold fExt at hf
  split at hf
  · rename_i s
    obtain ⟨ys', ey, hf⟩ := Option.bind_eq_some_iff.mp hf
    obtain ⟨hl, e⟩ := ite_some hf
    cases e
    unfold SvA at h3
    obtain ⟨v, us', rfl, hv, t⟩ := h3
    unfold SvA at t
    subst t
    obtain ⟨b, zs, rfl, h4, h5⟩ := slL_ok ey hv
    exact ⟨p, b, vs, zs, rfl, rfl, h1, h4, lim_line (by rw [← h2.length, ← h5.length]; exact hl), k .non _ (by unfold Rp; rfl) (RpA.append h2 h5)⟩
  · cases hf
def fPop : List D → List Sl → Option (D × List D) := fun xs ss => match ss with
  | [] => xs.getLast?.map fun y => (y, xs.dropLast)
  | _ => none
theorem RpA.dropLast {K : PySem.W.Frag} {ow : Addr → Prop} {H : Hp} : ∀ {xs : List D} {us : List V}, RpA K ow H xs us → RpA K ow H xs.dropLast us.dropLast
  | [], _, h => by
    unfold RpA at h
    subst h
    show RpA K ow H [] []
    unfold RpA; rfl
  | [x], _, h => by
    unfold RpA at h
    obtain ⟨u, us, rfl, h1, h2⟩ := h
    unfold RpA at h2
    subst h2
    show RpA K ow H [] []
    unfold RpA; rfl
  | x :: y :: r, _, h => by
    unfold RpA at h
    obtain ⟨u, us, rfl, h1, h2⟩ := h
    have h2' := h2
    unfold RpA at h2
    obtain ⟨u2, us2, rfl, h3, h4⟩ := h2
    show RpA K ow H (x :: (y :: r).dropLast) (u :: (u2 :: us2).dropLast)
    unfold RpA
    exact ⟨u, _, rfl, h1, RpA.dropLast h2'⟩
theorem RpA.last {K : PySem.W.Frag} {ow : Addr → Prop} {H : Hp} {xs : List D} {us : List V} {y : D} (h : RpA K ow H xs us) (e : xs.getLast? = some y) : ∃ v, us[us.length - 1]? = some v ∧ Rp K ow H y v := by
  rw [List.getLast?_eq_getElem?] at e
  have hl : xs.length - 1 < xs.length := (List.getElem?_eq_some_iff.mp e).1
  obtain ⟨v, hv⟩ := some_of_lt (xs := us) (i := us.length - 1) (by rw [← h.length]; exact hl)
  refine ⟨v, hv, h.get (i := xs.length - 1) e (by rw [h.length]; exact hv)⟩
theorem mts_pop {K : PySem.W.Frag} : MtS K ca rPop fPop := fun xs ss z ys ow H p vs us Q hf h1 w h2 h3 k => by
  unfold fPop at hf
  split at hf
  · obtain ⟨y, ey, e⟩ := Option.map_eq_some_iff.mp hf
    cases e
    unfold SvA at h3
    subst h3
    obtain ⟨v, hv, rv⟩ := h2.last ey
    exact ⟨p, vs, v, rfl, rfl, h1, hv, k v _ rv h2.dropLast⟩
  · cases hf
/-! ### xs[i] = e -/
def sSetIx (i : Nat) (me mi : M D) : MStm := xS me fun v => xS (okL i) fun _ => xS mi fun ix => fun e => match ix, e[i]? with
  | .int j, some (.o l (.lst xs)) => match ixN xs.length j with
    | some n => .nx (e.set i (.o l (.lst (xs.set n v))))
    | none => .bad
  | _, _ => .bad
theorem RpA.set {K : PySem.W.Frag} {ow : Addr → Prop} {H : Hp} {y : D} {v : V} (r : Rp K ow H y v) : ∀ {xs : List D} {us : List V} (n : Nat), RpA K ow H xs us → RpA K ow H (xs.set n y) (us.set n v)
  | [], _, n, h => by
    unfold RpA at h
    subst h
    cases n <;> (show RpA K ow H [] []; unfold RpA; rfl)
  | x :: xs, _, n, h => by
    unfold RpA at h
    obtain ⟨u, us, rfl, h1, h2⟩ := h
    cases n with
    | zero =>
      show RpA K ow H (y :: xs) (v :: us)
      unfold RpA
      exact ⟨v, us, rfl, r, h2⟩
    | succ n =>
      show RpA K ow H (x :: xs.set n y) (u :: us.set n v)
      unfold RpA
      exact ⟨u, _, rfl, h1, RpA.set r n h2⟩
theorem ms_setIx (i : Nat) {x : Str} {p sp : Pos} {ix : Expr} {me mi : M D} (he : ME ca X e me) (hi : ME ca X ix mi) (hN : X.N[i]? = some x := by rfl) (hv : Vis X.env.scope x := by first | exact Or.inl rfl | exact Or.inr (Or.inl rfl) | exact Or.inr (Or.inr rfl)) (hd : (x == ("__debug__" : Str)) = false := by decide) (hcd : (x == ("__classdict__" : Str)) = false := by decide)
    (hss : swapsWithSole [.Subscript (.Name x p) ix sp] e pos.line X.env = pure false := by rfl) (hw : swappedStores [.Subscript (.Name x p) ix sp] e X.env = pure none := by rfl) (h1 : (assignEach [.Subscript (.Name x p) ix sp] X.env).map (·.2) = [assign (.Subscript (.Name x p) ix sp) X.env] := by rfl)
    (hsub : ∀ v, assign (.Subscript (.Name x p) ix sp) X.env v = (do
      let ov ← holding [v] (eval (.Name x p) X.env)
      let iv ← holding [v, ov] (eval ix X.env)
      standAt sp
      holding [v, ov, iv] (setItem ov iv v)
      release [v, ov, iv] []) := by intro _; rfl) : MS ca X (.Assign [.Subscript (.Name x p) ix sp] e pos) (sSetIx i me mi) := fun F W tk hp =>
  PS.imp (ps_asg (he F W tk) (pg_sub (pe_var hN hv hd hcd) (hi F W tk) set_list hsub) hss hw h1) fun Dn σ H ⟨ow, env, R, g⟩ => by
    refine go_stm R g fun y e1 v ow1 H1 g1 R1 p1 q1 => ?_
    unfold xS at q1
    cases hk : okL i e1 with
    | ok u e2 =>
      rw [hk] at q1
      unfold okL at hk
      split at hk
      · rename_i l xs hl
        cases hk
        obtain ⟨q, hq, w, vs, h1, h2⟩ := R1.own hl
        refine ⟨.ref q, hq, go_stm R1 q1 fun iz e3 v3 ow3 H3 g3 R3 p3 q3 => ?_⟩
        cases iz with
        | int j =>
          split at q3
          · rename_i j' l' xs' ej he3
            cases ej
            split at q3
            · rename_i n hn
              obtain ⟨q', hq', w', vs', h1', h2'⟩ := R3.own he3
              rw [hq] at hq'
              cases hq'
              have p3' : Rp X.K ow3 H3 (.int j) v3 := p3
              unfold Rp at p3'
              have st : Stp ow3 H3 ow3 (upd H3 q (.lst (vs'.set n v))) := stp_mut w'
              refine ⟨q, vs', j, n, rfl, p3', h1', by rw [← h2'.length]; exact hn, ?_⟩
              refine q3 σ ow3 _ st (R3.mut he3 hq ⟨_, upd_same, (RpA.set (Rp.stp g3.stp _ _ p1) n h2').stp st⟩)
            · exact q3.elim
          · exact q3.elim
        | _ => exact q3.elim
      · cases hk
    | ex c e2 => unfold okL at hk; split at hk <;> cases hk
    | bad => rw [hk] at q1; exact q1.elim
/-! ### x op= e -/
def sAug (i : Nat) (g : Sl → Sl → Option D) (m : M D) : MStm := fun e => match e[i]? with
  | some (.d x) => xS m (fun y e2 => match g (.d x) (.d y) with
    | some z => .nx (e2.set i (.d z))
    | none => .bad) e
  | _ => .bad
theorem ms_aug (i : Nat) {x : Str} {p : Pos} {op : Operator} {r : R2} {g : Sl → Sl → Option D} {m : M D} (ho : OpR X (inplaceOp op) r) (hs : OpS X.K ca r g) (he : ME ca X e m) (hN : X.N.Nodup) (hi : X.N[i]? = some x := by rfl) (hx : Loc X.env.scope x := by first | exact Or.inl rfl | exact Or.inr rfl) (hf : X.fn x = true ∨ X.env.scope.names.lookup x = some .local := by first | exact .inl rfl | exact .inr rfl) :
    MS ca X (.AugAssign (.Name x p) op e pos) (sAug i g m) := fun F W tk hp => PS.imp (ps_aug (i := i) (ti := r) hN hi hx (he F W tk) (fun pins s σ H x y v u Q I rx ry q => ho pins s σ H x y v u Q I rx ry q) hf) fun Dn σ H ⟨ow, env, R, gg⟩ => by
  unfold sAug at gg
  split at gg
  · rename_i x hx0
    obtain ⟨v, hv, rv⟩ := R.data hx0
    refine ⟨v, hv, go_stm R gg fun y e1 u ow1 H1 g1 R1 p1 q1 => ?_⟩
    split at q1
    · rename_i z hz
      exact hs _ _ z ow1 H1 v u _ hz (fun _ => rv.stp g1.stp) (fun _ => p1) R1.trk fun w H' gr rw => q1 _ ow1 H' gr.stp ((R1.gr gr).set rw)
    · exact q1.elim
  · exact gg.elim
/-! ### a, b = x, y -/
def avSl : AV → Option Sl
  | .d x => some (.d x)
  | .fr k => some (.o true k)
  | .ref _ => none
def sPar (i j : Nat) (m : M (List AV)) : MStm := xS m fun as => fun e => match as with
  | [a, b] => match avSl a, avSl b with
    | some s, some t => .nx ((e.set i s).set j t)
    | _, _ => .bad
  | _ => .bad
theorem Rel.setAv {K : PySem.W.Frag} {F : Fr} {ow : Addr → Prop} {H : Hp} {env : List Sl} {σ : St} {a : AV} {s : Sl} {v : V} {i : Nat} (R : Rel K ca F ow env σ H) (h : AvR K ca F ow H env σ a v) (e : avSl a = some s) : Rel K ca F ow (env.set i s) (σ.set i (some v)) H := by
  cases a with
  | d x => cases e; exact R.set h
  | fr k => cases e; obtain ⟨p, rfl, r, L⟩ := h; exact R.setO L r
  | ref j => cases e
theorem ms_par (i j : Nat) {x y : Str} {px py pt : Pos} {kt k2 : Nat} {pt2 : Pos} {m : M (List AV)} (ha : MA ca X [a, b] m) (hN : X.N.Nodup) (hi : X.N[i]? = some x := by rfl) (hj : X.N[j]? = some y := by rfl) (hij : i ≠ j := by decide) (hc : X.calm = true := by rfl)
    (hx : X.env.scope.names.lookup x = some .local := by rfl) (hy : X.env.scope.names.lookup y = some .local := by rfl) (hw : swappedStores [.Tuple [.Name x px, .Name y py] kt pt] (.Tuple [a, b] k2 pt2) X.env = pure (some [x, y]) := by rfl)
    (hs : swapsWithSole [.Tuple [.Name x px, .Name y py] kt pt] (.Tuple [a, b] k2 pt2) pos.line X.env = pure false := by rfl) : MS ca X (.Assign [.Tuple [.Name x px, .Name y py] kt pt] (.Tuple [a, b] k2 pt2) pos) (sPar i j m) := fun F W tk hp =>
  PS.imp (ps_par hc hN hi hj hij hx hy (ha F W tk) hw hs) fun Dn σ H ⟨ow, env, R, g⟩ => go_stm R g fun as e1 vs ow1 H1 g1 R1 p1 q1 => by
    split at q1
    · rename_i a b
      have p1' : AvA X.K ca F H ow1 H1 e1 σ [a, b] vs := p1
      unfold AvA at p1'
      obtain ⟨v, us, rfl, ra, fa, t⟩ := p1'
      unfold AvA at t
      obtain ⟨w, us2, rfl, rb, fb, t2⟩ := t
      unfold AvA at t2
      subst t2
      split at q1
      · rename_i s t hs ht
        refine ⟨v, w, rfl, q1 _ ow1 H1 Stp.refl ?_⟩
        have Ra := R1.setAv (i := i) ra hs
        refine Ra.setAv (i := j) (a := b) (v := w) ?_ ht
        -- the second one stands as it did
        cases b with
        | d z => exact rb
        | ref n => cases ht
        | fr k =>
          obtain ⟨p, rfl, r, L⟩ := rb
          refine ⟨p, rfl, r, L.1, L.2.1, L.2.2.1, fun n l k1 h1 h2 => ?_⟩
          by_cases en : i = n
          · subst en
            have hl : i < e1.length := by
              have := (List.getElem?_eq_some_iff.mp h1).1
              rwa [List.length_set] at this
            rw [List.getElem?_set_self hl] at h1
            rw [List.getElem?_set_self (by rw [← R1.len]; exact hl)] at h2
            cases h2
            cases a with
            | d z => cases hs; cases h1
            | ref z => cases hs
            | fr k3 =>
              have q := (fa rfl p rfl).2
              unfold FrNot at q
              exact q.1 rfl rfl
          · rw [List.getElem?_set_ne en] at h1 h2
            exact L.2.2.2 n l k1 h1 h2
      · exact q1.elim
    · exact q1.elim
/-! ### raise -/
def sRaise (c : Str) : MStm := fun e => .ex c e
theorem ms_raise (c : Str) (pm : PMk X e (fun _ H Q => Q (.ref (ca c)) none H)) (hc : X.calm = true := by rfl) : MS ca X (.Raise (some e) none pos) (sRaise c) := fun F W tk hp => PS.imp (ps_raise hc tk.t pm) fun Dn σ H ⟨ow, env, R, g⟩ => g σ ow H Stp.refl R
/-! ### try -/
def noXc (e : List Sl) : Bool := e.all fun s => match s with
  | .xc => false
  | _ => true
theorem Rel.toXa {K : PySem.W.Frag} {F : Fr} {ow : Addr → Prop} {H : Hp} {e : List Sl} {σ : St} {xa xb : Addr} (R : Rel K ca { F with xa := xa } ow e σ H) (n : noXc e = true) : Rel K ca { F with xa := xb } ow e σ H where
  len := R.len
  sl := fun i s v h1 h2 => by
    have q := R.sl i s v h1 h2
    cases s with
    | un => exact q
    | d x => exact q
    | o l k => cases l <;> exact q
    | sc ns => exact q
    | xc =>
      have z := (List.all_eq_true.mp n) .xc (List.mem_of_getElem? h1)
      cases z
  dis := R.dis
  keep := R.keep
  dom := R.dom
  sub := R.sub
  trk := R.trk
/-- an except clause's class: does it take the errors of class c? told by K -/
def Takes1 (K : PySem.W.Frag) (ca : CA) (h : Value) (f : Str → Option Bool) : Prop := ∀ c b, f c = some b → PySem.W.exmOne K (.ref (ca c)) h = some b
/-- behind an except suite: the error's name is gone -/
def unX (i : Nat) (e : List Sl) (k : List Sl → SR) : SR := if noXc (e.set i .un) = true then k (e.set i .un) else .bad
def outX (i : Nat) : SR → SR
  | .nx e => unX i e .nx
  | .bk e => unX i e .bk
  | .ct e => unX i e .ct
  | .rt (.d x) e => unX i e (.rt (.d x))
  | _ => .bad
/-- try: body; except x as n: suite -/
def sTryAs (i : Nat) (f : Str → Option Bool) (mb : MStm) (ms : Str → MStm) : MStm := fun e => match mb e with
  | .ex c e1 => match f c with
    | some true => if noXc e1 = true then outX i (ms c (e1.set i .xc)) else .bad
    | some false => .ex c e1
    | none => .bad
  | r => r
theorem Rel.setXc {K : PySem.W.Frag} {F : Fr} {ow : Addr → Prop} {H : Hp} {e : List Sl} {σ : St} {i : Nat} (R : Rel K ca F ow e σ H) : Rel K ca F ow (e.set i .xc) (σ.set i (some (.ref F.xa))) H := by
  have R0 : Rel K ca F ow (e.set i .un) (σ.set i (some (.ref F.xa))) H := R.drop
  refine ⟨by rw [List.length_set, List.length_set]; exact R.len, fun j s v h1 h2 => ?_, fun j j' p l l' k k' h1 h2 h3 h4 => ?_, R.keep, R.dom, R.sub, R.trk⟩
  · by_cases ej : i = j
    · subst ej
      by_cases hl : i < e.length
      · rw [List.getElem?_set_self hl] at h1
        rw [List.getElem?_set_self (by rw [← R.len]; exact hl)] at h2
        cases h1; cases h2
        rfl
      · rw [List.getElem?_eq_none (by simpa using hl)] at h1; cases h1
    · refine R0.sl j s v ?_ h2
      rw [List.getElem?_set_ne ej] at h1 ⊢
      exact h1
  · have ne : ∀ {j : Nat} {l : Bool} {k : Ob}, (e.set i .xc)[j]? = some (Sl.o l k) → (e.set i .un)[j]? = some (Sl.o l k) := fun {j l k} h => by
      by_cases ej : i = j
      · subst ej
        by_cases hl : i < e.length
        · rw [List.getElem?_set_self hl] at h; cases h
        · rw [List.getElem?_eq_none (by simpa using hl)] at h; cases h
      · rw [List.getElem?_set_ne ej] at h ⊢
        exact h
    exact R0.dis j j' p l l' k k' (ne h1) (ne h2) h3 h4
theorem ms_try_as (i : Nat) {x n : Str} {np pos' : Pos} {body suite : List Stmt} {b₀ : Stmt} {cv : Value} {f : Str → Option Bool} {mb : MStm} {ms : Str → MStm} (hc : Names X x cv) (ht : Takes1 X.K ca cv f)
    (hb : ∀ (pn : List (Addr × Obj)) (xe : Value → Shared → Prop), MSs ca (X.tr pn xe) body mb)
    (hsu : ∀ (c : Str) (a : Addr) (oe : Obj) (pn : List (Addr × Obj)), f c = some true → Zc (.ref (ca c)) none oe → (∃ vs, oe.data = .fields vs) → MSs ca (X.suite a ((a, oe) :: pn)) (b₀ :: suite) (ms c))
    (hN : X.N.Nodup) (hi : X.N[i]? = some n := by rfl) (hln : X.env.kindOf n = some .local := by rfl) (hs : X.stack = X.env :: X.outer := by rfl) (hf : X.env.frame = some X.env.locals := by rfl) :
    MS ca X (.Try body [.ExceptHandler (some (.Name x np)) (some n) (b₀ :: suite) pos'] [] [] pos) (sTryAs i f mb ms) := fun F W tk hp => by
  refine PS.imp (ps_try_as (Wout := W) (tb := fun W' => tS X.K ca F W' mb) (ts := fun a cls d => fun D σ H => ∃ c, f c = some true ∧ cls = .ref (ca c) ∧ d = none ∧ tS X.K ca { F with xa := a } (fun _ _ _ _ => False) (ms c) D σ H) hs hf hN hi hln hc tk.t (fun W' pn xe t hp' => hb pn xe F W' ⟨t, tk.h⟩ hp') (fun a oe cls d pn hz hv => ?_)) fun Dn σ H ⟨ow, env, R, g⟩ => ?_
  · refine ⟨fun pins s σ H D I h => ?_⟩
    obtain ⟨c, hfc, rfl, rfl, h⟩ := h
    exact (hsu c a oe pn hfc hz hv { F with xa := a } _ ⟨takes0, fun a' e => by
      have e' : some (Value.ref a) = some (Value.ref a') := e
      cases e'; rfl⟩ PassesOwn.never).run pins s σ H D I h
  · refine ⟨ow, env, R, ?_⟩
    unfold sTryAs at g
    cases hm : mb env with
    | nx e => rw [hm] at g; exact g
    | bk e => rw [hm] at g; exact g
    | ct e => rw [hm] at g; exact g
    | rt r e => rw [hm] at g; cases r <;> exact g
    | bad => rw [hm] at g; exact g
    | ex c e1 =>
      rw [hm] at g
      dsimp only at g
      intro σ1 ow1 H1 s1 R1
      cases hfc : f c with
      | none => rw [hfc] at g; exact g.elim
      | some b =>
        rw [hfc] at g
        refine ⟨b, ht c b hfc, fun eb a ha => ?_, fun eb => ?_⟩
        · subst eb
          dsimp only at g
          by_cases hx : noXc e1 = true
          · rw [if_pos hx] at g
            refine ⟨c, hfc, rfl, rfl, ow1, e1.set i .xc, ?_, ?_⟩
            · have R2 : Rel X.K ca { F with xa := a } ow1 e1 σ1 H1 := R1.toXa (F := F) (xa := F.xa) hx
              exact R2.setXc
            · have g1 := g.mono s1
              have back : ∀ {e2 : List Sl} {σ2 : St} {ow2 : Addr → Prop} {H2 : Hp}, Rel X.K ca { F with xa := a } ow2 e2 σ2 H2 → noXc (e2.set i .un) = true → Rel X.K ca F ow2 (e2.set i .un) (σ2.set i none) H2 := fun {e2 σ2 ow2 H2} R2 hn => Rel.toXa (F := F) (xb := F.xa) R2.drop hn
              cases hms : ms c (e1.set i .xc) with
              | nx e2 =>
                rw [hms] at g1
                by_cases hn : noXc (e2.set i .un) = true
                · have q : outX i (.nx e2) = .nx (e2.set i .un) := by show unX i e2 .nx = _; unfold unX; rw [if_pos hn]
                  rw [q] at g1
                  exact fun σ2 ow2 H2 s2 R2 => g1 _ ow2 H2 s2 (back R2 hn)
                · have q : outX i (.nx e2) = .bad := by show unX i e2 .nx = _; unfold unX; rw [if_neg hn]
                  rw [q] at g1; exact g1.elim
              | bk e2 =>
                rw [hms] at g1
                by_cases hn : noXc (e2.set i .un) = true
                · have q : outX i (.bk e2) = .bk (e2.set i .un) := by show unX i e2 .bk = _; unfold unX; rw [if_pos hn]
                  rw [q] at g1
                  exact fun σ2 ow2 H2 s2 R2 => g1 _ ow2 H2 s2 (back R2 hn)
                · have q : outX i (.bk e2) = .bad := by show unX i e2 .bk = _; unfold unX; rw [if_neg hn]
                  rw [q] at g1; exact g1.elim
              | ct e2 =>
                rw [hms] at g1
                by_cases hn : noXc (e2.set i .un) = true
                · have q : outX i (.ct e2) = .ct (e2.set i .un) := by show unX i e2 .ct = _; unfold unX; rw [if_pos hn]
                  rw [q] at g1
                  exact fun σ2 ow2 H2 s2 R2 => g1 _ ow2 H2 s2 (back R2 hn)
                · have q : outX i (.ct e2) = .bad := by show unX i e2 .ct = _; unfold unX; rw [if_neg hn]
                  rw [q] at g1; exact g1.elim
              | rt r e2 =>
                rw [hms] at g1
                cases r with
                | d z =>
                  by_cases hn : noXc (e2.set i .un) = true
                  · have q : outX i (.rt (.d z) e2) = .rt (.d z) (e2.set i .un) := by show unX i e2 (.rt (.d z)) = _; unfold unX; rw [if_pos hn]
                    rw [q] at g1
                    exact fun v σ2 ow2 H2 s2 R2 rp => g1 v _ ow2 H2 s2 (back R2 hn) rp
                  · have q : outX i (.rt (.d z) e2) = .bad := by show unX i e2 (.rt (.d z)) = _; unfold unX; rw [if_neg hn]
                    rw [q] at g1; exact g1.elim
                | o k => exact g1.elim
              | ex c2 e2 => rw [hms] at g1; exact g1.elim
              | bad => rw [hms] at g1; exact g1.elim
          · rw [if_neg hx] at g; exact g.elim
        · subst eb
          exact (g.mono s1) σ1 ow1 H1 Stp.refl R1
/-- isinstance(n, C), n the error that is handled -/
def eIsE (i : Nat) (b : Bool) : M D := fun e => match e[i]? with
  | some .xc => .ok (.bool b) e
  | _ => .bad
end
end ML
end

section
set_option Elab.async false
set_option linter.all false
set_option maxRecDepth 100000
set_option maxHeartbeats 2000000
/-! # Instances: fields, methods, making -/
namespace ML
open PySem L2
section
variable {ca : CA} {X : Cx} {pos : Pos} {e a b c : Expr} {es : List Expr}
theorem me_isE (i : Nat) {x xc : Str} {p p1 p2 : Pos} {ae : Addr} {oe : Obj} {pn : List (Addr × Obj)} {Dc : Addr} {cv : Value} {v : V} {b : Bool} (C : ExcC X.K Dc) (hz : Zc (.ref Dc) none oe) (hf : ∃ vs, oe.data = .fields vs) (hcv : ∀ u, RelV v u → u = cv) (hk : PySem.W.kitOne X.K (.ref Dc) cv = some b)
    (hm : X.mg "isinstance" = none) (hc : PE (X.suite ae ((ae, oe) :: pn)) (.Name xc p2) (tC v)) (hN : X.N[i]? = some x := by rfl) (hv : Vis X.env.scope x := by first | exact Or.inl rfl | exact Or.inr (Or.inl rfl) | exact Or.inr (Or.inr rfl)) (hg : Gl X "isinstance" := by rfl) (hd : (x == ("__debug__" : Str)) = false := by decide) (hcd : (x == ("__classdict__" : Str)) = false := by decide)
    (he1 : starEach [.Name x p1, .Name xc p2] (X.suite ae ((ae, oe) :: pn)).env = (false, eval (.Name x p1) (X.suite ae ((ae, oe) :: pn)).env) :: starEach [.Name xc p2] (X.suite ae ((ae, oe) :: pn)).env := by rfl)
    (he2 : starEach [.Name xc p2] (X.suite ae ((ae, oe) :: pn)).env = (false, eval (.Name xc p2) (X.suite ae ((ae, oe) :: pn)).env) :: starEach [] (X.suite ae ((ae, oe) :: pn)).env := by rfl)
    (hpl : (backTo pos (starEach [.Name xc p2] (X.suite ae ((ae, oe) :: pn)).env)).any (·.1) = false := by rfl) :
    ME ca (X.suite ae ((ae, oe) :: pn)) (.Call (.Name "isinstance" p) [.Name x p1, .Name xc p2] [] pos) (eIsE i b) := fun F W tk =>
  PE.imp (pe_callB (X := X.suite ae ((ae, oe) :: pn)) (call_isE C hz hf) hg hm (by decide +kernel) (pa_cons (pe_var (X := X.suite ae ((ae, oe) :: pn)) hN hv hd hcd) (pa_cons hc pa_nil he2) he1) (by decide) (by decide) he1 hpl) fun σ H Q ⟨ow, env, R, g⟩ => by
    unfold eIsE at g
    split at g
    · rename_i h
      obtain ⟨u, hu, r⟩ := SlR.at R h
      have r' : u = some (.ref F.xa) := r
      have hxa : F.xa = ae := tk.h ae rfl
      rw [hxa] at r'
      subst r'
      exact ⟨.ref ae, hu, v, cv, b, rfl, hcv, hk, g (.bl b) ow H Go.refl R (by show Rp _ _ _ (.bool b) _; unfold Rp; rfl)⟩
    · exact g.elim
/-! ### fields -/
theorem RpF.lookup {K : PySem.W.Frag} {ow : Addr → Prop} {H : Hp} : ∀ {fs : List (Str × D)} {us : List (Str × V)}, RpF K ow H fs us → ∀ f, (fs.lookup f = none → us.lookup f = none) ∧ ∀ x, fs.lookup f = some x → ∃ v, us.lookup f = some v ∧ Rp K ow H x v
  | _, _, .nil, f => ⟨fun _ => rfl, fun x h => by cases h⟩
  | (n, x) :: fs, (n', v) :: us, .cons h t, f => by
    obtain ⟨en, r⟩ := h
    have en' : n = n' := en
    subst en'
    obtain ⟨i1, i2⟩ := RpF.lookup (fs := fs) (us := us) t f
    have e1 : ((n, x) :: fs).lookup f = if (f == n) = true then some x else fs.lookup f := by rw [List.lookup_cons]; cases (f == n) <;> rfl
    have e2 : ((n, v) :: us).lookup f = if (f == n) = true then some v else us.lookup f := by rw [List.lookup_cons]; cases (f == n) <;> rfl
    rw [e1, e2]
    by_cases z : (f == n) = true
    · rw [if_pos z, if_pos z]
      exact ⟨fun h => (by cases h), fun y h => (by cases h; exact ⟨v, rfl, r⟩)⟩
    · rw [if_neg z, if_neg z]
      exact ⟨i1, i2⟩
/-- a field of an instance of c that slot i holds -/
def eFld (i : Nat) (c f : Str) : M D := fun e => match e[i]? with
  | some (.o _ (.ins c' fs)) => if c' = c then lift (fs.lookup f) e else .bad
  | _ => .bad
theorem me_fld (i : Nat) (c : Str) {x f : Str} {p : Pos} (hc : Cls X.K (ca c)) (hn : NoAttr X.K (ca c) f) (hN : X.N[i]? = some x := by rfl) (hv : Vis X.env.scope x := by first | exact Or.inl rfl | exact Or.inr (Or.inl rfl) | exact Or.inr (Or.inr rfl)) (hd : (x == ("__debug__" : Str)) = false := by decide) (hcd : (x == ("__classdict__" : Str)) = false := by decide)
    (hb : attributeBase (.Name x p) f X.env (eval (.Name x p) X.env) = eval (.Name x p) X.env := by rfl) : ME ca X (.Attribute (.Name x p) f pos) (eFld i c f) := fun F W tk => PE.imp (pe_fld (pe_var hN hv hd hcd) hb) fun σ H Q ⟨ow, env, R, g⟩ => by
  unfold eFld at g
  split at g
  · rename_i l c' fs he
    by_cases hcc : c' = c
    · subst hcc
      rw [if_pos rfl] at g
      obtain ⟨y, hy, g⟩ := lift_go g
      obtain ⟨q, hq, w, dx, us, h1, h2⟩ := R.own he
      obtain ⟨v, hv, rv⟩ := (h2.lookup f).2 y hy
      exact ⟨.ref q, hq, q, _, dx, us, v, rfl, h1, hc, hn, hv, g v ow H Go.refl R rv⟩
    · rw [if_neg hcc] at g; exact g.elim
  · exact g.elim
def putFD (f : Str) (v : D) : List (Str × D) → List (Str × D)
  | [] => [(f, v)]
  | p :: r => if p.1 = f then (f, v) :: r else p :: putFD f v r
theorem RpF.put {K : PySem.W.Frag} {ow : Addr → Prop} {H : Hp} {f : Str} {y : D} {v : V} (r : Rp K ow H y v) : ∀ {fs : List (Str × D)} {us : List (Str × V)}, RpF K ow H fs us → RpF K ow H (putFD f y fs) (putF f v us)
  | _, _, .nil => .cons ⟨rfl, r⟩ .nil
  | (n, x) :: fs, (n', u) :: us, .cons h t => by
    obtain ⟨en, r1⟩ := h
    have en' : n = n' := en
    subst en'
    have e1 : putFD f y ((n, x) :: fs) = if n = f then (f, y) :: fs else (n, x) :: putFD f y fs := rfl
    have e2 : putF f v ((n, u) :: us) = if n = f then (n, v) :: us else (n, u) :: putF f v us := rfl
    rw [e1, e2]
    by_cases z : n = f
    · rw [if_pos z, if_pos z]
      exact .cons ⟨z.symm, r⟩ t
    · rw [if_neg z, if_neg z]
      exact .cons ⟨rfl, r1⟩ (RpF.put r t)
def setF (i : Nat) (c f : Str) (v : D) : MStm := fun e => match e[i]? with
  | some (.o l (.ins c' fs)) => if c' = c ∧ fs.length < 1000 then .nx (e.set i (.o l (.ins c (putFD f v fs)))) else .bad
  | _ => .bad
def sFld_ (i : Nat) (c f : Str) (m : M D) : MStm := xS m fun v => setF i c f v
theorem setF_go {K : PySem.W.Frag} {F : Fr} {W : WX} {ow : Addr → Prop} {H : Hp} {env : List Sl} {σ : St} {Dn : Ends} {i : Nat} {c f : Str} {y : D} {v : V} (R : Rel K ca F ow env σ H) (r : Rp K ow H y v) (g : GoS K ca F W ow H Dn (setF i c f y env)) :
    ∃ p dx us, σ[i]? = some (some (.ref p)) ∧ H p = some (.ins (ca c) dx us) ∧ us.length < 1000 ∧ Dn.nx σ (upd H p (.ins (ca c) dx (putF f v us))) := by
  unfold setF at g
  split at g
  · rename_i l c' fs he
    by_cases hcc : c' = c ∧ fs.length < 1000
    · rw [if_pos hcc] at g
      obtain ⟨rfl, hl⟩ := hcc
      obtain ⟨q, hq, w, dx, us, h1, h2⟩ := R.own he
      have st : Stp ow H ow (upd H q (.ins (ca c') dx (putF f v us))) := stp_mut w
      refine ⟨q, dx, us, hq, h1, by rw [← Paired.length h2]; exact hl, g σ ow _ st (R.mut he hq ⟨dx, _, upd_same, RpF.stp st (h2.put r)⟩)⟩
    · rw [if_neg hcc] at g; exact g.elim
  · exact g.elim
theorem ms_fld (i : Nat) (c : Str) {x f : Str} {p pos' : Pos} {m : M D} (h : ME ca X e m) (hc : Cls X.K (ca c)) (hn : NoAttr X.K (ca c) f) (hN : X.N[i]? = some x := by rfl) (hv : Vis X.env.scope x := by first | exact Or.inl rfl | exact Or.inr (Or.inl rfl) | exact Or.inr (Or.inr rfl)) (hd : (x == ("__debug__" : Str)) = false := by decide) (hcd : (x == ("__classdict__" : Str)) = false := by decide)
    (hs : swapsWith e (some (.Attribute (.Name x p) f pos')) pos.line X.env = pure false := by rfl) : MS ca X (.Assign [.Attribute (.Name x p) f pos'] e pos) (sFld_ i c f m) := fun F W tk hp => PS.imp (L2.ps_fld (pe_var hN hv hd hcd) (h F W tk) hs) fun Dn σ H ⟨ow, env, R, g⟩ =>
  go_stm R g fun y e1 v ow1 H1 g1 R1 p1 q1 => by
    obtain ⟨q, dx, us, hq, h1, hl, k⟩ := setF_go R1 p1 q1
    exact ⟨.ref q, hq, q, _, dx, us, rfl, h1, hc, hn, hl, k⟩
def sAugF (i : Nat) (c f : Str) (g : Sl → Sl → Option D) (m : M D) : MStm := xS (eFld i c f) fun x => xS m fun y => fun e => match g (.d x) (.d y) with
  | some z => setF i c f z e
  | none => .bad
theorem ms_fldaug (i : Nat) (c : Str) {x f : Str} {p tpos : Pos} {op : Operator} {r : R2} {g : Sl → Sl → Option D} {m : M D} (ho : OpR X (inplaceOp op) r) (hs : OpS X.K ca r g) (h : ME ca X e m) (hc : Cls X.K (ca c)) (hn : NoAttr X.K (ca c) f) (hN : X.N[i]? = some x := by rfl) (hv : Vis X.env.scope x := by first | exact Or.inl rfl | exact Or.inr (Or.inl rfl) | exact Or.inr (Or.inr rfl)) (hd : (x == ("__debug__" : Str)) = false := by decide) (hcd : (x == ("__classdict__" : Str)) = false := by decide) :
    MS ca X (.AugAssign (.Attribute (.Name x p) f tpos) op e pos) (sAugF i c f g m) := fun F W tk hp => PS.imp (L2.ps_fldaug (rd := r) (pe_var hN hv hd hcd) (h F W tk) (fun pins s σ H x y u v Q I rx ry q => ho pins s σ H x y u v Q I rx ry q)) fun Dn σ H ⟨ow, env, R, gg⟩ => by
  unfold sAugF xS at gg
  cases he : eFld i c f env with
  | ok y e1 =>
    rw [he] at gg
    unfold eFld at he
    split at he
    · rename_i l c' fs hi
      by_cases hcc : c' = c
      · subst hcc
        rw [if_pos rfl] at he
        obtain ⟨q, hq, w, dx, us, h1, h2⟩ := R.own hi
        cases hl : fs.lookup f with
        | none => rw [hl] at he; cases he
        | some y' =>
          rw [hl] at he
          cases he
          obtain ⟨v, hv', rv⟩ := (h2.lookup f).2 y hl
          refine ⟨.ref q, hq, q, _, dx, us, v, rfl, h1, hc, hn, hv', ?_⟩
          refine go_stm (f := fun y2 e => match g (.d y) (.d y2) with
            | some z => setF i c' f z e
            | none => .bad) R gg fun y2 e2 v2 ow2 H2 g2 R2 p2 q2 => ?_
          split at q2
          · rename_i z hz
            refine hs _ _ z ow2 H2 v v2 _ hz (fun _ => Rp.stp g2.stp _ _ rv) (fun _ => p2) R2.trk fun w3 H3 gr r3 => ?_
            obtain ⟨q', dx', us', hq', h1', hl', k⟩ := setF_go (R2.gr gr) r3 (q2.mono gr.stp)
            rw [hq] at hq'
            cases hq'
            exact ⟨dx', us', h1', hl', k⟩
          · exact q2.elim
      · rw [if_neg hcc] at he; cases he
    · cases he
  | ex c2 e1 =>
    unfold eFld at he
    split at he
    · rename_i l c' fs hi
      by_cases hcc : c' = c
      · rw [if_pos hcc] at he
        unfold lift at he
        split at he <;> cases he
      · rw [if_neg hcc] at he; cases he
    · cases he
  | bad => rw [he] at gg; exact gg.elim
/-! ### methods -/
theorem pe_methS {CX : CXT} {C : Addr} {k : Nat} {f : Addr} {fd : FuncData} {ps : List Str} {sp : Sp} {E : St → XK} {o : Expr} {m : Str} {apos : Pos} {ta : TE} {t : TA} {pl : Sem Bool} (he : PE X o ta) (c : Cls X.K C) (hm : Meth X.K C m f) (F : FnOk X.prog X.w X.K X.mg X.base CX k f fd ps sp) (hr : Room k X.A) (hb : Binds X.K fd ps []) (hx : ∀ σ, PassesAt CX X σ (E σ)) (ha : PA X (e :: es) t)
    (hst : starEach (e :: es) X.env = (false, eval e X.env) :: starEach es X.env := by rfl) (hpl : (backTo pos (starEach es X.env)).any (·.1) = false := by rfl)
    (ht : eval (.Call (.Attribute o m apos) (e :: es) [] pos) X.env = (do
      let ov ← eval o X.env
      standAt apos.atName
      let (f, first) ← holding [ov] (getMethod ov m pl)
      callWith pos f first (backTo pos (starEach (e :: es) X.env)) (backToKw pos (keywordEach [] X.env)))) :
    PE X (.Call (.Attribute o m apos) (e :: es) [] pos) (fun σ H Q => ta σ H fun x H1 => ∃ a dx fs, x = .ref a ∧ H1 a = some (.ins C dx fs) ∧ fs.lookup m = none ∧ t σ H1 fun vs H2 => sp (x :: vs) H2 Q (E σ)) := by
  refine ⟨fun pins s σ H Q I h => ?_⟩
  refine PySem.W.methodCall_KW (pl := pl) (thn (he.run pins s σ H _ I h) fun u s1 ⟨x, H1, I1, rx, a, dx, fs, ex, ea, l, q⟩ => ?_) ht
  subst ex
  obtain rfl : u = Value.ref a := rx
  refine getmeth_ok I1 ea c hm l ?_
  refine PySem.W.callWith_K (first := [.ref a]) (h₀ := X.base) I.ok.mod.kin hm.kp (thn (ha.run pos pins s1 σ H1 _ I1 q) fun us s2 ⟨vs, H2, I2, r, q2⟩ => ⟨I2.kIn, ?_⟩) hst hpl
  exact run_fnS (us := .ref a :: us) (vs := .ref a :: vs) F hr hb (hx σ) I2 (.cons rfl r) q2
theorem pe_methS0 {CX : CXT} {C : Addr} {k : Nat} {f : Addr} {fd : FuncData} {ps : List Str} {sp : Sp} {E : St → XK} {o : Expr} {m : Str} {apos : Pos} {ta : TE} {pl : Sem Bool} (he : PE X o ta) (c : Cls X.K C) (hm : Meth X.K C m f) (F : FnOk X.prog X.w X.K X.mg X.base CX k f fd ps sp) (hr : Room k X.A) (hb : Binds X.K fd ps []) (hx : ∀ σ, PassesAt CX X σ (E σ))
    (ht : eval (.Call (.Attribute o m apos) [] [] pos) X.env = (do
      let ov ← eval o X.env
      standAt apos.atName
      let (f, first) ← holding [ov] (getMethod ov m pl)
      callWith pos f first (backTo pos (starEach [] X.env)) (backToKw pos (keywordEach [] X.env)))) :
    PE X (.Call (.Attribute o m apos) [] [] pos) (fun σ H Q => ta σ H fun x H1 => ∃ a dx fs, x = .ref a ∧ H1 a = some (.ins C dx fs) ∧ fs.lookup m = none ∧ sp [x] H1 Q (E σ)) := by
  refine ⟨fun pins s σ H Q I h => ?_⟩
  refine PySem.W.methodCall_KW (pl := pl) (thn (he.run pins s σ H _ I h) fun u s1 ⟨x, H1, I1, rx, a, dx, fs, ex, ea, l, q⟩ => ?_) ht
  subst ex
  obtain rfl : u = Value.ref a := rx
  refine getmeth_ok I1 ea c hm l ?_
  exact PySem.W.callWith_K0 (first := [.ref a]) I1.kIn hm.kp (run_fnS (us := [.ref a]) (vs := [.ref a]) F hr hb (hx σ) I1 (.cons rfl .nil) q)
/-- what is known of a method -/
structure MCal (P : Program) (w : World) (K : PySem.W.Frag) (mg : Str → Option Value) (base : Heap) (ca : CA) (k : Nat) (c m : Str) (n : Nat) (mf : List Sl → CR) : Prop where
  cls : Cls K (ca c)
  ex : ∃ (f : Addr) (fd : FuncData) (ps : List Str), Meth K (ca c) m f ∧ Binds K fd ps [] ∧ FnOk P w K mg base (L2.CX P w) k f fd ps (spM K ca n mf)
/-- slot i holds an instance of c, without an attribute m -/
def okI (i : Nat) (c m : Str) : M Unit := fun e => match e[i]? with
  | some (.o _ (.ins c' fs)) => if c' = c ∧ fs.lookup m = none then .ok () e else .bad
  | _ => .bad
def callMt (i : Nat) (c m : Str) (mf : List Sl → CR) (ma : M (List AV)) : M RV := bind (okI i c m) fun _ => callM mf (bind ma fun as => ret (.ref i :: as))
theorem okI_go {K : PySem.W.Frag} {F : Fr} {W : WX} {β γ : Type} {P : PP γ β} {Hs H : Hp} {ow : Addr → Prop} {env : List Sl} {σ : St} {Q : β → Hp → Prop} {i : Nat} {c m : Str} {f : Unit → M γ} (R : Rel K ca F ow env σ H) (g : GoG K ca F W P Hs ow env H σ Q (bind (okI i c m) f env)) :
    ∃ p dx us, σ[i]? = some (some (.ref p)) ∧ H p = some (.ins (ca c) dx us) ∧ us.lookup m = none ∧ GoG K ca F W P Hs ow env H σ Q (f () env) := by
  unfold bind okI at g
  split at g
  · rename_i a e' hh
    split at hh
    · rename_i l c' fs he
      by_cases hcc : c' = c ∧ fs.lookup m = none
      · rw [if_pos hcc] at hh
        cases hh
        obtain ⟨rfl, hl⟩ := hcc
        obtain ⟨p, hp, w, dx, us, h1, h2⟩ := R.own he
        exact ⟨p, dx, us, hp, h1, (h2.lookup m).1 hl, g⟩
      · rw [if_neg hcc] at hh; cases hh
    · cases hh
  · rename_i c e' hh
    split at hh
    · split at hh <;> cases hh
    · cases hh
  · exact g.elim
theorem mc_meth (i : Nat) {c m : Str} {k n : Nat} {x : Str} {p apos : Pos} {mf : List Sl → CR} {ma : M (List AV)} {pl : Sem Bool} (mc : MCal X.prog X.w X.K X.mg X.base ca k c m n mf) (hr : Room k X.A) (ha : MA ca X (e :: es) ma) (hlen : ∀ env as e', ma env = .ok as e' → as.length + 1 = n)
    (ht : eval (.Call (.Attribute (.Name x p) m apos) (e :: es) [] pos) X.env = (do
      let ov ← eval (.Name x p) X.env
      standAt apos.atName
      let (f, first) ← holding [ov] (getMethod ov m pl)
      callWith pos f first (backTo pos (starEach (e :: es) X.env)) (backToKw pos (keywordEach [] X.env))))
    (hN : X.N[i]? = some x := by rfl) (hv : Vis X.env.scope x := by first | exact Or.inl rfl | exact Or.inr (Or.inl rfl) | exact Or.inr (Or.inr rfl)) (hd : (x == ("__debug__" : Str)) = false := by decide) (hcd : (x == ("__classdict__" : Str)) = false := by decide)
    (hst : starEach (e :: es) X.env = (false, eval e X.env) :: starEach es X.env := by rfl) (hpl : (backTo pos (starEach es X.env)).any (·.1) = false := by rfl) : MC ca X (.Call (.Attribute (.Name x p) m apos) (e :: es) [] pos) (callMt i c m mf ma) := fun F W tk => by
  obtain ⟨f, fd, ps, hm, hb, fn⟩ := mc.ex
  refine PE.imp (pe_methS (pl := pl) (pe_var hN hv hd hcd) mc.cls hm fn hr hb (fun σ => passAt tk.t σ) (ha F W tk) hst hpl ht) fun σ H Q ⟨ow, env, R, g⟩ => ?_
  obtain ⟨q, dx, us, hq, h1, h2, g⟩ := okI_go R g
  refine ⟨.ref q, hq, q, dx, us, rfl, h1, h2, ow, env, R, ?_⟩
  unfold callM at g
  unfold bind at g
  cases hm' : ma env with
  | ok as e1 =>
    have hb' : (bind ma fun as => ret (.ref i :: as)) env = .ok (.ref i :: as) e1 := by unfold bind; rw [hm']; rfl
    unfold bind at hb'
    rw [hb'] at g
    rintro vs ow1 H1 g1 R1 p1
    have p2 : AvA X.K ca F H ow1 H1 e1 σ (.ref i :: as) (.ref q :: vs) := by
      unfold AvA
      exact ⟨.ref q, vs, rfl, hq, fun z => (by cases z), p1⟩
    exact go_called R1 p2 (by rw [List.length_cons, ← (AvA.get p1).1]; exact hlen _ _ _ hm') (fun x h => g1.dom x h) (g.mono g1)
  | ex c e =>
    have hb' : (bind ma fun as => ret (.ref i :: as)) env = .ex c e := by unfold bind; rw [hm']
    unfold bind at hb'
    rw [hb'] at g
    exact g
  | bad =>
    have hb' : (bind ma fun as => ret (.ref i :: as)) env = .bad := by unfold bind; rw [hm']
    unfold bind at hb'
    rw [hb'] at g
    exact g
theorem mc_meth0 (i : Nat) {c m : Str} {k : Nat} {x : Str} {p apos : Pos} {mf : List Sl → CR} {pl : Sem Bool} (mc : MCal X.prog X.w X.K X.mg X.base ca k c m 1 mf) (hr : Room k X.A)
    (ht : eval (.Call (.Attribute (.Name x p) m apos) [] [] pos) X.env = (do
      let ov ← eval (.Name x p) X.env
      standAt apos.atName
      let (f, first) ← holding [ov] (getMethod ov m pl)
      callWith pos f first (backTo pos (starEach [] X.env)) (backToKw pos (keywordEach [] X.env))))
    (hN : X.N[i]? = some x := by rfl) (hv : Vis X.env.scope x := by first | exact Or.inl rfl | exact Or.inr (Or.inl rfl) | exact Or.inr (Or.inr rfl)) (hd : (x == ("__debug__" : Str)) = false := by decide) (hcd : (x == ("__classdict__" : Str)) = false := by decide) : MC ca X (.Call (.Attribute (.Name x p) m apos) [] [] pos) (callMt i c m mf aNil) := fun F W tk => by
  obtain ⟨f, fd, ps, hm, hb, fn⟩ := mc.ex
  refine PE.imp (pe_methS0 (pl := pl) (pe_var hN hv hd hcd) mc.cls hm fn hr hb (fun σ => passAt tk.t σ) ht) fun σ H Q ⟨ow, env, R, g⟩ => ?_
  obtain ⟨q, dx, us, hq, h1, h2, g⟩ := okI_go R g
  have p2 : AvA X.K ca F H ow H env σ [.ref i] [.ref q] := by
    unfold AvA
    exact ⟨.ref q, [], rfl, hq, fun z => (by cases z), by unfold AvA; rfl⟩
  exact ⟨.ref q, hq, q, dx, us, rfl, h1, h2, go_called R p2 rfl (fun x h => h) g⟩
/-! ### making -/
theorem AvA.go {K : PySem.W.Frag} {F : Fr} {Hs H H' : Hp} {ow ow' : Addr → Prop} {e e' : List Sl} {σ : St} (g : Go σ ow e H ow' e' H') : ∀ {as : List AV} {vs : List V}, AvA K ca F Hs ow H e σ as vs → AvA K ca F Hs ow' H' e' σ as vs
  | [], _, h => h
  | a :: r, _, h => by
    unfold AvA at h ⊢
    obtain ⟨v, us, ev, h1, h2, h3⟩ := h
    exact ⟨v, us, ev, h1.go g, h2, AvA.go g h3⟩
structure Make (P : Program) (w : World) (K : PySem.W.Frag) (mg : Str → Option Value) (base : Heap) (ca : CA) (k : Nat) (c : Str) (n : Nat) (mf : List Sl → CR) : Prop where
  at_ : mg c = some (.ref (ca c))
  ex : ∃ (f : Addr) (fd : FuncData) (ps : List Str), Mk K (ca c) f ∧ Binds K fd ps [] ∧ FnOk P w K mg base (L2.CX P w) k f fd ps (spM K ca n mf)
def oMake (c : Str) (mf : List Sl → CR) (ma : M (List AV)) : M Ob := bind ma fun as => fun e => match ios e as 0 with
  | some none => match mf (.o false (.ins c []) :: (contents e as).map argOf) with
    | .ok (.d .none) outs => match (outs[0]? : Option Sl) with
      | some (Sl.o _ k) => .ok k e
      | _ => .bad
    | _ => .bad
  | _ => .bad
/-- an object that is loose has changed, nothing else -/
theorem Rel.looseChanged {K : PySem.W.Frag} {F : Fr} {ow : Addr → Prop} {H H' : Hp} {e : List Sl} {σ : St} {p : Addr} (R : Rel K ca F ow e σ H) (L : Loose F ow e σ p) (keep : ∀ a o, H a = some o → a ≠ p → H' a = some o) (dom : ∀ a, H' a = none → H a = none) : Rel K ca F ow e σ H' ∧ Stp ow H ow H' := by
  have st : Stp ow H ow H' := fun a o h n => ⟨keep a o h fun z => n (by rw [z]; exact L.1), n⟩
  refine ⟨R.step rfl (fun i s' h => .inl ⟨h, fun l k q hs hq => ?_⟩) st (fun _ h => h) (fun a z => ?_) (fun a u ha n => ?_) dom, st⟩
  · subst hs
    obtain ⟨q', eq, w, r⟩ := R.own h
    rw [hq] at eq
    cases eq
    obtain ⟨u, hu⟩ := r.there
    rw [keep q u hu fun z => L.2.2.2 i l k h (by rw [hq, z]), hu]
  · cases hh : H' a with
    | some o => exact ⟨o, rfl⟩
    | none =>
      obtain ⟨u, hu⟩ := R.trk a z
      rw [dom a hh] at hu; cases hu
  · refine keep a u (R.keep a u ha n) fun z => ?_
    rw [z, L.2.1] at ha; cases ha
theorem mo_make {c : Str} {k n : Nat} {p : Pos} {mf : List Sl → CR} {ma : M (List AV)} (mk : Make X.prog X.w X.K X.mg X.base ca k c n mf) (hr : Room (k + 1) X.A) (ha : MA ca X (e :: es) ma) (hlen : ∀ env as e', ma env = .ok as e' → as.length + 1 = n) (hg : Gl X c := by rfl)
    (hdb : (c == ("__debug__" : Str)) = false := by decide) (he : starEach (e :: es) X.env = (false, eval e X.env) :: starEach es X.env := by rfl) (hpl : (backTo pos (starEach es X.env)).any (·.1) = false := by rfl) :
    MO ca X (.Call (.Name c p) (e :: es) [] pos) (oMake c mf ma) := fun F W tk => by
  obtain ⟨f, fd, ps, M, hb, fn⟩ := mk.ex
  refine PE.imp (pe_make M fn hr hg mk.at_ hb .nil passL (ha F W tk) hdb he hpl) fun σ H Q ⟨ow, env, R, g⟩ => ?_
  refine ⟨ow, env, R, ?_⟩
  unfold oMake bind at g
  cases hm : ma env with
  | ok as e1 =>
    rw [hm] at g
    rintro vs ow1 H1 g1 R1 p1 x dx hx hdx hne
    have g2 := g.mono g1
    dsimp only at g2
    cases hi : ios e1 as 0 with
    | none => rw [hi] at g2; exact g2.elim
    | some w =>
      rw [hi] at g2
      cases w with
      | some ij => exact g2.elim
      | none =>
        dsimp only at g2
        have Ra := R1.gr (Gr.new (o := .own x) hdx)
        have hx' : upd H1 dx (.own x) x = none := by rw [upd_ne (fun z => hne z.symm)]; exact hx
        obtain ⟨Rb, L⟩ := Ra.more (o := .ins (ca c) dx []) hx'
        have ga := Go.gr R1 (Gr.new (o := .own x) hdx)
        have gb := Go.more Ra (o := .ins (ca c) dx []) hx'
        have p2 : AvA X.K ca F H (more ow1 x) _ e1 σ as vs := (AvA.go (ga.trans gb) p1)
        have A := argsOk Rb p2 hi
        have no_o : ∀ (i : Nat) (l : Bool) (k1 : Ob), ((contents e1 as).map argOf)[i]? ≠ some (Sl.o l k1) := fun i l k1 z => by
          obtain ⟨s0, e0, e2⟩ := argOf_get z
          cases s0 with
          | o l2 k2 => exact (ios_none hi i l2 k2).1 e0
          | _ => cases e2
        have io : ∀ a, IoA (.o false (.ins c []) :: (contents e1 as).map argOf) (.ref x :: vs) a → a = x := fun a ⟨i, k1, a1, a2⟩ => by
          cases i with
          | zero => cases a2; rfl
          | succ i => exact absurd a1 (no_o i false k1)
        rw [List.append_nil]
        refine ⟨more ow1 x, .o false (.ins c []) :: (contents e1 as).map argOf, ?_, ⟨?_, ?_, ?_, ?_⟩, Rb.trk, ?_⟩
        · rw [List.length_cons, ← (AvA.get p1).1]; exact hlen _ _ _ hm
        · rw [List.length_cons, List.length_cons, A.len]
        · intro i s v h1 h2
          cases i with
          | zero => cases h1; cases h2; exact ⟨x, rfl, .inr rfl, dx, [], upd_same, .nil⟩
          | succ i => exact A.sl i s v h1 h2
        · intro i k1 z
          cases i with
          | zero => cases z
          | succ i => exact no_o i true k1 z
        · intro i j q k1 k2 h1 h2 h3 h4
          cases i with
          | zero =>
            cases j with
            | zero => rfl
            | succ j => exact absurd h2 (no_o j false k2)
          | succ i => exact absurd h1 (no_o i false k1)
        · cases hmf : mf (.o false (.ins c []) :: (contents e1 as).map argOf) with
          | bad => rw [hmf] at g2; exact g2.elim
          | ex c2 outs => rw [hmf] at g2; exact g2.elim
          | ok r outs =>
            rw [hmf] at g2
            cases r with
            | o k1 => exact g2.elim
            | d y =>
              cases y with
              | none =>
                intro v H2 kp oo rp
                unfold Rp at rp
                refine ⟨rp, ?_⟩
                obtain ⟨k', ho, ro⟩ := oo 0 (.ins c []) x rfl rfl
                dsimp only at g2
                rw [ho] at g2
                dsimp only at g2
                obtain ⟨Rc, st⟩ := Rb.looseChanged L (fun a o h n => kp.keep a o h fun z => n (io a z)) kp.dom
                have gfin : Go σ ow env H (more ow1 x) e1 H2 := by
                  have g3 := (g1.trans ga).trans gb
                  refine ⟨g3.stp.trans st, fun q w n => ?_, fun a h => g3.dom a (kp.dom a h)⟩
                  obtain ⟨w3, h3, n3⟩ := g3.lo q w n
                  obtain ⟨u, hu⟩ := R.trk q w
                  have hq : q ≠ x := fun z => by rw [z, g1.dom x hx] at hu; cases hu
                  refine ⟨w3, ?_, n3⟩
                  rw [hu] at h3
                  rw [kp.keep q u h3 (fun z => hq (io q z)), hu]
                have g5 := g
                dsimp only at g5
                rw [hi] at g5
                dsimp only at g5
                rw [hmf] at g5
                dsimp only at g5
                rw [ho] at g5
                exact g5 (.ref x) _ H2 gfin Rc ⟨x, rfl, g1.dom x hx, ro, L⟩
              | _ => exact g2.elim
  | ex c2 e1 => rw [hm] at g; exact g
  | bad => rw [hm] at g; exact g
/-- a method of a fresh instance: C(..).m() -/
def callF (c m : Str) (mf : List Sl → CR) (mo : M Ob) : M RV := bind mo fun k => fun e => match k with
  | .ins c' fs => if c' = c ∧ fs.lookup m = none then match mf [.o false (.ins c' fs)] with
      | .ok r _ => .ok r e
      | .ex cx _ => .ex cx e
      | .bad => .bad
    else .bad
  | _ => .bad
theorem mc_methF {o : Expr} {c m : Str} {k : Nat} {apos : Pos} {mf : List Sl → CR} {mo : M Ob} {pl : Sem Bool} (mc : MCal X.prog X.w X.K X.mg X.base ca k c m 1 mf) (hr : Room k X.A) (ho : MO ca X o mo)
    (ht : eval (.Call (.Attribute o m apos) [] [] pos) X.env = (do
      let ov ← eval o X.env
      standAt apos.atName
      let (f, first) ← holding [ov] (getMethod ov m pl)
      callWith pos f first (backTo pos (starEach [] X.env)) (backToKw pos (keywordEach [] X.env)))) : MC ca X (.Call (.Attribute o m apos) [] [] pos) (callF c m mf mo) := fun F W tk => by
  obtain ⟨f, fd, ps, hm, hb, fn⟩ := mc.ex
  refine PE.imp (pe_methS0 (pl := pl) (ho F W tk) mc.cls hm fn hr hb (fun σ => passAt tk.t σ) ht) fun σ H Q ⟨ow, env, R, g⟩ => ?_
  refine ⟨ow, env, R, ?_⟩
  unfold callF bind at g
  cases hm : mo env with
  | bad => rw [hm] at g; exact g
  | ex c2 e1 => rw [hm] at g; exact g
  | ok k1 e1 =>
    rw [hm] at g
    rintro v ow1 H1 g1 R1 ⟨p, rfl, n, r, L⟩
    cases k1 with
    | lst xs => exact g.elim
    | dct kvs => exact g.elim
    | ins c' fs =>
      dsimp only at g
      by_cases hcc : c' = c ∧ fs.lookup m = none
      · rw [if_pos hcc] at g
        obtain ⟨rfl, hl⟩ := hcc
        obtain ⟨dx, us, h1, h2⟩ := id r
        refine ⟨p, dx, us, rfl, h1, (h2.lookup m).1 hl, ow1, [.o false (.ins c' fs)], rfl, ⟨rfl, ?_, ?_, ?_⟩, R1.trk, ?_⟩
        · intro i s v a1 a2
          cases i with
          | zero => cases a1; cases a2; exact ⟨p, rfl, L.1, r⟩
          | succ i => cases a1
        · intro i k2 z
          cases i with
          | zero => cases z
          | succ i => cases z
        · intro i j q k2 k3 a1 a2 a3 a4
          cases i with
          | zero =>
            cases j with
            | zero => rfl
            | succ j => cases a2
          | succ i => cases a1
        · have io : ∀ a, IoA [Sl.o false (.ins c' fs)] [V.ref p] a → a = p := fun a ⟨i, k2, a1, a2⟩ => by
            cases i with
            | zero => cases a2; rfl
            | succ i => cases a1
          have fin : ∀ {H2 : Hp}, Kept H1 H2 [Sl.o false (.ins c' fs)] [V.ref p] → Rel X.K ca F ow1 e1 σ H2 ∧ Stp ow1 H1 ow1 H2 ∧ Go σ ow env H ow1 e1 H2 := fun {H2} kp => by
            obtain ⟨Rc, st⟩ := R1.looseChanged L (fun a o h n => kp.keep a o h fun z => n (io a z)) kp.dom
            refine ⟨Rc, st, g1.stp.trans st, fun q w nq => ?_, fun a h => g1.dom a (kp.dom a h)⟩
            obtain ⟨w3, h3, n3⟩ := g1.lo q w nq
            obtain ⟨u, hu⟩ := R.trk q w
            have hq : q ≠ p := fun z => by rw [z, n] at hu; cases hu
            rw [hu] at h3
            exact ⟨w3, by rw [kp.keep q u h3 (fun z => hq (io q z)), hu], n3⟩
          cases hmf : mf [.o false (.ins c' fs)] with
          | bad => rw [hmf] at g; exact g.elim
          | ex c2 outs =>
            rw [hmf] at g
            intro H2 kp oo
            obtain ⟨Rc, st, gf⟩ := fin kp
            exact g ow1 H2 gf.stp Rc
          | ok rv outs =>
            rw [hmf] at g
            cases rv with
            | d x =>
              intro v H2 kp oo rp
              obtain ⟨Rc, st, gf⟩ := fin kp
              exact g v ow1 H2 gf Rc rp
            | o k2 =>
              intro q H2 kp hq hq' oo ro
              obtain ⟨Rc, st, gf⟩ := fin kp
              -- the new object is one's own
              have hqe : Gr (fun a => if a = q then none else H2 a) H2 := fun a o h => by
                by_cases z : a = q
                · simp only [if_pos z] at h; cases h
                · simp only [if_neg z] at h; exact h
              have tr : Trk (more ow1 q) H2 := fun a z => by
                rcases z with z | z
                · exact Rc.trk a z
                · rw [z]; exact hq'
              have st2 : Stp ow1 H1 (more ow1 q) H2 := fun a o h n => ⟨(st a o h n).1, fun z => by
                rcases z with z | z
                · exact n z
                · rw [z, hq] at h; cases h⟩
              have R3 : Rel X.K ca F (more ow1 q) e1 σ H2 := by
                refine R1.step rfl (fun i s' h => .inl ⟨h, fun l k3 q2 hs hq2 => ?_⟩) st2 (fun _ h => .inl h) tr (fun a u ha n => Rc.keep a u ha n) kp.dom
                subst hs
                obtain ⟨q3, eq, w, r3⟩ := R1.own h
                rw [hq2] at eq
                cases eq
                obtain ⟨u, hu⟩ := r3.there
                rw [kp.keep q2 u hu fun z => L.2.2.2 i l k3 h (by rw [hq2, io q2 z]), hu]
              refine g (.ref q) (more ow1 q) H2 ⟨g1.stp.trans st2, fun q2 w nq => ?_, gf.dom⟩ R3 ⟨q, rfl, g1.dom q hq, ro, loose_of (.inr rfl) (R1.dom q hq) (fun z => R1.free hq (R1.sub q z)) fun ⟨i, l, k3, a1, a2⟩ => ?_⟩
              · obtain ⟨a, b, c⟩ := gf.lo q2 w nq
                exact ⟨.inl a, b, c⟩
              · obtain ⟨q3, eq, w, r3⟩ := R1.own a1
                rw [a2] at eq
                cases eq
                obtain ⟨u, hu⟩ := r3.there
                rw [hq] at hu; cases hu
      · rw [if_neg hcc] at g; exact g.elim
end
end ML
end

section
set_option Elab.async false
set_option linter.all false
set_option maxRecDepth 100000
set_option maxHeartbeats 2000000
/-! # What each operator, built-in function and method gives, by plain data -/
namespace ML
open PySem L2
section
variable {K : PySem.W.Frag} {ca : CA} {ow : Addr → Prop} {H : Hp}
theorem sv_int {i : Int} {v : V} (r : Sl.d (.int i) ≠ .un → SvR K ca ow H (.d (.int i)) v) : v = .int i := by
  have q : Rp K ow H (.int i) v := r (by simp)
  unfold Rp at q; exact q
theorem sv_str {i : Str} {v : V} (r : Sl.d (.str i) ≠ .un → SvR K ca ow H (.d (.str i)) v) : v = .str i := by
  have q : Rp K ow H (.str i) v := r (by simp)
  unfold Rp at q; exact q
theorem sv_bool {i : Bool} {v : V} (r : Sl.d (.bool i) ≠ .un → SvR K ca ow H (.d (.bool i)) v) : v = .bl i := by
  have q : Rp K ow H (.bool i) v := r (by simp)
  unfold Rp at q; exact q
theorem sv_tup {xs : List D} {v : V} (r : Sl.d (.tuple xs) ≠ .un → SvR K ca ow H (.d (.tuple xs)) v) : ∃ a us, v = .ref a ∧ TupAt K ow H a us ∧ RpA K ow H xs us := by
  have q : Rp K ow H (.tuple xs) v := r (by simp)
  unfold Rp at q; exact q
theorem rp_int {i : Int} : Rp K ow H (.int i) (.int i) := by unfold Rp; rfl
theorem rp_str {i : Str} : Rp K ow H (.str i) (.str i) := by unfold Rp; rfl
theorem rp_bool {i : Bool} : Rp K ow H (.bool i) (.bl i) := by unfold Rp; rfl
theorem rp_none : Rp K ow H .none .non := by unfold Rp; rfl
end
/-! ### arithmetic -/
/-- two ints -/
def g2I (f : Int → Int → Option Int) : Sl → Sl → Option D
  | .d (.int i), .d (.int j) => (f i j).map PyData.int
  | _, _ => none
theorem ops_I {K : PySem.W.Frag} {ca : CA} {C : Int → Int → Prop} {g : Int → Int → Int} {f : Int → Int → Option Int} (h : ∀ i j z, f i j = some z → C i j ∧ g i j = z) : OpS K ca (rI C fun i j => .int (g i j)) (g2I f) := fun s t z ow H v1 v2 Q e r1 r2 tr k => by
  unfold g2I at e
  split at e
  · rename_i i j
    obtain ⟨y, ey, rfl⟩ := Option.map_eq_some_iff.mp e
    obtain ⟨hc, rfl⟩ := h i j y ey
    exact ⟨i, j, sv_int r1, sv_int r2, hc, k _ H Gr.refl rp_int⟩
  · cases e
theorem ops_I0 {K : PySem.W.Frag} {ca : CA} {g : Int → Int → Int} : OpS K ca (rI0 fun i j => .int (g i j)) (g2I fun i j => some (g i j)) := fun s t z ow H v1 v2 Q e r1 r2 tr k => by
  unfold g2I at e
  split at e
  · rename_i i j
    cases e
    exact ⟨i, j, sv_int r1, sv_int r2, k _ H Gr.refl rp_int⟩
  · cases e
def gB2 (f : Int → Int → Bool) : Sl → Sl → Option D
  | .d (.int i), .d (.int j) => some (.bool (f i j))
  | _, _ => none
theorem ops_B0 {K : PySem.W.Frag} {ca : CA} {g : Int → Int → Bool} : OpS K ca (rI0 fun i j => .bl (g i j)) (gB2 g) := fun s t z ow H v1 v2 Q e r1 r2 tr k => by
  unfold gB2 at e
  split at e
  · rename_i i j
    cases e
    exact ⟨i, j, sv_int r1, sv_int r2, k _ H Gr.refl rp_bool⟩
  · cases e
def small (i : Int) : Bool := decide (i.natAbs < 18446744073709551616)
def gMul : Sl → Sl → Option D := g2I fun i j => if small i = true ∨ small j = true then some (i * j) else none
def gDiv : Sl → Sl → Option D := g2I fun i j => if 0 < j ∧ j.natAbs < 1073741824 then some (i / j) else none
def gMod : Sl → Sl → Option D := g2I fun i j => if 0 < j then some (i % j) else none
def gPow : Sl → Sl → Option D := g2I fun i j => if 0 ≤ j ∧ j ≤ 1000000 ∧ i.natAbs < 2 ^ 64 then some (i ^ j.toNat) else none
def gSub : Sl → Sl → Option D := g2I fun i j => some (i - j)
def gLt : Sl → Sl → Option D := gB2 fun i j => decide (i < j)
def gLe : Sl → Sl → Option D := gB2 fun i j => decide (i ≤ j)
def gGt : Sl → Sl → Option D := gB2 fun i j => decide (j < i)
def gGe : Sl → Sl → Option D := gB2 fun i j => decide (j ≤ i)
section
variable {K : PySem.W.Frag} {ca : CA}
theorem s_mul : OpS K ca (rI CMul fun i j => .int (i * j)) gMul := ops_I (g := fun i j => i * j) fun i j z e => by
  obtain ⟨c, rfl⟩ := ite_some e
  refine ⟨?_, rfl⟩
  rcases c with c | c
  · have := of_decide_eq_true c
    exact .inl ⟨by omega, by omega⟩
  · have := of_decide_eq_true c
    exact .inr ⟨by omega, by omega⟩
theorem s_div : OpS K ca (rI CDiv fun i j => .int (i / j)) gDiv := ops_I (g := fun i j => i / j) fun i j z e => by
  obtain ⟨c, rfl⟩ := ite_some e
  exact ⟨⟨c.1, by omega⟩, rfl⟩
theorem s_mod : OpS K ca (rI (fun _ j => 0 < j) fun i j => .int (i % j)) gMod := ops_I (g := fun i j => i % j) fun i j z e => by
  obtain ⟨c, rfl⟩ := ite_some e
  exact ⟨c, rfl⟩
theorem s_pow : OpS K ca (rI CPow fun i j => .int (i ^ j.toNat)) gPow := ops_I (g := fun i j => i ^ j.toNat) fun i j z e => by
  obtain ⟨c, rfl⟩ := ite_some e
  exact ⟨c, rfl⟩
theorem s_sub : OpS K ca (rI0 fun i j => .int (i - j)) gSub := ops_I0 (g := fun i j => i - j)
theorem s_lt : OpS K ca (rI0 fun i j => .bl (decide (i < j))) gLt := ops_B0 (g := fun i j => decide (i < j))
theorem s_le : OpS K ca (rI0 fun i j => .bl (decide (i ≤ j))) gLe := ops_B0 (g := fun i j => decide (i ≤ j))
theorem s_gt : OpS K ca (rI0 fun i j => .bl (decide (j < i))) gGt := ops_B0 (g := fun i j => decide (j < i))
theorem s_ge : OpS K ca (rI0 fun i j => .bl (decide (j ≤ i))) gGe := ops_B0 (g := fun i j => decide (j ≤ i))
/-! ### + -/
def rAddD (K : PySem.W.Frag) : R2 := fun x y H Q => (rI0 (fun i j => .int (i + j)) x y H Q ∨ (∃ i j, x = .str i ∧ y = .str j ∧ i.length + j.length ≤ sizeLine ∧ Q (.str (i ++ j)) H)) ∨ rCatA K x y H Q
theorem op_addD {X : Cx} : OpR X (binaryOp .Add) (rAddD X.K) := OpR.or (OpR.or op_add op_add_str) op_catA
def gAdd : Sl → Sl → Option D
  | .d (.int i), .d (.int j) => some (.int (i + j))
  | .d (.str i), .d (.str j) => if i.length + j.length ≤ LIM then some (.str (i ++ j)) else none
  | .d (.tuple xs), .d (.tuple ys) => if xs.length + ys.length ≤ LIM then some (.tuple (xs ++ ys)) else none
  | _, _ => none
theorem RpA.nil_iff {ow : Addr → Prop} {H : Hp} {xs : List D} {us : List V} (h : RpA K ow H xs us) : us = [] ↔ xs = [] := by
  have l := h.length
  constructor
  · intro e; subst e; exact List.length_eq_zero_iff.mp l
  · intro e; subst e; exact List.length_eq_zero_iff.mp l.symm
theorem s_add : OpS K ca (rAddD K) gAdd := fun s t z ow H v1 v2 Q e r1 r2 tr k => by
  unfold gAdd at e
  split at e
  · cases e
    exact .inl (.inl ⟨_, _, sv_int r1, sv_int r2, k _ H Gr.refl rp_int⟩)
  · obtain ⟨hl, rfl⟩ := ite_some e
    exact .inl (.inr ⟨_, _, sv_str r1, sv_str r2, lim_line hl, k _ H Gr.refl rp_str⟩)
  · rename_i xs ys
    obtain ⟨hl, rfl⟩ := ite_some e
    obtain ⟨a, us, rfl, ha, ra⟩ := sv_tup r1
    obtain ⟨b, ws, rfl, hb, rb⟩ := sv_tup r2
    refine .inr ⟨a, b, us, ws, rfl, rfl, ha.sq, hb.sq, lim_line (by rw [← ra.length, ← rb.length]; exact hl), fun h => k _ H Gr.refl ?_, fun h1 h2 => k _ H Gr.refl ?_, fun h1 h2 p hp => k _ _ (Gr.new hp) ?_⟩
    · unfold Rp
      rw [(RpA.nil_iff ra).mp h, List.nil_append]
      exact ⟨b, ws, rfl, hb, rb⟩
    · unfold Rp
      rw [(RpA.nil_iff rb).mp h2, List.append_nil]
      exact ⟨a, us, rfl, ha, ra⟩
    · unfold Rp
      exact ⟨p, us ++ ws, rfl, .inl ⟨upd_same, fun z => by obtain ⟨o, ho⟩ := tr p z; rw [hp] at ho; cases ho⟩, (ra.append rb).stp (Gr.new hp).stp⟩
  · cases e
/-- lists -/
def gCat (s t : Sl) : Option (List D) := (slL s).bind fun xs => (slL t).bind fun ys => if xs.length + ys.length ≤ LIM then some (xs ++ ys) else none
theorem s_cat : OpF K ca rCat gCat := fun s t z ow H v1 v2 Q e r1 r2 tr k => by
  obtain ⟨xs, ex, e⟩ := Option.bind_eq_some_iff.mp e
  obtain ⟨ys, ey, e⟩ := Option.bind_eq_some_iff.mp e
  obtain ⟨hl, rfl⟩ := ite_some e
  obtain ⟨a, us, rfl, ha, ra⟩ := slL_ok ex r1
  obtain ⟨b, ws, rfl, hb, rb⟩ := slL_ok ey r2
  exact ⟨a, b, us, ws, rfl, rfl, ha, hb, lim_line (by rw [← ra.length, ← rb.length]; exact hl), fun p hp => k p _ hp (ra.append rb)⟩
/-! ### in place -/
theorem iop_addD {X : Cx} : OpR X (inplaceOp .Add) (fun x y H Q => rI0 (fun i j => .int (i + j)) x y H Q ∨ ∃ i j, x = .str i ∧ y = .str j ∧ i.length + j.length ≤ sizeLine ∧ Q (.str (i ++ j)) H) := OpR.or iop_add iop_add_str
def gIAdd : Sl → Sl → Option D
  | .d (.int i), .d (.int j) => some (.int (i + j))
  | .d (.str i), .d (.str j) => if i.length + j.length ≤ LIM then some (.str (i ++ j)) else none
  | _, _ => none
theorem s_iadd : OpS K ca (fun x y H Q => rI0 (fun i j => .int (i + j)) x y H Q ∨ ∃ i j, x = .str i ∧ y = .str j ∧ i.length + j.length ≤ sizeLine ∧ Q (.str (i ++ j)) H) gIAdd := fun s t z ow H v1 v2 Q e r1 r2 tr k => by
  unfold gIAdd at e
  split at e
  · cases e
    exact .inl ⟨_, _, sv_int r1, sv_int r2, k _ H Gr.refl rp_int⟩
  · obtain ⟨hl, rfl⟩ := ite_some e
    exact .inr ⟨_, _, sv_str r1, sv_str r2, lim_line hl, k _ H Gr.refl rp_str⟩
  · cases e
/-! ### == and != of data -/
mutual
/-- without a dict -/
def noDct : D → Bool
  | .list xs => noDctA xs
  | .tuple xs => noDctA xs
  | .dict _ => false
  | _ => true
def noDctA : List D → Bool
  | [] => true
  | x :: xs => noDct x && noDctA xs
end
mutual
theorem dp_of {ow : Addr → Prop} {H : Hp} : ∀ (d : D) (v : V), Rp K ow H d v → noDct d = true → Dp K H v d
  | .none, v, h, _ => by unfold Rp at h; subst h; exact .non
  | .bool b, v, h, _ => by unfold Rp at h; subst h; exact .bl b
  | .int i, v, h, _ => by unfold Rp at h; subst h; exact .int i
  | .str x, v, h, _ => by unfold Rp at h; subst h; exact .str x
  | .list ds, v, h, n => by
    unfold Rp at h
    unfold noDct at n
    obtain ⟨a, us, rfl, h1, _, h2⟩ := h
    exact .lst (SqL.of h1) (dpA_of ds us h2 n)
  | .tuple ds, v, h, n => by
    unfold Rp at h
    unfold noDct at n
    obtain ⟨a, us, rfl, h1, h2⟩ := h
    exact .tup h1.sq (dpA_of ds us h2 n)
  | .dict kvs, v, h, n => by unfold noDct at n; cases n
theorem dpA_of {ow : Addr → Prop} {H : Hp} : ∀ (ds : List D) (vs : List V), RpA K ow H ds vs → noDctA ds = true → DpAll K H vs ds
  | [], vs, h, _ => by unfold RpA at h; subst h; exact .nil
  | d :: ds, vs, h, n => by
    unfold RpA at h
    unfold noDctA at n
    obtain ⟨v, us, rfl, h1, h2⟩ := h
    obtain ⟨n1, n2⟩ := Bool.and_eq_true_iff.mp n
    exact .cons (dp_of d v h1 n1) (dpA_of ds us h2 n2)
end
/-- what a slot's content is as data, for a comparison -/
def slD : Sl → Option D
  | .d x => some x
  | .o _ (.lst xs) => some (.list xs)
  | _ => none
theorem slD_dp {ow : Addr → Prop} {H : Hp} {s : Sl} {d : D} {v : V} (e : slD s = some d) (r : s ≠ .un → SvR K ca ow H s v) (n : noDct d = true) : Dp K H v d := by
  unfold slD at e
  split at e
  · cases e; exact dp_of _ v (r (by simp)) n
  · cases e
    obtain ⟨p, rfl, w, us, h1, h2⟩ := r (by simp)
    unfold noDct at n
    exact .lst (SqL.of h1) (dpA_of _ us h2 n)
  · cases e
def eqOk (d : D) : Bool := noDct d && SeqAt.shaped d
def gEq (neg : Bool) (s t : Sl) : Option D := (slD s).bind fun x => (slD t).bind fun y => if eqOk x = true ∧ eqOk y = true then some (.bool (neg ^^ PyData.eqv x y)) else none
theorem s_eq : OpS K ca (rEqD K) (gEq false) := fun s t z ow H v1 v2 Q e r1 r2 tr k => by
  obtain ⟨x, ex, e⟩ := Option.bind_eq_some_iff.mp e
  obtain ⟨y, ey, e⟩ := Option.bind_eq_some_iff.mp e
  obtain ⟨⟨h1, h2⟩, rfl⟩ := ite_some e
  obtain ⟨a1, a2⟩ := Bool.and_eq_true_iff.mp h1
  obtain ⟨b1, b2⟩ := Bool.and_eq_true_iff.mp h2
  exact ⟨x, y, slD_dp ex r1 a1, slD_dp ey r2 b1, a2, b2, k _ H Gr.refl (by unfold Rp; rw [Bool.false_xor])⟩
theorem s_ne : OpS K ca (rNeD K) (gEq true) := fun s t z ow H v1 v2 Q e r1 r2 tr k => by
  obtain ⟨x, ex, e⟩ := Option.bind_eq_some_iff.mp e
  obtain ⟨y, ey, e⟩ := Option.bind_eq_some_iff.mp e
  obtain ⟨⟨h1, h2⟩, rfl⟩ := ite_some e
  obtain ⟨a1, a2⟩ := Bool.and_eq_true_iff.mp h1
  obtain ⟨b1, b2⟩ := Bool.and_eq_true_iff.mp h2
  exact ⟨x, y, slD_dp ex r1 a1, slD_dp ey r2 b1, a2, b2, k _ H Gr.refl (by unfold Rp; rw [Bool.true_xor])⟩
/-! ### is None -/
def isNone : D → Bool
  | .none => true
  | _ => false
def gIsN (neg : Bool) (s t : Sl) : Option D := match s, t with
  | .d x, .d .none => some (.bool (neg ^^ isNone x))
  | _, _ => none
theorem rp_isN {ow : Addr → Prop} {H : Hp} {d : D} {v : V} (r : Rp K ow H d v) : decide (v = .non) = isNone d := by
  cases d with
  | none => unfold Rp at r; subst r; rfl
  | bool b => unfold Rp at r; subst r; rfl
  | int b => unfold Rp at r; subst r; rfl
  | str b => unfold Rp at r; subst r; rfl
  | list b => unfold Rp at r; obtain ⟨a, xs, rfl, _⟩ := r; rfl
  | tuple b => unfold Rp at r; obtain ⟨a, xs, rfl, _⟩ := r; rfl
  | dict b => unfold Rp at r; obtain ⟨a, xs, rfl, _⟩ := r; rfl
theorem s_isN : OpS K ca (fun x y H Q => y = .non ∧ Q (.bl (decide (x = .non))) H) (gIsN false) := fun s t z ow H v1 v2 Q e r1 r2 tr k => by
  unfold gIsN at e
  split at e
  · rename_i x
    cases e
    have q : Rp K ow H .none v2 := r2 (by simp)
    unfold Rp at q
    refine ⟨q, ?_⟩
    rw [rp_isN (r1 (by simp))]
    exact k _ H Gr.refl (by unfold Rp; rw [Bool.false_xor])
  · cases e
theorem s_notN : OpS K ca (fun x y H Q => y = .non ∧ Q (.bl (!decide (x = .non))) H) (gIsN true) := fun s t z ow H v1 v2 Q e r1 r2 tr k => by
  unfold gIsN at e
  split at e
  · rename_i x
    cases e
    have q : Rp K ow H .none v2 := r2 (by simp)
    unfold Rp at q
    refine ⟨q, ?_⟩
    rw [rp_isN (r1 (by simp))]
    exact k _ H Gr.refl (by unfold Rp; rw [Bool.true_xor])
  · cases e
/-! ### in -/
def rInA (K : PySem.W.Frag) (neg : Bool) : R2 := fun x y H Q => (∃ (c : Nat) (z : Str), x = .str ⟨#[c]⟩ ∧ y = .str z ∧ Q (.bl (neg ^^ decide (c ∈ z.cps.toList))) H) ∨ rIn K neg x y H Q
theorem op_inA {X : Cx} : OpR X (compareOp .In) (rInA X.K false) := fun pins s σ H x y v u Q I rx ry h => by
  rcases h with ⟨c, z, e1, e2, q⟩ | h
  · exact op_in_sign pins s σ H x y v u Q I rx ry ⟨c, z, e1, e2, by rw [Bool.false_xor] at q; exact q⟩
  · exact op_in_seq pins s σ H x y v u Q I rx ry h
theorem op_ninA {X : Cx} : OpR X (compareOp .NotIn) (rInA X.K true) := fun pins s σ H x y v u Q I rx ry h => by
  rcases h with ⟨c, z, e1, e2, q⟩ | h
  · exact op_notIn_sign pins s σ H x y v u Q I rx ry ⟨c, z, e1, e2, by rw [Bool.true_xor] at q; exact q⟩
  · exact op_notIn_seq pins s σ H x y v u Q I rx ry h
/-- a scalar as a value -/
def dV : D → Option V
  | .none => some .non
  | .bool b => some (.bl b)
  | .int i => some (.int i)
  | .str x => some (.str x)
  | _ => none
def dVs : List D → Option (List V)
  | [] => some []
  | d :: ds => (dV d).bind fun v => (dVs ds).map fun vs => v :: vs
def seqOf : Sl → Option (List D)
  | .d (.list xs) => some xs
  | .d (.tuple xs) => some xs
  | .o _ (.lst xs) => some xs
  | _ => none
theorem seqOf_ok {ow : Addr → Prop} {H : Hp} {s : Sl} {v : V} {xs : List D} (h : seqOf s = some xs) (r : s ≠ .un → SvR K ca ow H s v) : ∃ a us, v = .ref a ∧ (SqL K H a us ∨ SqT K H a us) ∧ RpA K ow H xs us := by
  unfold seqOf at h
  split at h
  · cases h
    have q : Rp K ow H (.list xs) v := r (by simp)
    unfold Rp at q
    obtain ⟨a, us, e, h1, _, h2⟩ := q
    exact ⟨a, us, e, .inl (SqL.of h1), h2⟩
  · cases h
    obtain ⟨a, us, e, h1, h2⟩ := sv_tup r
    exact ⟨a, us, e, .inr h1.sq, h2⟩
  · cases h
    obtain ⟨p, e, w, us, h1, h2⟩ := r (by simp)
    exact ⟨p, us, e, .inl (SqL.of h1), h2⟩
  · cases h
theorem dV_ok {ow : Addr → Prop} {H : Hp} {d : D} {v u : V} (h : dV d = some u) (r : Rp K ow H d v) : v = u ∧ flatV u = true := by
  cases d <;> first | (cases h; unfold Rp at r; exact ⟨r, rfl⟩) | cases h
theorem dVs_ok {ow : Addr → Prop} {H : Hp} : ∀ {ds : List D} {vs us : List V}, dVs ds = some us → RpA K ow H ds vs → vs = us ∧ us.all flatV = true
  | [], _, _, h, r => by
    cases h
    unfold RpA at r
    exact ⟨r, rfl⟩
  | d :: ds, _, _, h, r => by
    unfold dVs at h
    obtain ⟨v, hv, h⟩ := Option.bind_eq_some_iff.mp h
    obtain ⟨vs, hvs, rfl⟩ := Option.map_eq_some_iff.mp h
    unfold RpA at r
    obtain ⟨w, ws, rfl, r1, r2⟩ := r
    obtain ⟨rfl, f1⟩ := dV_ok hv r1
    obtain ⟨rfl, f2⟩ := dVs_ok hvs r2
    exact ⟨rfl, by rw [List.all_cons, f1, f2]; rfl⟩
def gIn (neg : Bool) (s t : Sl) : Option D := match s, t with
  | .d (.str x), .d (.str z) => match x.cps.toList with
    | [c] => some (.bool (neg ^^ decide (c ∈ z.cps.toList)))
    | _ => none
  | .d x, t => (dV x).bind fun v => (seqOf t).bind fun ds => (dVs ds).map fun us => .bool (if neg then !inV v us else inV v us)
  | _, _ => none
theorem s_in {neg : Bool} : OpS K ca (rInA K neg) (gIn neg) := fun s t z ow H v1 v2 Q e r1 r2 tr k => by
  unfold gIn at e
  split at e
  · rename_i x z'
    split at e
    · rename_i c hc
      cases e
      have hx : x = ⟨#[c]⟩ := by
        obtain ⟨cps⟩ := x
        have : cps = #[c] := by rw [← Array.toArray_toList (xs := cps)]; rw [show cps.toList = [c] from hc]
        rw [this]
      refine .inl ⟨c, z', ?_, sv_str r2, k _ H Gr.refl rp_bool⟩
      rw [← hx]; exact sv_str r1
    · cases e
  · rename_i x
    obtain ⟨v, hv, e⟩ := Option.bind_eq_some_iff.mp e
    obtain ⟨ds, hds, e⟩ := Option.bind_eq_some_iff.mp e
    obtain ⟨us, hus, rfl⟩ := Option.map_eq_some_iff.mp e
    obtain ⟨a, ws, rfl, ha, ra⟩ := seqOf_ok hds r2
    obtain ⟨rfl, f1⟩ := dV_ok hv (r1 (by simp))
    obtain ⟨rfl, f2⟩ := dVs_ok hus ra
    exact .inr ⟨a, ws, rfl, ha, f1, f2, k _ H Gr.refl rp_bool⟩
  · cases e
/-! ### negation -/
def gNeg : Sl → Option D
  | .d (.int i) => some (.int (-i))
  | _ => none
end
def e1 (g : Sl → Option D) (m : M D) : M D := bind m fun x => lift (g (.d x))
theorem me_neg {ca : CA} {X : Cx} {a : Expr} {pos : Pos} {m : M D} (h : ME ca X a m) : ME ca X (.UnaryOp .USub a pos) (e1 gNeg m) := fun F W tk => PE.imp (pe_un un_neg (h F W tk)) fun σ H Q ⟨ow, env, R, g⟩ => go_bind R g fun x e1 v ow1 H1 g1 R1 p1 q1 => by
  obtain ⟨z, ez, q⟩ := lift_go q1
  unfold gNeg at ez
  split at ez
  · rename_i i hi
    cases ez
    cases hi
    have p1' : Rp X.K ow1 H1 (.int i) v := p1
    unfold Rp at p1'
    exact ⟨i, p1', go_val R1 q Gr.refl rp_int⟩
  · cases ez
/-! ### built-in functions -/
section
variable {K : PySem.W.Frag} {ca : CA}
theorem sva1 {ow : Addr → Prop} {H : Hp} {s : Sl} {vs : List V} (h : SvA K ca ow H [s] vs) : ∃ v, vs = [v] ∧ (s ≠ .un → SvR K ca ow H s v) := by
  unfold SvA at h
  obtain ⟨v, us, rfl, h1, t⟩ := h
  unfold SvA at t
  subst t
  exact ⟨v, rfl, h1⟩
theorem sva2 {ow : Addr → Prop} {H : Hp} {s t : Sl} {vs : List V} (h : SvA K ca ow H [s, t] vs) : ∃ v w, vs = [v, w] ∧ (s ≠ .un → SvR K ca ow H s v) ∧ (t ≠ .un → SvR K ca ow H t w) := by
  unfold SvA at h
  obtain ⟨v, us, rfl, h1, t⟩ := h
  obtain ⟨w, rfl, h2⟩ := sva1 t
  exact ⟨v, w, rfl, h1, h2⟩
def bLen : List Sl → Option D
  | [.d (.str z)] => if z.length ≤ LIM then some (.int z.length) else none
  | [.sc ns] => some (.int ns.length)
  | [s] => (seqOf s).map fun xs => .int xs.length
  | _ => none
theorem b_len : BltS K ca (fun xs H Q => ∃ x n, xs = [x] ∧ LenV K x H n ∧ Q (.int n) H) bLen := fun ss z ow H vs Q e h tr k => by
  unfold bLen at e
  split at e
  · obtain ⟨hl, rfl⟩ := ite_some e
    obtain ⟨v, rfl, r⟩ := sva1 h
    have ev := sv_str r
    subst ev
    exact ⟨_, _, rfl, ⟨lim_line hl, rfl⟩, k _ H Gr.refl rp_int⟩
  · rename_i ns
    cases e
    obtain ⟨v, rfl, r⟩ := sva1 h
    obtain ⟨a, rfl, h1⟩ := r (by simp)
    exact ⟨_, ns.length, rfl, .inl ⟨_, h1.sq, by rw [List.length_map]⟩, k _ H Gr.refl rp_int⟩
  · rename_i s _ _
    obtain ⟨xs, hx, rfl⟩ := Option.map_eq_some_iff.mp e
    obtain ⟨v, rfl, r⟩ := sva1 h
    obtain ⟨a, us, rfl, h1, h2⟩ := seqOf_ok hx r
    refine ⟨_, xs.length, rfl, ?_, k _ H Gr.refl rp_int⟩
    rcases h1 with h1 | h1
    · exact .inl ⟨us, h1, h2.length⟩
    · exact .inr ⟨us, h1, h2.length⟩
  · cases e
def bInt : List Sl → Option D
  | [.d (.int i)] => some (.int i)
  | [.d (.bool b)] => some (.int (if b then 1 else 0))
  | _ => none
theorem b_int : BltS K ca (fun xs H Q => (∃ i, xs = [.int i] ∧ Q (.int i) H) ∨ ∃ k, xs = [.bl k] ∧ Q (.int (if k then 1 else 0)) H) bInt := fun ss z ow H vs Q e h tr k => by
  unfold bInt at e
  split at e
  · cases e
    obtain ⟨v, rfl, r⟩ := sva1 h
    have ev := sv_int r
    subst ev
    exact .inl ⟨_, rfl, k _ H Gr.refl rp_int⟩
  · cases e
    obtain ⟨v, rfl, r⟩ := sva1 h
    have ev := sv_bool r
    subst ev
    exact .inr ⟨_, rfl, k _ H Gr.refl rp_int⟩
  · cases e
def bAbs : List Sl → Option D
  | [.d (.int i)] => some (.int (if i < 0 then -i else i))
  | _ => none
theorem b_abs : BltS K ca (fun xs H Q => ∃ i, xs = [.int i] ∧ Q (.int (if i < 0 then -i else i)) H) bAbs := fun ss z ow H vs Q e h tr k => by
  unfold bAbs at e
  split at e
  · cases e
    obtain ⟨v, rfl, r⟩ := sva1 h
    have ev := sv_int r
    subst ev
    exact ⟨_, rfl, k _ H Gr.refl rp_int⟩
  · cases e
def bOrd : List Sl → Option D
  | [.d (.str x)] => if x.length = 1 then some (.int (x.cps.getD 0 0 : Nat)) else none
  | _ => none
theorem b_ord : BltS K ca (fun xs H Q => ∃ x, xs = [.str x] ∧ x.length = 1 ∧ Q (.int (x.cps.getD 0 0 : Nat)) H) bOrd := fun ss z ow H vs Q e h tr k => by
  unfold bOrd at e
  split at e
  · obtain ⟨hl, rfl⟩ := ite_some e
    obtain ⟨v, rfl, r⟩ := sva1 h
    have ev := sv_str r
    subst ev
    exact ⟨_, rfl, hl, k _ H Gr.refl rp_int⟩
  · cases e
def bMin : List Sl → Option D
  | [.d (.int i), .d (.int j)] => some (.int (if j < i then j else i))
  | _ => none
theorem b_min : BltS K ca (fun xs H Q => ∃ i j, xs = [.int i, .int j] ∧ Q (.int (if j < i then j else i)) H) bMin := fun ss z ow H vs Q e h tr k => by
  unfold bMin at e
  split at e
  · cases e
    obtain ⟨v, w, rfl, r, r2⟩ := sva2 h
    have ev := sv_int r
    have ew := sv_int r2
    subst ev ew
    exact ⟨_, _, rfl, k _ H Gr.refl rp_int⟩
  · cases e
def bMax : List Sl → Option D
  | [.d (.int i), .d (.int j)] => some (.int (if j > i then j else i))
  | _ => none
theorem b_max : BltS K ca (fun xs H Q => ∃ i j, xs = [.int i, .int j] ∧ Q (.int (if j > i then j else i)) H) bMax := fun ss z ow H vs Q e h tr k => by
  unfold bMax at e
  split at e
  · cases e
    obtain ⟨v, w, rfl, r, r2⟩ := sva2 h
    have ev := sv_int r
    have ew := sv_int r2
    subst ev ew
    exact ⟨_, _, rfl, k _ H Gr.refl rp_int⟩
  · cases e
/-- ints, bools of a list -/
def dInts : List D → Option (List Int)
  | [] => some []
  | .int i :: r => (dInts r).map fun is => i :: is
  | _ => none
def dBools : List D → Option (List Bool)
  | [] => some []
  | .bool i :: r => (dBools r).map fun is => i :: is
  | _ => none
def dStrs : List D → Option (List Str)
  | [] => some []
  | .str i :: r => (dStrs r).map fun is => i :: is
  | _ => none
theorem dInts_ok {ow : Addr → Prop} {H : Hp} : ∀ {ds : List D} {vs : List V} {is : List Int}, dInts ds = some is → RpA K ow H ds vs → vs = is.map V.int
  | [], _, _, h, r => by cases h; unfold RpA at r; exact r
  | .int i :: ds, _, _, h, r => by
    unfold dInts at h
    obtain ⟨js, hj, rfl⟩ := Option.map_eq_some_iff.mp h
    unfold RpA at r
    obtain ⟨v, us, rfl, r1, r2⟩ := r
    unfold Rp at r1
    rw [r1, dInts_ok hj r2]; rfl
theorem dBools_ok {ow : Addr → Prop} {H : Hp} : ∀ {ds : List D} {vs : List V} {is : List Bool}, dBools ds = some is → RpA K ow H ds vs → vs = is.map V.bl
  | [], _, _, h, r => by cases h; unfold RpA at r; exact r
  | .bool i :: ds, _, _, h, r => by
    unfold dBools at h
    obtain ⟨js, hj, rfl⟩ := Option.map_eq_some_iff.mp h
    unfold RpA at r
    obtain ⟨v, us, rfl, r1, r2⟩ := r
    unfold Rp at r1
    rw [r1, dBools_ok hj r2]; rfl
theorem dStrs_ok {ow : Addr → Prop} {H : Hp} : ∀ {ds : List D} {vs : List V} {is : List Str}, dStrs ds = some is → RpA K ow H ds vs → vs = is.map V.str
  | [], _, _, h, r => by cases h; unfold RpA at r; exact r
  | .str i :: ds, _, _, h, r => by
    unfold dStrs at h
    obtain ⟨js, hj, rfl⟩ := Option.map_eq_some_iff.mp h
    unfold RpA at r
    obtain ⟨v, us, rfl, r1, r2⟩ := r
    unfold Rp at r1
    rw [r1, dStrs_ok hj r2]; rfl
def bSum : List Sl → Option D
  | [s] => (slL s).bind fun xs => (dInts xs).map fun is => .int is.sum
  | _ => none
theorem b_sum : BltS K ca (rSum K) bSum := fun ss z ow H vs Q e h tr k => by
  unfold bSum at e
  split at e
  · obtain ⟨xs, hx, e⟩ := Option.bind_eq_some_iff.mp e
    obtain ⟨is, hi, rfl⟩ := Option.map_eq_some_iff.mp e
    obtain ⟨v, rfl, r⟩ := sva1 h
    obtain ⟨a, us, rfl, h1, h2⟩ := slL_ok hx r
    exact ⟨a, is, rfl, by rw [← dInts_ok hi h2]; exact SqL.of h1, k _ H Gr.refl rp_int⟩
  · cases e
def bAll : List Sl → Option D
  | [s] => (slL s).bind fun xs => (dBools xs).map fun is => .bool (is.all id)
  | _ => none
theorem b_all : BltS K ca (rAll K) bAll := fun ss z ow H vs Q e h tr k => by
  unfold bAll at e
  split at e
  · obtain ⟨xs, hx, e⟩ := Option.bind_eq_some_iff.mp e
    obtain ⟨is, hi, rfl⟩ := Option.map_eq_some_iff.mp e
    obtain ⟨v, rfl, r⟩ := sva1 h
    obtain ⟨a, us, rfl, h1, h2⟩ := slL_ok hx r
    exact ⟨a, is, rfl, by rw [← dBools_ok hi h2]; exact SqL.of h1, k _ H Gr.refl rp_bool⟩
  · cases e
def bListOf : List Sl → Option (List D)
  | [s] => seqOf s
  | _ => none
theorem b_list : BltF K ca (fun xs H Q => ∃ p ys, xs = [.ref p] ∧ (SqL K H p ys ∨ SqT K H p ys) ∧ ∀ l, H l = none → Q (.ref l) (upd H l (.lst ys))) bListOf := fun ss z ow H vs Q e h tr k => by
  unfold bListOf at e
  split at e
  · obtain ⟨v, rfl, r⟩ := sva1 h
    obtain ⟨a, us, rfl, h1, h2⟩ := seqOf_ok e r
    exact ⟨a, us, rfl, h1, fun l hl => k l us hl h2⟩
  · cases e
def bTupOf : List Sl → Option D
  | [s] => (seqOf s).map PyData.tuple
  | _ => none
theorem b_tup : BltS K ca (fun xs H Q => ∃ p ys, xs = [.ref p] ∧ ((SqL K H p ys ∧ ∀ l, H l = none → Q (.ref l) (upd H l (.tup ys))) ∨ (SqT K H p ys ∧ Q (.ref p) H))) bTupOf := fun ss z ow H vs Q e h tr k => by
  unfold bTupOf at e
  split at e
  · obtain ⟨xs, hx, rfl⟩ := Option.map_eq_some_iff.mp e
    obtain ⟨v, rfl, r⟩ := sva1 h
    have new : ∀ {a : Addr} {us : List V}, RpA K ow H xs us → ∀ l, H l = none → Q (.ref l) (upd H l (.tup us)) := fun {a us} h2 l hl => k _ _ (Gr.new hl) (by
      unfold Rp
      exact ⟨l, us, rfl, .inl ⟨upd_same, fun z => by obtain ⟨o, ho⟩ := tr l z; rw [hl] at ho; cases ho⟩, h2.stp (Gr.new hl).stp⟩)
    unfold seqOf at hx
    split at hx
    · cases hx
      have q : Rp K ow H (.list xs) v := r (by simp)
      unfold Rp at q
      obtain ⟨a, us, rfl, h1, _, h2⟩ := q
      exact ⟨a, us, rfl, .inl ⟨SqL.of h1, new (a := a) h2⟩⟩
    · cases hx
      obtain ⟨a, us, rfl, h1, h2⟩ := sv_tup r
      exact ⟨a, us, rfl, .inr ⟨h1.sq, k _ H Gr.refl (by unfold Rp; exact ⟨a, us, rfl, h1, h2⟩)⟩⟩
    · cases hx
      obtain ⟨p, rfl, w, us, h1, h2⟩ := r (by simp)
      exact ⟨p, us, rfl, .inl ⟨SqL.of h1, new (a := p) h2⟩⟩
    · cases hx
  · cases e
end
/-! ### isinstance -/
def tyName : D → String
  | .none => "NoneType"
  | .bool _ => "bool"
  | .int _ => "int"
  | .str _ => "str"
  | .list _ => "list"
  | .tuple _ => "tuple"
  | .dict _ => "dict"
/-- of a built-in type -/
def isTy (T : String) (d : D) : Bool := tyName d == T || (T == "int" && tyName d == "bool")
def TyKnown (T : String) : Prop := ∀ n ∈ ["NoneType", "bool", "int", "str", "list", "tuple", "dict"], kitB n T = some (n == T || (T == "int" && n == "bool"))
theorem tyK_int : TyKnown "int" := by intro n hn; revert n; decide +kernel
theorem tyK_bool : TyKnown "bool" := by intro n hn; revert n; decide +kernel
theorem tyK_str : TyKnown "str" := by intro n hn; revert n; decide +kernel
theorem tyK_list : TyKnown "list" := by intro n hn; revert n; decide +kernel
theorem tyK_tuple : TyKnown "tuple" := by intro n hn; revert n; decide +kernel
theorem tyK_dict : TyKnown "dict" := by intro n hn; revert n; decide +kernel
theorem tyName_mem (d : D) : tyName d ∈ ["NoneType", "bool", "int", "str", "list", "tuple", "dict"] := by cases d <;> simp [tyName]
theorem tyX_of {K : PySem.W.Frag} {ow : Addr → Prop} {H : Hp} {d : D} {v : V} (r : Rp K ow H d v) : TyX K H v (.type (tyName d)) := by
  cases d with
  | none => unfold Rp at r; subst r; exact .base .non
  | bool b => unfold Rp at r; subst r; exact .base (.bl b)
  | int b => unfold Rp at r; subst r; exact .base (.int b)
  | str b => unfold Rp at r; subst r; exact .base (.str b)
  | list b => unfold Rp at r; obtain ⟨a, xs, rfl, h, _⟩ := r; exact .base (.lst h)
  | tuple b =>
    unfold Rp at r
    obtain ⟨a, xs, rfl, h, _⟩ := r
    rcases h with ⟨h, _⟩ | ⟨o, its, n, h, c, _⟩
    · exact .base (.tup h)
    · exact .kTuple h c
  | dict b => unfold Rp at r; obtain ⟨a, xs, rfl, h, _⟩ := r; exact .base (.dK h)
/-- isinstance(e, T) -/
def eIsi (T : String) (m : M D) : M D := bind m fun x => ret (.bool (isTy T x))
theorem me_isi {ca : CA} {X : Cx} {e : Expr} {p p2 pos : Pos} {T : String} {m : M D} (h : ME ca X e m) (hm : X.mg "isinstance" = none) (hmT : X.mg (Str.ofString T) = none) (hT : TyKnown T) (hb : bootBuiltins (Str.ofString T) = some (.type T)) (hg : Gl X "isinstance" := by rfl) (hgT : Gl X (Str.ofString T) := by rfl)
    (hnT : (Str.ofString T) ≠ "__name__" := by decide) (hdT : ((Str.ofString T) == ("__debug__" : Str)) = false := by decide)
    (he1 : starEach [e, .Name (Str.ofString T) p2] X.env = (false, eval e X.env) :: starEach [.Name (Str.ofString T) p2] X.env := by rfl) (he2 : starEach [.Name (Str.ofString T) p2] X.env = (false, eval (.Name (Str.ofString T) p2) X.env) :: starEach [] X.env := by rfl)
    (hpl : (backTo pos (starEach [.Name (Str.ofString T) p2] X.env)).any (·.1) = false := by rfl) :
    ME ca X (.Call (.Name "isinstance" p) [e, .Name (Str.ofString T) p2] [] pos) (eIsi T m) := fun F W tk =>
  PE.imp (pe_callB call_isi hg hm (by decide +kernel) (pa_cons (h F W tk) (pa_cons (pe_bltn (v := .ty T) hgT hmT hb rfl hnT hdT) pa_nil he2) he1) (by decide) (by decide) he1 hpl) fun σ H Q ⟨ow, env, R, g⟩ => go_bind R g fun x e1 v ow1 H1 g1 R1 p1 q1 =>
    ⟨v, .ty T, .type (tyName x), .type T, _, rfl, .ty T, tyX_of p1, kit_ty (hT _ (tyName_mem x)), q1 _ ow1 H1 Go.refl R1 rp_bool⟩
end ML
end

section
set_option Elab.async false
set_option linter.all false
set_option maxRecDepth 100000
set_option maxHeartbeats 2000000
/-! # Names of the module, chains, subscripts, slices, strings -/
namespace ML
open PySem L2
/-! ### a module's constant -/
theorem me_gl {ca : CA} {X : Cx} {pos : Pos} {x : Str} {v : V} {u : Value} {d : D} (hm : X.mg x = some u) (r : RelV v u) (rp : ∀ ow H, Rp X.K ow H d v) (hg : Gl X x := by rfl) (hd : (x == ("__debug__" : Str)) = false := by decide) : ME ca X (.Name x pos) (eC d) := fun F W _ =>
  PE.imp (pe_glob hg hm r hd) fun σ H Q h => go_pure (H := H) (v := v) ⟨_, _, h.choose_spec.choose_spec.1, h.choose_spec.choose_spec.2⟩ fun ow => rp ow H
section
variable {K : PySem.W.Frag} {ca : CA}
theorem rg_int {i : Int} (ow : Addr → Prop) (H : Hp) : Rp K ow H (.int i) (.int i) := rp_int
theorem rg_str {i : Str} (ow : Addr → Prop) (H : Hp) : Rp K ow H (.str i) (.str i) := rp_str
/-! ### subscripts -/
def ixD (xs : List D) : Sl → Option D
  | .d (.int i) => atI xs i
  | _ => none
def gIx : Sl → Sl → Option D
  | .d (.str z), .d (.int i) => if z.length ≤ LIM then (atI z.cps.toList i).map fun c => .str (sign c) else none
  | .sc ns, .d (.int i) => (atI ns i).map PyData.int
  | s, t => (seqOf s).bind fun xs => ixD xs t
theorem atI_map {α β : Type} {f : α → β} {xs : List α} {i : Int} : atI (xs.map f) i = (atI xs i).map f := by
  unfold atI
  rw [List.length_map]
  cases ixN xs.length i with
  | none => rfl
  | some j => simp
theorem RpA.atI {ow : Addr → Prop} {H : Hp} {xs : List D} {us : List V} {i : Int} {d : D} (h : RpA K ow H xs us) (e : atI xs i = some d) : ∃ v, L2.atI us i = some v ∧ Rp K ow H d v := by
  unfold L2.atI at e
  obtain ⟨j, hj, e⟩ := Option.bind_eq_some_iff.mp e
  have hl : j < us.length := by rw [← h.length]; exact (List.getElem?_eq_some_iff.mp e).1
  obtain ⟨v, hv⟩ := some_of_lt hl
  refine ⟨v, ?_, h.get e hv⟩
  unfold L2.atI
  rw [← h.length, hj]
  exact hv
theorem ite_opt {α : Type} {c : Prop} [Decidable c] {x : Option α} {z : α} (h : (if c then x else none) = some z) : c ∧ x = some z := by
  by_cases q : c
  · rw [if_pos q] at h; exact ⟨q, h⟩
  · rw [if_neg q] at h; cases h
theorem s_ix : OpS K ca (rIx K) gIx := fun s t z ow H v1 v2 Q e r1 r2 tr k => by
  unfold gIx at e
  split at e
  · obtain ⟨hl, e⟩ := ite_opt e
    obtain ⟨c, hc, rfl⟩ := Option.map_eq_some_iff.mp e
    exact .inr (.inr ⟨_, _, c, sv_str r1, sv_int r2, lim_line hl, hc, k _ H Gr.refl rp_str⟩)
  · rename_i ns i
    obtain ⟨c, hc, rfl⟩ := Option.map_eq_some_iff.mp e
    obtain ⟨a, rfl, h1⟩ := r1 (by simp)
    exact .inl ⟨a, _, i, .int c, rfl, sv_int r2, h1.sq, by rw [atI_map, hc]; rfl, k _ H Gr.refl rp_int⟩
  · obtain ⟨xs, hx, e⟩ := Option.bind_eq_some_iff.mp e
    unfold ixD at e
    split at e
    · obtain ⟨a, us, rfl, h1, h2⟩ := seqOf_ok hx r1
      obtain ⟨v, hv, rv⟩ := h2.atI e
      rcases h1 with h1 | h1
      · exact .inl ⟨a, us, _, v, rfl, sv_int r2, h1, hv, k v H Gr.refl rv⟩
      · exact .inr (.inl ⟨a, us, _, v, rfl, sv_int r2, h1, hv, k v H Gr.refl rv⟩)
    · cases e
/-! ### slices -/
def cut {α : Type} (xs : List α) (lo hi : Option Int) : List α := (xs.drop (HT.sIx xs.length 0 lo)).take (HT.sIx xs.length xs.length hi - HT.sIx xs.length 0 lo)
theorem RpA.drop {ow : Addr → Prop} {H : Hp} : ∀ {xs : List D} {us : List V} (n : Nat), RpA K ow H xs us → RpA K ow H (xs.drop n) (us.drop n)
  | _, _, 0, h => h
  | [], _, n + 1, h => by
    unfold RpA at h
    subst h
    show RpA K ow H [] []
    unfold RpA; rfl
  | x :: xs, _, n + 1, h => by
    unfold RpA at h
    obtain ⟨u, us, rfl, h1, h2⟩ := h
    exact RpA.drop n h2
theorem RpA.take {ow : Addr → Prop} {H : Hp} : ∀ {xs : List D} {us : List V} (n : Nat), RpA K ow H xs us → RpA K ow H (xs.take n) (us.take n)
  | xs, us, 0, h => by
    show RpA K ow H [] []
    unfold RpA; rfl
  | [], _, n + 1, h => by
    unfold RpA at h
    subst h
    show RpA K ow H [] []
    unfold RpA; rfl
  | x :: xs, _, n + 1, h => by
    unfold RpA at h
    obtain ⟨u, us, rfl, h1, h2⟩ := h
    show RpA K ow H (x :: xs.take n) (u :: us.take n)
    unfold RpA
    exact ⟨u, _, rfl, h1, RpA.take n h2⟩
theorem RpA.cut {ow : Addr → Prop} {H : Hp} {xs : List D} {us : List V} {lo hi : Option Int} (h : RpA K ow H xs us) : RpA K ow H (ML.cut xs lo hi) (cutV us lo hi) := by
  unfold ML.cut cutV
  rw [h.length]
  exact (h.drop _).take _
theorem RpA.reverse {ow : Addr → Prop} {H : Hp} : ∀ {xs : List D} {us : List V}, RpA K ow H xs us → RpA K ow H xs.reverse us.reverse
  | [], _, h => by
    unfold RpA at h
    subst h
    show RpA K ow H [] []
    unfold RpA; rfl
  | x :: xs, _, h => by
    unfold RpA at h
    obtain ⟨u, us, rfl, h1, h2⟩ := h
    rw [List.reverse_cons, List.reverse_cons]
    exact RpA.snoc h1 h2.reverse
/-- a slice of a list: a new one -/
def gSlL (s : Sl) (lo hi : Option Int) : Option (List D) := (slL s).map fun xs => cut xs lo hi
theorem s_slL : SlF K ca (rSlL K) gSlL := fun s lo hi z ow H v Q e r tr k => by
  obtain ⟨xs, hx, rfl⟩ := Option.map_eq_some_iff.mp e
  obtain ⟨a, us, rfl, h1, h2⟩ := slL_ok hx r
  exact ⟨a, us, rfl, SqL.of h1, fun p hp => k p _ hp h2.cut⟩
/-- .. of a tuple -/
def gSlT : Sl → Option Int → Option Int → Option D
  | .d (.tuple xs), lo, hi => some (.tuple (cut xs lo hi))
  | _, _, _ => none
theorem s_slT : SlS K ca (rSlA K) gSlT := fun s lo hi z ow H v Q e r tr k => by
  unfold gSlT at e
  split at e
  · rename_i xs
    cases e
    obtain ⟨a, us, rfl, ha, ra⟩ := sv_tup r
    refine ⟨a, us, rfl, ha.sq, fun hw => k _ H Gr.refl ?_, fun hw p hp => k _ _ (Gr.new hp) ?_⟩
    · unfold Rp
      refine ⟨a, us, rfl, ha, ?_⟩
      have e : cut xs lo hi = xs := by
        unfold cut
        rw [ra.length, hw.1, hw.2, List.drop_zero, Nat.sub_zero]
        exact List.take_of_length_le (by rw [ra.length]; exact Nat.le_refl _)
      rw [e]; exact ra
    · unfold Rp
      exact ⟨p, _, rfl, .inl ⟨upd_same, fun z => by obtain ⟨o, ho⟩ := tr p z; rw [hp] at ho; cases ho⟩, (ra.cut).stp (Gr.new hp).stp⟩
  · cases e
/-- .. of a text -/
def gSlS : Sl → Option Int → Option Int → Option D
  | .d (.str z), lo, hi => if z.length ≤ LIM then some (.str (cutS z lo hi)) else none
  | _, _, _ => none
theorem s_slS : SlS K ca rSlS gSlS := fun s lo hi z ow H v Q e r tr k => by
  unfold gSlS at e
  split at e
  · obtain ⟨hl, rfl⟩ := ite_some e
    exact ⟨_, sv_str r, lim_line hl, k _ H Gr.refl rp_str⟩
  · cases e
end
/-! ### a op b op c -/
def eChain (g g' : Sl → Sl → Option D) (ma mb mc : M AV) : M D := bind ma fun a => bind mb fun b => fun e => match (g (content e a) (content e b)).bind dB with
  | some true => bind mc (fun c => fun e => lift (g' (content e b) (content e c)) e) e
  | some false => .ok (.bool false) e
  | none => .bad
theorem me_chain {ca : CA} {X : Cx} {a b c : Expr} {pos : Pos} {op op' : CmpOp} {r r' : R2} {g g' : Sl → Sl → Option D} {ma mb mc : M AV} (ho : OpR X (compareOp op) r) (hs : OpS X.K ca r g) (ho' : OpR X (compareOp op') r') (hs' : OpS X.K ca r' g') (ha : MQ ca X a ma) (hb : MQ ca X b mb) (hc : MQ ca X c mc)
    (hm : lastMarks [op, op'] [b, c] = false := by with_unfolding_all rfl) : ME ca X (.Compare a [op, op'] [b, c] pos) (eChain g g' ma mb mc) := fun F W tk =>
  PE.imp (pe_chain ho ho' (ha F W tk) (hb F W tk) (hc F W tk) hm) fun σ H Q ⟨ow, env, R, gg⟩ =>
    go_bind R gg fun x e1 v1 ow1 H1 g1 R1 p1 q1 => go_bind R1 q1 fun y e2 v2 ow2 H2 g2 R2 p2 q2 => by
      cases hd : (g (content e2 x) (content e2 y)).bind dB with
      | none => simp only [hd] at q2; exact q2.elim
      | some k =>
        obtain ⟨d, ed, ez⟩ := Option.bind_eq_some_iff.mp hd
        have ed' := dB_some ez
        subst ed'
        refine hs _ _ _ ow2 H2 v1 v2 _ ed (fun n => (p1.1.go g2).sv R2 n) (fun n => p2.1.sv R2 n) R2.trk fun v H' gr rp => ?_
        unfold Rp at rp
        refine ⟨k, rp, ?_⟩
        have R3 := R2.gr gr
        have g3 := Go.gr R2 gr
        cases k with
        | true =>
          rw [if_pos rfl]
          simp only [hd] at q2
          exact go_bind R3 (q2.mono g3) fun z e4 v4 ow4 H4 g4 R4 p4 q4 => by
            obtain ⟨w, ew, q⟩ := lift_go q4
            exact hs' _ _ w ow4 H4 v2 v4 Q ew (fun n => ((p2.1.go g3).go g4).sv R4 n) (fun n => p4.1.sv R4 n) R4.trk fun v H' gr rp => go_val R4 q gr rp
        | false =>
          rw [if_neg Bool.false_ne_true]
          simp only [hd] at q2
          exact q2 (.bl false) ow2 H' g3 R3 (by show Rp _ _ _ (.bool false) _; unfold Rp; rfl)
end ML
end

section
set_option Elab.async false
set_option linter.all false
set_option maxRecDepth 100000
set_option maxHeartbeats 2000000
/-! # list(reversed(tuple)), tuple[::-1], at the library's level -/
namespace RT
open PySem PySem.Spec PyProof.Rows L2
theorem nolen_rt : typeLookup (.type "reversed") "__len__" = pure none := by rw [typeLookup_type, builtinLookup_eq_fast]; kernel_rfl
theorem hint_rt : typeLookup (.type "reversed") "__length_hint__" = pure (some (.builtin "reversed.__length_hint__")) := by rw [typeLookup_type, builtinLookup_eq_fast]; kernel_rfl
section
variable {prog : Program} {w : World} {A : Around} {E : Value → Shared → Prop} {s : Shared}
theorem IsTup.at' {h h' : Heap} {t : Addr} {items : Array Value} (x : IsTup h t items) (k : ∀ o, h.get? t = some o → h'.get? t = some o) : IsTup h' t items := let ⟨o, ho, r⟩ := x; ⟨o, k _ ho, r⟩
theorem walks_rt (hh : A.handled = none) (it t : Addr) (hne : t ≠ it) (items : Array Value) (hsz : items.size ≤ sizeLine) :
    Walks prog w A it [it, t] [it] items.size (fun i v => items[items.size - 1 - i]? = some v) (fun i h => i ≤ items.size ∧ IsRt h it t ((items.size : Int) - 1 - (i : Int)) ∧ IsTup h t items) where
  sub := fun b hb => by simp at hb; simp [hb]
  frame := fun _ _ _ x hk => ⟨x.1, x.2.1.at fun o e => hk it (by simp) o e, IsTup.at' x.2.2 fun o e => hk t (by simp) o e⟩
  item := fun i s Q E hi x hQ => by
    have e : (items.size : Int) - 1 - (i : Int) = ((items.size - 1 - i : Nat) : Int) := by omega
    have hit := x.2.1
    rw [e] at hit
    have hx : items[items.size - 1 - i]? = some (items[items.size - 1 - i]'(by omega)) := Array.getElem?_eq_getElem (by omega)
    refine next_rt_item hit x.2.2 hx hsz fun h' hit' hs' => ?_
    have e2 : ((items.size - 1 - i : Nat) : Int) - 1 = (items.size : Int) - 1 - ((i + 1 : Nat) : Int) := by omega
    rw [e2] at hit'
    exact hQ _ h' (s.toks + 1) hx ⟨hi, hit', IsTup.at' x.2.2 fun o eo => (hs'.2 t hne).trans eo⟩ fun b o hb eo => hs'.extBut b o (fun h => hb (by simp [h])) eo
  done := fun s Q E x hQ => by
    have e : (items.size : Int) - 1 - (items.size : Int) = -1 := by omega
    have hit := x.2.1
    rw [e] at hit
    exact next_rt_end hh hit fun h' he' => hQ h' s.toks fun b o hb eo => he' b o (fun h => hb (by simp [h])) eo
  self := fun _ _ _ _ x hQ => iter_rt x.2.1 hQ
theorem slot_rt_hint : Slot "reversed" "__length_hint__" "reversed.__length_hint__" :=
  .of (owner := "reversed") (n := "__length_hint__") hint_rt (by decide +kernel) (by decide +kernel) (by decide +kernel)
    (by first | exact .inl (by decide +kernel) | exact .inr (by decide +kernel)) (by rw [isSubtype_type]; kernel_rfl)
theorem entry_rt_hint : entryFor table "reversed.__length_hint__" = some Builtin.«reversed.__length_hint__» := entryFor_of_tree (by kernel_rfl)
theorem args_rt_hint (a : Value) : argsOk "reversed.__length_hint__" ⟨[a], []⟩ := by
  unfold argsOk; rw [signature?_of (id := "reversed.__length_hint__") (n := ['_', '_', 't', 'n', 'i', 'h', '_', 'h', 't', 'g', 'n', 'e', 'l', '_', '_']) (o := ['d', 'e', 's', 'r', 'e', 'v', 'e', 'r']) (by kernel_rfl) owner_rt]; kernel_rfl
theorem hint_ok {it t : Addr} {items : Array Value} {Q : Bool → Shared → Prop} (hit : IsRt s.heap it t ((items.size : Int) - 1)) (ht : IsTup s.heap t items) (hn : items.size ≤ sizeLine)
    (h : ∀ tk, Q ((items.size : Int) != 0) { s with toks := tk }) : wpAny (model prog w) A (Builtin.List.listLengthHint (.ref it)) Q E s := by
  have hT : s.TypeIs (.ref it) "reversed" := hit.typeIs
  have l63 := line63
  have hz : items.size < 2 ^ 63 := by omega
  obtain ⟨o, ho, hc, hd⟩ := id hit
  unfold Builtin.List.listLengthHint
  refine wpAny_bind (wpAny_specialOf hT nolen_rt ?_)
  show wpAny _ _ (specialOf (Value.ref it) (Str.ofString "__length_hint__") >>= _) _ _ _
  refine wpAny_bind (wpAny_specialOf hT hint_rt ?_)
  generalize hid : ("reversed.__length_hint__" : String) = id0
  wp_delta
  rw [show splitId id0 = some ("reversed", "__length_hint__") from by subst hid; decide +kernel]
  subst hid
  refine wpAny_bind (wpAny_isInstance (b := true) hT (by rw [isSubtype_type]; kernel_rfl) ?_)
  refine wpAny_ite_split (fun hab => absurd hab (by decide)) (fun _ => ?_)
  refine wpAny_ite_split (fun hab => absurd hab (by decide +kernel)) (fun _ => ?_)
  refine wpAny_bind (wpAny_rule ?_)
  refine wpAny_bind (wpAny_of_eq (slot_rt_hint.bind _) ?_)
  try dsimp only
  refine wpAny_bind (wpAny_attempt (wpAny_call_entry slot_rt_hint hT entry_rt_hint ?_ (args_rt_hint _)))
  unfold Builtin.«reversed.__length_hint__»
  refine wpAny_bind (wpAny_of_eq (a := Value.ref it) rfl ?_)
  try dsimp only
  refine wpAny_bind (wpAny_field ho hd (x := .ref t) rfl ?_)
  try dsimp only
  rw [if_neg (show ¬ ((Value.ref t == Value.none) = true) from Bool.false_ne_true)]
  refine wpAny_bind (len_tuple ht (by omega) ?_)
  refine wpAny_bind (wpAny_of_eq (a := some ((items.size : Nat) : Int)) rfl ?_)
  try dsimp only
  refine wpAny_bind (wpAny_field (s := { s with toks := s.toks + 1 + 1 }) ho hd (x := rawInt ((items.size : Int) - 1)) rfl ?_)
  show wpAny _ _ (if ((items.size : Nat) : Int) < ((items.size : Int) - 1) + 1 then _ else _) _ _ _
  rw [if_neg (by omega)]
  refine wpAny_bind (wpAny_mkInt ?_)
  refine wpAny_pure ⟨_, rfl, ?_⟩
  have htl : Builtin.List.listTooLong ((((items.size : Int) - 1) + 1).toNat) = false := notLongL (by omega)
  have hfi : Builtin.List.listFitsIndex (((items.size : Int) - 1) + 1) = true := by unfold Builtin.List.listFitsIndex; simp; omega
  refine wpAny_bind (m := asInt? _) (wpAny_pure ?_)
  try dsimp only
  refine wpAny_ite_split (fun hab => absurd hab (by rw [hfi]; decide)) (fun _ => ?_)
  refine wpAny_ite_split (fun hab => absurd hab (by omega)) (fun _ => ?_)
  refine wpAny_ite_split (fun hab => absurd hab (by rw [htl]; decide)) (fun _ => wpAny_pure ?_)
  have e : ((items.size : Int) - 1) + 1 = (items.size : Int) := by omega
  rw [e]
  exact h _
theorem extend_rt {R : Result → Shared → Prop} {it t : Addr} {items : Array Value} (hh : A.handled = none) (hit : IsRt s.heap it t ((items.size : Int) - 1)) (ht : IsTup s.heap t items) (hne : t ≠ it) (hn : items.size ≤ sizeLine)
    (S : Addr) (res : Value) (c₀ : Nat) (hS : s.heap.get? S = some { cls := .type "list", data := .seq #[] c₀ }) (hSi : S ≠ it) (hSt : S ≠ t)
    (hR : ∀ h' tk acc' c', (∀ b o, b ≠ S → b ≠ it → s.heap.get? b = some o → h'.get? b = some o) → h'.get? S = some { cls := .type "list", dict := none, data := .seq acc' c', slots := #[] } →
      ItemsOf (fun i v => items[items.size - 1 - i]? = some v) acc' items.size → R (.ok (.ret res)) { s with heap := h', toks := tk }) :
    wpAny (model prog w) A.in1 (Builtin.List.listExtendWith (.ref S) (.ref it) res)
      (fun fin s' => match fin with | .done f => R (.ok f) s' | .again c' => c'.quiet = true ∧ codeAny (model prog w) A c' R s') (fun e s' => R (.error e) s') s := by
  have W := (walks_rt (prog := prog) (w := w) (A := A.in1) hh it t hne items hn).toS
  have hSf : S ∉ [it, t] := by simp only [List.mem_cons, List.not_mem_nil, or_false, not_or]; exact ⟨hSi, hSt⟩
  have hT : s.TypeIs (.ref it) "reversed" := hit.typeIs
  have h1 : Builtin.List.listSameRef (.ref S) (.ref it) = false := by simp [Builtin.List.listSameRef, hSi]
  unfold Builtin.List.listExtendWith
  refine wpAny_bind (wpAny_typeOf hT ?_)
  rw [if_neg (by rw [h1]; decide)]
  refine wpAny_bind (iter_rt hit ?_)
  refine wpAny_bind (wpAny_holding (hint_ok hit ht hn fun tk => ?_))
  have e0 : ((items.size : Nat) : Int) - 1 - ((0 : Nat) : Int) = (items.size : Int) - 1 := by omega
  have key : ∀ (h : Heap) (c₁ tk : Nat), IsRt h it t ((items.size : Int) - 1) → IsTup h t items → (∀ b o, b ≠ S → s.heap.get? b = some o → h.get? b = some o) →
      h.get? S = some { cls := .type "list", data := .seq #[] c₁ } → codeAny (model prog w) A (.builtin "list.extend.loop" ⟨[.ref S, .ref it, res], []⟩) R { s with heap := h, toks := tk } := by
    intro h c₁ tk hi1 ht1 hk hS₁
    refine codeAny_extend_loopS W hn S hSf res items.size 0 _ #[] c₁ rfl (Nat.zero_le _) ⟨Nat.zero_le _, by rw [e0]; exact hi1, ht1⟩ hS₁ (ItemsOf.nil _) fun s' acc' c' hm hS' hacc => ?_
    rw [Moved.eq_with hm]
    refine hR s'.heap s'.toks acc' c' (fun b o hb hb2 e => hm.heap b o (fun hmem => ?_) (hk b o hb e)) hS' hacc
    rcases List.mem_cons.mp hmem with e' | hmem
    · exact hb e'
    · exact hb2 (List.mem_singleton.mp hmem)
  refine wpAny_ite_split (fun _ => ?_) (fun _ => wpAny_pure ⟨plainId_quiet F.plain_extend_loop _, key _ c₀ _ hit ht (fun b o _ e => e) hS⟩)
  refine wpAny_bind (wpAny_rule ?_)
  refine wpAny_bind ?_
  show wpAny _ _ (updateSeq S (·.push .none) >>= fun _ => updateSeq S (·.pop)) _ _ _
  refine wpAny_bind (wpAny_updateSeq hS rfl ?_)
  have hS₂ := Heap.get?_update_self (Obj.mapSeq (·.push Value.none)) hS rfl
  refine wpAny_updateSeq (hz := by seq_fits) hS₂ rfl ?_
  have hS₃ := Heap.get?_update_self (Obj.mapSeq (·.pop)) hS₂ rfl
  have oth : ∀ b o, b ≠ S → s.heap.get? b = some o → ((s.heap.update S (Obj.mapSeq (·.push Value.none))).update S (Obj.mapSeq (·.pop))).get? b = some o := fun b o hb e => (Heap.get?_update_other _ _ (Ne.symm hb)).trans ((Heap.get?_update_other _ _ (Ne.symm hb)).trans e)
  refine wpAny_pure ⟨plainId_quiet F.plain_extend_loop _, key _ _ _ (hit.at fun o e => oth _ o (Ne.symm hSi) e) (IsTup.at' ht fun o e => oth _ o (Ne.symm hSt) e) oth hS₃⟩
theorem call_list_rt {Q : Value → Shared → Prop} {it t : Addr} {items : Array Value} (hh : A.handled = none) (hit : IsRt s.heap it t ((items.size : Int) - 1)) (ht : IsTup s.heap t items) (hne : t ≠ it) (hn : items.size ≤ sizeLine)
    (hQ : ∀ h' tk acc' c', (∀ b o, b ≠ it → s.heap.get? b = some o → h'.get? b = some o) →
      h'.get? s.heap.objs.size = some { cls := .type "list", dict := none, data := .seq acc' c', slots := #[] } → ItemsOf (fun i v => items[items.size - 1 - i]? = some v) acc' items.size → Q (.ref s.heap.objs.size) { s with heap := h', toks := tk }) :
    wpAny (model prog w) A (call (.type "list") [.ref it]) Q E s := by
  refine callType_codes (Q₁ := fun obj s₁ => obj = .ref s.heap.objs.size ∧ s₁ = { s with heap := s.heap.push { cls := .type "list", data := .seq #[] } }) F.called_list (F.typeCall_list_1 _) F.entry_list_init
    (code_list_new _ ⟨rfl, rfl⟩) fun obj s₁ h₁ => ?_
  obtain ⟨rfl, rfl⟩ := h₁
  have hS : (s.heap.push { cls := .type "list", data := .seq #[] }).get? s.heap.objs.size = some { cls := .type "list", data := .seq #[] } := Heap.get?_push_size _ rfl
  have hSi : s.heap.objs.size ≠ it := by obtain ⟨o, ho, _⟩ := id hit; exact Nat.ne_of_gt (Heap.lt_size ho)
  have hSt : s.heap.objs.size ≠ t := by obtain ⟨o, ho, _⟩ := id ht; exact Nat.ne_of_gt (Heap.lt_size ho)
  refine ⟨⟨_, hS, rfl⟩, F.args_list_init_2 _ _, ?_⟩
  show wpAny _ _ (do let old ← Builtin.List.listItems (.ref s.heap.objs.size); Builtin.List.listUpdate (.ref s.heap.objs.size) (fun _ => #[]); letGo old.toList.reverse; Builtin.List.listExtendWith (.ref s.heap.objs.size) (.ref it) .none) _ _ _
  refine wpAny_bind ?_
  unfold Builtin.List.listItems
  refine wpAny_bind (wpAny_seqItems hS rfl (wpAny_pure ?_))
  show wpAny _ _ (updateSeq s.heap.objs.size (fun _ => #[]) >>= fun _ => letGo (#[] : Array Value).toList.reverse >>= fun _ => Builtin.List.listExtendWith (.ref s.heap.objs.size) (.ref it) .none) _ _ _
  refine wpAny_bind (wpAny_updateSeq hS rfl ?_)
  have hS₂ := Heap.get?_update_self (Obj.mapSeq (fun _ => (#[] : Array Value))) hS rfl
  have oth : ∀ b o, b ≠ s.heap.objs.size → s.heap.get? b = some o → ((s.heap.push { cls := .type "list", data := .seq #[] }).update s.heap.objs.size (Obj.mapSeq (fun _ => (#[] : Array Value)))).get? b = some o :=
    fun b o hb e => (Heap.get?_update_other _ _ (Ne.symm hb)).trans (Heap.get?_push_of_some _ e)
  refine wpAny_bind (wpAny_letGo ?_)
  refine extend_rt (A := A.in1) hh (hit.at fun o e => oth _ o (Ne.symm hSi) e) (IsTup.at' ht fun o e => oth _ o (Ne.symm hSt) e) hne hn _ _ _ hS₂ hSi hSt fun h' tk acc' c' hk hS' hacc => ?_
  exact ⟨rfl, hQ h' tk acc' c' (fun b o hb e => hk b o (Nat.ne_of_lt (Heap.lt_size e)) hb (oth b o (Nat.ne_of_lt (Heap.lt_size e)) e)) hS' hacc⟩
end
/-! ### t[::-1] -/
section
variable {prog : Program} {w : World} {A : Around} {E : Value → Shared → Prop} {s : Shared}
theorem sliceApplied_rev {sl : Addr} {vl vu vs : Value} {n : Nat} {Q : Int × Int × Nat → Shared → Prop} (hs : s.heap.IsSliceOf sl vl vu vs) (pl : IsPart vl none) (pu : IsPart vu none) (ps : IsPart vs (some (-1)))
    (h : Q ((n : Int) - 1, -1, n) s) : wpAny (model prog w) A (Builtin.Slice.sliceApplied (.ref sl) (pure (n : Int))) Q E s := by
  obtain ⟨os, hos, hcs, hds⟩ := id hs
  unfold Builtin.Slice.sliceApplied Builtin.Slice.sliceFields
  refine wpAny_bind (wpAny_bind (wpAny_field hos hds (x := vl) rfl (wpAny_bind (wpAny_field hos hds (x := vu) rfl (wpAny_bind (wpAny_field hos hds (x := vs) rfl (wpAny_pure ?_)))))))
  refine wpAny_bind (HT.slicePart_ ps ?_)
  show wpAny _ _ (if ((-1 : Int) == 0) = true then _ else _) _ _ s
  rw [if_neg (by decide)]
  refine wpAny_bind (HT.slicePart_ pl (wpAny_bind (HT.slicePart_ pu (wpAny_bind (wpAny_pure ?_)))))
  show wpAny _ _ (match Builtin.Slice.sliceAdjust none none (-1) (n : Int) with | (lo, hi) => pure (lo, (-1 : Int), Builtin.Slice.slicePlaces lo hi (-1))) _ _ s
  have e1 : Builtin.Slice.sliceAdjust none none (-1) (n : Int) = ((n : Int) - 1, -1) := by
    unfold Builtin.Slice.sliceAdjust
    simp
  rw [e1]
  show wpAny _ _ (pure ((n : Int) - 1, (-1 : Int), Builtin.Slice.slicePlaces ((n : Int) - 1) (-1) (-1))) _ _ s
  have e2 : Builtin.Slice.slicePlaces ((n : Int) - 1) (-1) (-1) = n := by
    unfold Builtin.Slice.slicePlaces
    have h1 : ¬ ((-1 : Int) > 0) := by omega
    simp only [h1, if_false]
    by_cases hn : (n : Int) - 1 > -1
    · simp only [hn, if_true]
      have h2 : (- (-1 : Int)) = 1 := by decide
      first
      | (rw [h2, Int.ediv_one]; omega)
      | (simp only [h2, Int.ediv_one]; omega)
      | (split <;> omega)
    · first
      | (simp only [hn, if_false]; omega)
      | (split <;> omega)
  rw [e2]
  exact wpAny_pure h
theorem fm_congr {α β : Type} {f g : α → Option β} : ∀ {l : List α}, (∀ x, x ∈ l → f x = g x) → l.filterMap f = l.filterMap g
  | [], _ => rfl
  | x :: l, h => by
    rw [List.filterMap_cons, List.filterMap_cons, h x List.mem_cons_self, fm_congr fun y hy => h y (List.mem_cons_of_mem _ hy)]
theorem pick_rev (xs : Array Value) : ((List.range xs.size).filterMap fun (m : Nat) => xs[(((xs.size : Int) - 1) + (m : Int) * (-1)).toNat]?).toArray = xs.toList.reverse.toArray := by
  have e : ∀ m, m ∈ List.range xs.size → xs[(((xs.size : Int) - 1) + (m : Int) * (-1)).toNat]? = xs[xs.size - 1 - m]? := by
    intro m hm
    have hm' := List.mem_range.mp hm
    have : (((xs.size : Int) - 1) + (m : Int) * (-1)).toNat = xs.size - 1 - m := by omega
    rw [this]
  have e2 : ((List.range xs.size).filterMap fun (m : Nat) => xs[(((xs.size : Int) - 1) + (m : Int) * (-1)).toNat]?) = (List.range xs.size).filterMap fun m => xs[xs.size - 1 - m]? := fm_congr e
  rw [e2]
  have e3 : ((List.range xs.size).filterMap fun m => xs[xs.size - 1 - m]?) = ((List.range xs.size).map fun m => xs.size - 1 - m).filterMap (xs[·]?) := by rw [List.filterMap_map]; rfl
  rw [e3, PySem.W.krv_range, List.filterMap_reverse, PySem.W.krv_all]
theorem getItem_tuple_rev {t sl : Addr} {items : Array Value} {vl vu vs : Value} {Q : Value → Shared → Prop} (ht : IsTup s.heap t items) (hs : s.heap.IsSliceOf sl vl vu vs) (pl : IsPart vl none) (pu : IsPart vu none) (ps : IsPart vs (some (-1)))
    (h : Q (.ref s.heap.objs.size) { s with heap := s.heap.push { cls := .type "tuple", data := .seq items.toList.reverse.toArray } })
    (hsz : items.size ≤ sizeLine) : wpAny (model prog w) A (getItem (.ref t) (.ref sl)) Q E s := by
  have htake : sizeOk (.seq items.toList.reverse.toArray) := by
    show items.toList.reverse.toArray.size ≤ sizeLine
    rw [List.size_toArray, List.length_reverse, Array.length_toList]
    exact hsz
  obtain ⟨os, hos, hcs, hds⟩ := id hs
  have hTs : s.TypeIs (.ref sl) "slice" := ⟨os, hos, hcs⟩
  unfold getItem
  try with_reducible refine wpAny_holding ?_
  first | refine wpAny_bind (wpAny_pure ?_) | skip
  refine wpAny_bind (wpAny_sequenceKey ht.typeIs (by decide) ?_)
  refine wpAny_bind (wpAny_callSpecial?_slot (name := Str.ofString "__getitem__") ht.typeIs PyProof.Rows.slot_tuple_getitem
    (wpAny_call_entry PyProof.Rows.slot_tuple_getitem ht.typeIs entry_tuple_getitem ?_ (args_tuple_getitem _ _)))
  show wpAny _ _ (Builtin.Tuple.tupleItemsOf (.ref t) >>= _) _ _ s
  refine wpAny_bind (tupleItemsOf_ ht ?_)
  refine wpAny_bind (wpAny_typeOf hTs ?_)
  rw [if_pos (by decide)]
  refine wpAny_bind (sliceApplied_rev hs pl pu ps ?_)
  have hno : ¬ ((((items.size : Int) - 1) == 0 && (-1 : Int) == 1 && items.size == items.size) = true) := by
    intro q
    rw [Bool.and_eq_true, Bool.and_eq_true] at q
    exact absurd (eq_of_beq q.1.2) (by decide)
  show wpAny _ _ (if ((((items.size : Int) - 1)) == 0 && (-1 : Int) == 1 && (items.size) == items.size) = true then _ else _) _ _ s
  rw [if_neg hno, pick_rev]
  first
    | exact wpAny_bind (m := Builtin.Tuple.tupleExact _) (wpAny_newObj_type (wpAny_pure ⟨_, rfl, wpAny_pure h⟩) htake)
    | exact wpAny_bind (m := Builtin.Tuple.tupleExact _) (wpAny_newObj_type (wpAny_bind (wpAny_pure (wpAny_pure ⟨_, rfl, wpAny_pure h⟩))) htake)
    | exact wpAny_bind (wpAny_bind (m := Builtin.Tuple.tupleExact _) (wpAny_newObj_type (wpAny_pure (wpAny_pure ⟨_, rfl, wpAny_pure h⟩)) htake))
    | exact wpAny_bind (wpAny_bind (m := Builtin.Tuple.tupleExact _) (wpAny_newObj_type (wpAny_pure ⟨_, rfl, wpAny_pure h⟩) htake))
end
end RT
end

section
set_option Elab.async false
set_option linter.all false
set_option maxRecDepth 100000
set_option maxHeartbeats 2000000
/-! # Turned rows, enumerate, texts, dicts, several targets -/
namespace ML
open PySem L2
open PySem.Spec PyProof.Rows in
/-- t[::-1] -/
def tRevT (K : PySem.W.Frag) (te : TE) : TE := fun σ H Q => te σ H fun x H1 => ∃ a xs, x = .ref a ∧ SqT K H1 a xs ∧ ∀ p, H1 p = none → Q (.ref p) (upd H1 p (.tup xs.reverse))
section
open PySem.Spec PyProof.Rows
variable {X : Cx}
theorem pe_revT {e : Expr} {te : TE} {k : Nat} {p1 p2 p3 pos : Pos} (he : PE X e te) : PE X (.Subscript e (.Slice none none (some (.UnaryOp .USub (.Constant (.int 1) k p1) p2)) p3) pos) (tRevT X.K te) := by
  refine ⟨fun pins s σ H Q I h => ?_⟩
  refine Subscript_ (thn (he.run pins s σ H _ I h) fun v s1 ⟨x, H1, I1, r1, q1⟩ => ?_)
  obtain ⟨a, xs, ex, hx, q⟩ := q1
  subst ex
  cases r1
  have hst : PO X (some (.UnaryOp .USub (.Constant (.int 1) k p1) p2)) (tPart (tUn (rU fun i => .int (-i)) (tC (.int 1)))) := po_some (pe_un un_neg pe_int)
  refine wpAny_Slice (thn (po_none.run pins s1 σ H1 (fun o H2 => o = none ∧ H2 = H1) I1 ⟨rfl, rfl⟩) fun vl s2 ⟨l, H2, I2, pl, el, e2⟩ => ?_)
  subst el e2
  refine thn (po_none.run pins s2 σ H2 (fun o H3 => o = none ∧ H3 = H2) I2 ⟨rfl, rfl⟩) fun vu s3 ⟨u, H3, I3, pu, eu, e3⟩ => ?_
  subst eu e3
  refine thn (hst.run pins s3 σ H3 (fun o H4 => o = some (-1) ∧ H4 = H3) I3 ⟨1, rfl, -1, rfl, rfl, rfl⟩) fun vs s4 ⟨o, H4, I4, ps, eo, e4⟩ => ?_
  subst eo e4
  have I5 : Inv X pins σ H4 { s4 with heap := s4.heap.push { cls := .type "slice", data := .fields #[vl, vu, vs] } } := I4.kept (t' := s4.toks) fun b ob q => Heap.get?_push_of_some _ q
  obtain ⟨its, r, ht, hz⟩ := I5.tuple hx
  have hlen := r.length
  show wpAny (model X.prog X.w) X.A (subscriptTail e (.Slice none none (some (.UnaryOp .USub (.Constant (.int 1) k p1) p2)) p3) (.ref a) (.ref s4.heap.objs.size)) (EP X pins σ Q) X.xe { s4 with heap := s4.heap.push { cls := .type "slice", data := .fields #[vl, vu, vs] } }
  refine tail_any (ops := [.ref a, .ref s4.heap.objs.size]) ht.typeIs (PyProof.Rows.slot_tuple_getitem.lookup) ?_ (by with_unfolding_all rfl)
  refine RT.getItem_tuple_rev ht (Heap.IsSliceOf.new _ vl vu vs) pl pu ps ?_ (by rw [List.size_toArray]; omega)
  refine ⟨.ref _, _, I5.laid (t' := s4.toks) (o := .tup xs.reverse) (fun b ob q => Heap.get?_push_of_some _ q) (Nat.le_refl _) ?_, rfl, q _ (I5.hok.fresh (Nat.le_refl _))⟩
  refine ⟨by rw [List.length_reverse]; exact hz, its.reverse, r.reverse, ?_⟩
  exact IsTup.new _ _
/-- list(reversed(t)), t a tuple -/
def tLstRt (K : PySem.W.Frag) (te : TE) : TE := fun σ H Q => te σ H fun v H1 => ∃ (a : Addr) (xs : List V), v = .ref a ∧ SqT K H1 a xs ∧ ∀ q, H1 q = none → Q (.ref q) (upd H1 q (.lst xs.reverse))
theorem pe_listRt {e : Expr} {te : TE} {p p2 pos pos2 : Pos} (hc : X.calm = true) (hm : X.mg "list" = none) (hm2 : X.mg "reversed" = none) (he : PE X e te) (hg : Gl X "list" := by rfl) (hg2 : Gl X "reversed" := by rfl)
    (hs : starEach [e] X.env = (false, eval e X.env) :: starEach [] X.env := by rfl)
    (hs2 : starEach [.Call (.Name "reversed" p2) [e] [] pos2] X.env = (false, eval (.Call (.Name "reversed" p2) [e] [] pos2) X.env) :: starEach [] X.env := by rfl) :
    PE X (.Call (.Name "list" p) [.Call (.Name "reversed" p2) [e] [] pos2] [] pos) (tLstRt X.K te) := by
  refine ⟨fun pins s σ H Q I h => ?_⟩
  refine Call_ (ld_blt I hg hm boot_list (PyProof.Rows.callWith_type1 (args_cons ?_ hs2) hs2))
  refine Call_ (ld_blt I hg2 hm2 PyProof.Rows.boot_reversed (PyProof.Rows.callWith_type1 (args_cons (thn (he.run pins s σ H _ I h) fun u s1 ⟨v, H1, I1, r1, q1⟩ => args_nil ?_) hs) hs rfl))
  obtain ⟨a, xs, ev, hq, q⟩ := q1
  subst ev
  obtain rfl : u = Value.ref a := r1
  obtain ⟨its, rv, p', hz⟩ := I1.tuple hq
  have hl := rv.length
  have hn := line63
  have hsz : its.toArray.size ≤ sizeLine := by rw [List.size_toArray]; omega
  refine RT.call_reversed_tup p' (fun A E Q k => len_tuple p' (by simp only [List.size_toArray] <;> omega) k) (args_nil ?_)
  have p2 : IsTup (s1.heap.push (RT.rtObj a ((its.toArray.size : Int) - 1))) a its.toArray := RT.IsTup.at' p' fun o e => Heap.get?_push_of_some _ e
  have hne : a ≠ s1.heap.objs.size := by obtain ⟨o, ho, _⟩ := id p'; exact Nat.ne_of_lt (Heap.lt_size ho)
  refine RT.call_list_rt (s := { s1 with heap := s1.heap.push (RT.rtObj a ((its.toArray.size : Int) - 1)), toks := s1.toks + 1 + 1 }) (items := its.toArray) (I.ok.hd hc) ⟨_, Heap.get?_push_size _ rfl, rfl, rfl⟩ p2 hne hsz fun h' tk acc c' hk e' hi => ?_
  have hsl : s1.heap.objs.size ≤ (s1.heap.push (RT.rtObj a ((its.toArray.size : Int) - 1))).objs.size := by simp [Heap.push]
  refine ⟨.ref _, upd H1 _ (.lst xs.reverse), I1.laid (t' := tk) (fun b o z => hk b o (Nat.ne_of_lt (Heap.lt_size z)) (Heap.get?_push_of_some _ z)) hsl (show ObjOk X.prog X.w _ _ _ (.lst xs.reverse) from ⟨?_, acc.toList, c', RT.vals_rev rv hi, ?_⟩), rfl, q _ (I1.hok.fresh hsl)⟩
  · rw [List.length_reverse, hl]; simpa using hsz
  · rw [Array.toArray_toList]; exact e'
end
section
variable {ca : CA} {X : Cx} {pos : Pos} {tg e a b c : Expr} {es : List Expr}
def dTup : D → Option (List D)
  | .tuple xs => some xs
  | _ => none
theorem dTup_some {d : D} {xs : List D} (h : dTup d = some xs) : d = .tuple xs := by
  cases d <;> first | cases h | skip
  rfl
def eRevT (m : M D) : M D := bind m fun x => lift ((dTup x).map fun xs => .tuple xs.reverse)
theorem me_revT {m : M D} {k : Nat} {p1 p2 p3 : Pos} (h : ME ca X e m) : ME ca X (.Subscript e (.Slice none none (some (.UnaryOp .USub (.Constant (.int 1) k p1) p2)) p3) pos) (eRevT m) := fun F W tk =>
  PE.imp (pe_revT (h F W tk)) fun σ H Q ⟨ow, env, R, g⟩ => go_bind R g fun x e1 v ow1 H1 g1 R1 p1 q1 => by
    obtain ⟨z, ez, q⟩ := lift_go q1
    obtain ⟨xs, ex, rfl⟩ := Option.map_eq_some_iff.mp ez
    have ed := dTup_some ex
    subst ed
    have p1' : Rp X.K ow1 H1 (.tuple xs) v := p1
    unfold Rp at p1'
    obtain ⟨a, us, rfl, h1, h2⟩ := p1'
    refine ⟨a, us, rfl, h1.sq, fun p hp => go_val R1 q (Gr.new hp) ?_⟩
    unfold Rp
    exact ⟨p, _, rfl, .inl ⟨upd_same, R1.free hp⟩, (h2.reverse).stp (Gr.new hp).stp⟩
def oRevL (m : M D) : M Ob := bind m fun x => lift ((dTup x).map fun xs => .lst xs.reverse)
theorem mo_listRt {m : M D} {p p2 pos2 : Pos} (h : ME ca X e m) (hm : X.mg "list" = none) (hm2 : X.mg "reversed" = none) (hc : X.calm = true := by rfl) (hg : Gl X "list" := by rfl) (hg2 : Gl X "reversed" := by rfl)
    (hs : starEach [e] X.env = (false, eval e X.env) :: starEach [] X.env := by rfl)
    (hs2 : starEach [.Call (.Name "reversed" p2) [e] [] pos2] X.env = (false, eval (.Call (.Name "reversed" p2) [e] [] pos2) X.env) :: starEach [] X.env := by rfl) :
    MO ca X (.Call (.Name "list" p) [.Call (.Name "reversed" p2) [e] [] pos2] [] pos) (oRevL m) := fun F W tk =>
  PE.imp (pe_listRt hc hm hm2 (h F W tk) hg hg2 hs hs2) fun σ H Q ⟨ow, env, R, g⟩ => go_bind R g fun x e1 v ow1 H1 g1 R1 p1 q1 => by
    obtain ⟨z, ez, q⟩ := lift_go q1
    obtain ⟨xs, ex, rfl⟩ := Option.map_eq_some_iff.mp ez
    have ed := dTup_some ex
    subst ed
    have p1' : Rp X.K ow1 H1 (.tuple xs) v := p1
    unfold Rp at p1'
    obtain ⟨a, us, rfl, h1, h2⟩ := p1'
    exact ⟨a, us, rfl, h1.sq, fun p hp => go_new R1 q (fun x h => g1.dom x h) hp h2.reverse⟩
/-! ### enumerate -/
def enumD : Nat → List D → List D
  | _, [] => []
  | i, d :: r => .tuple [.int (i : Nat), d] :: enumD (i + 1) r
theorem enumD_get : ∀ (ds : List D) (k i : Nat), (enumD k ds)[i]? = (ds[i]?).map fun d => .tuple [.int ((k + i : Nat) : Int), d]
  | [], k, i => by unfold enumD; simp
  | d :: r, k, 0 => by unfold enumD; rfl
  | d :: r, k, i + 1 => by
    unfold enumD
    rw [List.getElem?_cons_succ, List.getElem?_cons_succ, enumD_get r (k + 1) i]
    rw [show k + 1 + i = k + (i + 1) from by omega]
theorem enumD_len : ∀ (ds : List D) (k : Nat), (enumD k ds).length = ds.length
  | [], k => rfl
  | d :: r, k => by unfold enumD; rw [List.length_cons, List.length_cons, enumD_len r]
theorem wk_enum {K : PySem.W.Frag} {ow : Addr → Prop} {H : Hp} {a : Addr} {xs : List V} {ds : List D} (h : H a = some (.lst xs)) (n : ¬ ow a) (r : RpA K ow H ds xs) : Wk K (Ite K a) (enumD 0 ds) ow H := by
  refine ⟨fun ow H => H a = some (.lst xs) ∧ ¬ ow a ∧ RpA K ow H ds xs, ⟨h, n, r⟩, fun ow1 H1 ow2 H2 st ⟨h, n, r⟩ => ⟨(st a _ h n).1, (st a _ h n).2, r.stp st⟩, fun i ow H ⟨h, n, r⟩ tr hi => ?_, fun i ow H ⟨h, n, r⟩ hi => ⟨xs, SqL.of h, ?_⟩⟩
  · rw [enumD_len] at hi
    obtain ⟨x, hx⟩ := some_of_lt (xs := xs) (i := i) (by rw [← r.length]; exact hi)
    refine ⟨⟨xs, x, SqL.of h, hx⟩, fun v H' ⟨T, y, ev, hT, eH, hy⟩ => ?_⟩
    subst ev eH
    have exy : xs[i]? = some y := hy xs (SqL.of h)
    refine ⟨Gr.new hT, fun d hd => ?_⟩
    rw [enumD_get] at hd
    obtain ⟨d0, h0, rfl⟩ := Option.map_eq_some_iff.mp hd
    unfold Rp
    refine ⟨T, _, rfl, .inl ⟨upd_same, fun z => by obtain ⟨o, ho⟩ := tr T z; rw [hT] at ho; cases ho⟩, ?_⟩
    unfold RpA
    refine ⟨_, _, rfl, by rw [Nat.zero_add]; exact rp_int, ?_⟩
    unfold RpA
    exact ⟨_, _, rfl, (r.get h0 exy).stp (Gr.new hT).stp, by unfold RpA; rfl⟩
  · rw [enumD_len] at hi
    rw [← r.length]; exact hi
def dLst : D → Option (List D)
  | .list xs => some xs
  | _ => none
theorem dLst_some {d : D} {xs : List D} (h : dLst d = some xs) : d = .list xs := by
  cases d <;> first | cases h | skip
  rfl
def iEn (m : M D) : M (List D) := bind m fun x => lift ((dLst x).map (enumD 0))
theorem mi_enum {m : M D} {p tpos : Pos} {elts : List Expr} {kk : Nat} (h : ME ca X e m) (hm : X.mg "enumerate" = none) (hg : Gl X "enumerate" := by rfl) (hs : starEach [e] X.env = [(false, eval e X.env)] := by rfl) :
    MI ca X (.Tuple elts kk tpos) (.Call (.Name "enumerate" p) [e] [] pos) (iEn m) := fun F W tk =>
  PI.imp (pi_enum hg hm (pa_cons (h F W tk) pa_nil hs) hs) fun σ H R ⟨ow, env, rel, g⟩ => by
    refine ⟨ow, env, rel, ?_⟩
    unfold iEn bind at g
    cases hq : m env with
    | ok x e1 =>
      rw [hq] at g
      rintro v ow1 H1 g1 R1 p1
      dsimp only at g
      unfold lift at g
      cases hd : dLst x with
      | none => simp only [hd, Option.map_none] at g
      | some xs =>
        simp only [hd, Option.map_some] at g
        have ed := dLst_some hd
        subst ed
        have p1' : Rp X.K ow1 H1 (.list xs) v := p1
        unfold Rp at p1'
        obtain ⟨a, us, rfl, h1, n, h2⟩ := p1'
        exact ⟨a, us, rfl, SqL.of h1, g (Ite X.K a) ow1 H1 g1 R1 (wk_enum h1 n h2)⟩
    | ex c e1 => rw [hq] at g; exact g
    | bad => rw [hq] at g; exact g
/-! ### text * int -/
def mulS (x : Str) (n : Int) : Str := Txt.mul x n
theorem op_mulS : OpR X (binaryOp .Mult) (fun x y H Q => ∃ (z : Str) (n : Int), x = .str z ∧ y = .int n ∧ MulOk z n ∧ Q (.str (Txt.mul z n)) H) := by
  intro pins s σ H x y v u Q I rx ry h
  obtain ⟨z, n, rfl, rfl, hok, q⟩ := h
  obtain ⟨t, rfl⟩ := rx
  obtain ⟨t', rfl⟩ := ry
  exact SB.mul hok fun t' k => ⟨.str (Txt.mul z n), H, I.tok _, ⟨_, rfl⟩, q⟩
end
end ML
end

section
set_option Elab.async false
set_option linter.all false
set_option maxRecDepth 100000
set_option maxHeartbeats 2000000
/-! # Texts' methods, dicts, several targets -/
namespace ML
open PySem L2
section
variable {K : PySem.W.Frag} {ca : CA}
def gMulS : Sl → Sl → Option D
  | .d (.str z), .d (.int n) => if 0 ≤ n ∧ n ≤ 10000 ∧ z.length ≤ 100 then some (.str (Txt.mul z n)) else none
  | _, _ => none
theorem mulOk {z : Str} {n : Int} (h0 : 0 ≤ n) (h1 : n ≤ 10000) (h2 : z.length ≤ 100) : MulOk z n := by
  refine ⟨?_, fun _ _ => ?_, fun _ _ => ?_⟩
  · simp; omega
  · have hz : (z.length : Int) ≤ 100 := by omega
    rw [Int.not_lt]
    by_cases hn : n = 0
    · subst hn; simp at *
    · exact Int.le_trans hz (by
        have h3 : (0 : Int) < n := by omega
        rw [Int.le_ediv_iff_mul_le h3]
        omega)
  · unfold Builtin.Str.tooLong
    have : z.length * n.toNat ≤ 100 * 10000 := Nat.mul_le_mul h2 (by omega)
    rw [sizeLine_eq]
    exact decide_eq_false (by omega)
theorem s_mulS : OpS K ca (fun x y H Q => ∃ (z : Str) (n : Int), x = .str z ∧ y = .int n ∧ MulOk z n ∧ Q (.str (Txt.mul z n)) H) gMulS := fun s t z ow H v1 v2 Q e r1 r2 tr k => by
  unfold gMulS at e
  split at e
  · obtain ⟨⟨h0, h1, h2⟩, rfl⟩ := ite_some e
    exact ⟨_, _, sv_str r1, sv_int r2, mulOk h0 h1 h2, k _ H Gr.refl rp_str⟩
  · cases e
end
def bindO {α β : Type} (o : Option α) (f : α → M β) : M β := match o with
  | some a => f a
  | none => fun _ => .bad
theorem bindO_go {α β γ : Type} {K : PySem.W.Frag} {ca : CA} {F : Fr} {W : WX} {P : PP γ β} {ow : Addr → Prop} {env : List Sl} {Hs H : Hp} {σ : St} {Q : β → Hp → Prop} {o : Option α} {f : α → M γ} (g : GoG K ca F W P Hs ow env H σ Q (bindO o f env)) : ∃ z, o = some z ∧ GoG K ca F W P Hs ow env H σ Q (f z env) := by
  cases o with
  | none => exact g.elim
  | some z => exact ⟨z, rfl, g⟩
def dStr : D → Option Str
  | .str x => some x
  | _ => none
theorem dStr_some {d : D} {x : Str} (h : dStr d = some x) : d = .str x := by
  cases d <;> first | cases h | skip
  rfl
section
variable {ca : CA} {X : Cx} {pos : Pos} {tg e a b c o : Expr} {es : List Expr}
theorem PE.start {X : Cx} {e : Expr} {te : TE} (h : PE X e te) : PE X e te := h
/-! ### s.index(t) -/
def eIndex (mo m : M D) : M D := bind mo fun x => bindO (dStr x) fun a => bind m fun y => bindO (dStr y) fun b => lift ((Txt.index0 a b).map fun k => .int (k : Nat))
theorem me_index {apos : Pos} {mo m : M D} (ho : ME ca X o mo) (he : ME ca X e m) (hc : X.calm = true := by rfl)
    (hbase : attributeBase o "index" X.env (eval o X.env) = eval o X.env := by rfl)
    (hfew : ((backTo pos (starEach [e] X.env)).all (fun x => !x.1) && (backToKw pos (keywordEach [] X.env)).all (fun x => x.1.isSome)
      && decide (([e] : List Expr).length + ([] : List Keyword).length + (if ([] : List Keyword).isEmpty then 0 else 1) < 30)) = true := by rfl)
    (hline : (apos.endLine == pos.line) = true := by rfl) (hs : starEach [e] X.env = (false, eval e X.env) :: starEach [] X.env := by rfl) (hplain : (backTo pos (starEach [] X.env)).any (·.1) = false := by rfl) :
    ME ca X (.Call (.Attribute o "index" apos) [e] [] pos) (eIndex mo m) := fun F W tk =>
  PE.imp (pe_bmS PySem.F.plainAttrs_str PySem.F.slot_str_index PySem.F.type_str_index (mt_indexX hc tk.t) (ho F W tk) (pa_cons (he F W tk) pa_nil hs) hbase hfew hline hs hplain) fun σ H Q ⟨ow, env, R, g⟩ =>
    go_bind R g fun x e1 v ow1 H1 g1 R1 p1 q1 => by
      obtain ⟨za, ea, q1⟩ := bindO_go q1
      have ed := dStr_some ea
      subst ed
      have p1' : Rp X.K ow1 H1 (.str za) v := p1
      unfold Rp at p1'
      subst p1'
      refine ⟨rfl, go_bind R1 q1 fun y e2 u ow2 H2 g2 R2 p2 q2 => ?_⟩
      obtain ⟨zb, eb, q2⟩ := bindO_go q2
      have ed := dStr_some eb
      subst ed
      have p2' : Rp X.K ow2 H2 (.str zb) u := p2
      unfold Rp at p2'
      subst p2'
      obtain ⟨z, ez, q3⟩ := lift_go q2
      obtain ⟨k, hk, rfl⟩ := Option.map_eq_some_iff.mp ez
      refine ⟨za, zb, rfl, rfl, fun k' hk' => ?_, fun hn => by rw [hk] at hn; cases hn⟩
      rw [hk] at hk'
      cases hk'
      exact q3 _ ow2 H2 Go.refl R2 rp_int
/-! ### s.join(list) -/
def joinOk (a : Str) (ys : List Str) : Bool := decide ((ys.map (·.length)).sum + ys.length * a.length ≤ 16777216)
def eJoin (mo : M D) (m : M AV) : M D := bind mo fun x => bindO (dStr x) fun a => bind m fun v => fun e => lift ((slL (content e v)).bind fun xs => (dStrs xs).bind fun ys => if joinOk a ys = true then some (.str (Txt.join a ys)) else none) e
theorem me_join {apos : Pos} {mo : M D} {m : M AV} (ho : ME ca X o mo) (he : MQ ca X e m) (hs : starEach [e] X.env = [(false, eval e X.env)] := by rfl) (hbase : attributeBase o "join" X.env (eval o X.env) = eval o X.env := by rfl) (hline : (apos.endLine == pos.line) = true := by rfl) :
    ME ca X (.Call (.Attribute o "join" apos) [e] [] pos) (eJoin mo m) := fun F W tk =>
  PE.imp (pe_join (ho F W tk) (he F W tk) hs hbase hline) fun σ H Q ⟨ow, env, R, g⟩ =>
    go_bind R g fun x e1 v ow1 H1 g1 R1 p1 q1 => by
      obtain ⟨za, ea, q1⟩ := bindO_go q1
      have ed := dStr_some ea
      subst ed
      have p1' : Rp X.K ow1 H1 (.str za) v := p1
      unfold Rp at p1'
      subst p1'
      refine ⟨⟨za, rfl⟩, go_bind R1 q1 fun y e2 u ow2 H2 g2 R2 p2 q2 => ?_⟩
      obtain ⟨z, ez, q3⟩ := lift_go q2
      obtain ⟨xs, hx, ez⟩ := Option.bind_eq_some_iff.mp ez
      obtain ⟨ys, hy, ez⟩ := Option.bind_eq_some_iff.mp ez
      obtain ⟨hj, rfl⟩ := ite_some ez
      obtain ⟨p, us, rfl, h1, h2⟩ := slL_ok hx fun n => p2.1.sv R2 n
      refine ⟨za, p, ys, rfl, rfl, .inl (by rw [← dStrs_ok hy h2]; exact SqL.of h1), of_decide_eq_true hj, q3 _ ow2 H2 Go.refl R2 rp_str⟩
/-! ### dicts -/
def keyOf : D → Option Key
  | .int i => some (.inl i)
  | .str x => some (.inr x)
  | _ => none
theorem keyOf_ok {K : PySem.W.Frag} {ow : Addr → Prop} {H : Hp} {d : D} {k : Key} {v : V} (h : keyOf d = some k) (r : Rp K ow H d v) : v = kV k := by
  cases d <;> first | cases h | skip
  · unfold Rp at r; exact r
  · unfold Rp at r; exact r
/-- the pairs of a display -/
def PK (K : PySem.W.Frag) : PP (List (Key × D)) (List (V × V)) := fun kvs ps _ ow H _ _ => ∃ us : List (Key × V), ps = us.map (fun kv => (kV kv.1, kv.2)) ∧ RpE K ow H kvs us
def MPs (ca : CA) (X : Cx) (pos : Pos) (keys : List (Option Expr)) (values : List Expr) (m : M (List (Key × D))) : Prop :=
  ∀ F W, Tk X F W → ∃ trs, PPs X pos keys values trs ∧ ∀ σ H Q, tG X.K ca F W (PK X.K) m σ H Q → tPairs trs σ H Q
def kNil : M (List (Key × D)) := ret []
def kCons (mk mv : M D) (r : M (List (Key × D))) : M (List (Key × D)) := bind mk fun x => bindO (keyOf x) fun k => bind mv fun y => bind r fun kvs => ret ((k, y) :: kvs)
theorem mps_nil : MPs ca X pos [] [] kNil := fun F W tk => ⟨[], pps_nil, fun σ H Q ⟨ow, env, R, g⟩ => g [] ow H Go.refl R ⟨[], rfl, .nil⟩⟩
theorem mps_cons {k v : Expr} {ks : List (Option Expr)} {vs : List Expr} {mk mv : M D} {r : M (List (Key × D))} (hk : ME ca X k mk) (hv : ME ca X v mv) (hr : MPs ca X pos ks vs r) : MPs ca X pos (some k :: ks) (v :: vs) (kCons mk mv r) := fun F W tk => by
  obtain ⟨trs, hp, ht⟩ := hr F W tk
  refine ⟨_, pps_cons (hk F W tk) (hv F W tk) hp, fun σ H Q ⟨ow, env, R, g⟩ => ?_⟩
  exact go_bind R g fun x e1 v ow1 H1 g1 R1 p1 q1 => by
    obtain ⟨k, ek, q1⟩ := bindO_go q1
    have ev := keyOf_ok ek p1
    subst ev
    exact go_bind R1 q1 fun y e2 u ow2 H2 g2 R2 p2 q2 => ht _ _ _ (go_bind R2 q2 fun kvs e3 ps ow3 H3 g3 R3 ⟨us, eps, re⟩ q3 => by
      subst eps
      exact q3 _ ow3 H3 Go.refl R3 ⟨(k, u) :: us, rfl, .cons ⟨rfl, Rp.stp g3.stp _ _ p2⟩ re⟩)
def nodupK : List (Key × D) → Bool
  | [] => true
  | p :: r => r.all (fun q => decide (q.1 ≠ p.1)) && nodupK r
theorem RpE.keys {K : PySem.W.Frag} {ow : Addr → Prop} {H : Hp} : ∀ {kvs : List (Key × D)} {us : List (Key × V)}, RpE K ow H kvs us → us.map (·.1) = kvs.map (·.1)
  | _, _, .nil => rfl
  | _, _, .cons h t => by rw [List.map_cons, List.map_cons, h.1, RpE.keys t]
theorem putK_new {κ : Type} [DecidableEq κ] {acc : List (κ × V)} {k : κ} {v : V} (h : ∀ p ∈ acc, p.1 ≠ k) : putK acc k v = acc ++ [(k, v)] := by
  unfold putK
  rw [if_neg]
  intro z
  obtain ⟨p, hp, e⟩ := List.any_eq_true.mp z
  exact h p hp (of_decide_eq_true e)
theorem merge_new : ∀ (us acc : List (Key × V)), (acc.map (·.1) ++ us.map (·.1)).Nodup → mergeK acc us = acc ++ us
  | [], acc, _ => by unfold mergeK; rw [List.foldl_nil, List.append_nil]
  | u :: us, acc, n => by
    show mergeK (putK acc u.1 u.2) us = _
    rw [putK_new fun p hp e => ?_, merge_new us (acc ++ [(u.1, u.2)]) (by
      rw [List.map_append, List.append_assoc]; exact n), List.append_assoc]
    · rfl
    · rw [List.map_cons] at n
      have := List.nodup_append.mp n
      exact this.2.2 _ (List.mem_map_of_mem hp) _ List.mem_cons_self e
theorem nodupK_ok : ∀ {kvs : List (Key × D)}, nodupK kvs = true → (kvs.map (·.1)).Nodup
  | [], _ => List.nodup_nil
  | p :: r, h => by
    unfold nodupK at h
    obtain ⟨h1, h2⟩ := Bool.and_eq_true_iff.mp h
    rw [List.map_cons]
    refine List.nodup_cons.mpr ⟨fun z => ?_, nodupK_ok h2⟩
    obtain ⟨q, hq, e⟩ := List.mem_map.mp z
    exact of_decide_eq_true (List.all_eq_true.mp h1 q hq) e
def oDct (m : M (List (Key × D))) : M Ob := bind m fun kvs => lift (if nodupK kvs = true ∧ kvs.length ≤ 15 then some (.dct kvs) else none)
theorem RpE.length {K : PySem.W.Frag} {ow : Addr → Prop} {H : Hp} {kvs : List (Key × D)} {us : List (Key × V)} (h : RpE K ow H kvs us) : us.length = kvs.length := by
  have := congrArg List.length h.keys
  rwa [List.length_map, List.length_map] at this
theorem mo_disp {keys : List (Option Expr)} {values : List Expr} {m : M (List (Key × D))} (h : MPs ca X pos keys values m) (hall : keys.all (·.isSome) = true := by rfl) (hl : keys.length = values.length := by rfl) (h0 : keys ≠ [] := by intro z; cases z) (h15 : keys.length ≤ 15 := by decide) :
    MO ca X (.Dict keys values pos) (oDct m) := fun F W tk => by
  obtain ⟨trs, hp, ht⟩ := h F W tk
  refine PE.imp (pe_disp hp hall hl h0 h15) fun σ H Q ⟨ow, env, R, g⟩ p hn => ht _ _ _ ?_
  obtain ⟨R1, L⟩ := R.more (o := .dK []) hn
  have g0 := Go.more R (o := .dK []) hn
  refine ⟨more ow p, env, R1, ?_⟩
  unfold oDct bind at g
  cases hm : m env with
  | ex c e1 => rw [hm] at g; exact fun ow' H' st R' => g ow' H' (g0.stp.trans st) R'
  | bad => rw [hm] at g; exact g
  | ok kvs e1 =>
    rw [hm] at g
    rintro ps ow1 H1 g1 R1 ⟨us, eps, re⟩
    dsimp only at g
    by_cases hc : nodupK kvs = true ∧ kvs.length ≤ 15
    rotate_left
    · rw [if_neg hc] at g; exact g.elim
    rw [if_pos hc] at g
    obtain ⟨hn1, hn2⟩ := hc
    have q := g
    obtain ⟨L1, eq⟩ := L.go g1
    have hp1 : H1 p = some (.dK []) := by rw [eq]; exact upd_same
    refine ⟨hp1, us, eps, by rw [re.length]; exact hn2, ?_⟩
    have em : mergeK [] us = us := by
      rw [merge_new us [] (by rw [List.map_nil, List.nil_append, re.keys]; exact nodupK_ok hn1), List.nil_append]
    rw [em]
    have sm : Stp ow1 H1 ow1 (upd H1 p (.dK us)) := stp_mut L1.1
    have R3 := R1.mutL (o := .dK us) L1
    refine q (.ref p) ow1 _ ⟨(g0.stp.trans g1.stp).trans sm, fun q w n => ?_, fun a ha => ?_⟩ R3 ⟨p, rfl, hn, ⟨us, upd_same, re.stp sm⟩, L1⟩
    · obtain ⟨a1, b1, c1⟩ := g0.lo q w n
      obtain ⟨a2, b2, c2⟩ := g1.lo q a1 c1
      obtain ⟨u, hu⟩ := R.trk q w
      exact ⟨a2, by rw [upd_ne (fun z => by rw [z, hn] at hu; cases hu)]; exact b2.trans b1, c2⟩
    · by_cases z : a = p
      · rw [z]; exact hn
      · rw [upd_ne z] at ha; exact g0.dom a (g1.dom a ha)
theorem mo_dict0 : MO ca X (.Dict [] [] pos) (ret (.dct [])) := fun F W tk =>
  PE.imp pe_dnewK fun σ H Q ⟨ow, env, R, g⟩ p hn => by
    obtain ⟨R1, L⟩ := R.more (o := .dK []) hn
    exact g (.ref p) _ _ (Go.more R hn) R1 ⟨p, rfl, hn, ⟨[], upd_same, .nil⟩, L⟩
/-- {..}[y] -/
def valD (kvs : List (Key × D)) (k : Key) : Option D := (kvs.find? fun kv => decide (kv.1 = k)).map (·.2)
theorem RpE.val {K : PySem.W.Frag} {ow : Addr → Prop} {H : Hp} : ∀ {kvs : List (Key × D)} {us : List (Key × V)} {k : Key} {d : D}, RpE K ow H kvs us → valD kvs k = some d → ∃ v, valV us k = some v ∧ Rp K ow H d v
  | _, _, k, d, .nil, e => by cases e
  | p :: kvs, q :: us, k, d, .cons h t, e => by
    by_cases hk : p.1 = k
    · have e1 : valD (p :: kvs) k = some p.2 := by simp [valD, List.find?_cons, hk]
      rw [e1] at e
      cases e
      exact ⟨q.2, valV_pos (h.1.symm.trans hk), h.2⟩
    · have e1 : valD (p :: kvs) k = valD kvs k := by simp [valD, List.find?_cons, hk]
      rw [e1] at e
      obtain ⟨v, hv, r⟩ := RpE.val t e
      exact ⟨v, by rw [valV_neg (fun z => hk (h.1.trans z))]; exact hv, r⟩
def obK : Ob → Option (List (Key × D))
  | .dct kvs => some kvs
  | _ => none
theorem obK_some {k : Ob} {kvs : List (Key × D)} (h : obK k = some kvs) : k = .dct kvs := by
  cases k <;> first | cases h | skip
  rfl
def eDGet (mo : M Ob) (my : M D) : M D := bind mo fun k => bindO (obK k) fun kvs => bind my fun y => bindO (keyOf y) fun ky => lift (valD kvs ky)
theorem me_dget {mo : M Ob} {my : M D} (hu : X.A.units + 1 < cLine) (ho : MO ca X o mo) (hi : ME ca X e my) (hs : NoSl e) : ME ca X (.Subscript o e pos) (eDGet mo my) := fun F W tk =>
  PE.imp (pe_dget hu (ho F W tk) (hi F W tk) hs) fun σ H Q ⟨ow, env, R, g⟩ => go_bind R g fun k e1 v ow1 H1 g1 R1 ⟨p, ev, n, r, L⟩ q1 => by
    obtain ⟨kvs, ek, q1⟩ := bindO_go q1
    have ed := obK_some ek
    subst ed
    subst ev
    exact go_bind R1 q1 fun y e2 u ow2 H2 g2 R2 p2 q2 => by
      obtain ⟨ky, eky, q2⟩ := bindO_go q2
      obtain ⟨z, ez, q3⟩ := lift_go q2
      obtain ⟨L2, eq⟩ := L.go g2
      obtain ⟨us, h1, h2⟩ := r.stp g2.stp eq
      obtain ⟨w, hw, rw_⟩ := h2.val ez
      have eu := keyOf_ok eky p2
      refine ⟨p, w, rfl, ?_, q3 _ ow2 H2 Go.refl R2 rw_⟩
      rw [eu, ← hw]
      exact DGet.k h1
/-! ### several targets -/
def sAsg (g : GF) (m : M D) : MStm := xS m fun x => fun e => match g x e with
  | some e' => .nx e'
  | none => .bad
theorem ms_asg {js : List Nat} {g : GF} {m : M D} (h : ME ca X e m) (hg : MG ca X tg js g) (hs : swapsWithSole [tg] e pos.line X.env = pure false := by rfl) (hw : swappedStores [tg] e X.env = pure none := by rfl)
    (h1 : (assignEach [tg] X.env).map (·.2) = [assign tg X.env] := by rfl) : MS ca X (.Assign [tg] e pos) (sAsg g m) := fun F W tk hp =>
  PS.imp (ps_asg (h F W tk) (hg F) hs hw h1) fun Dn σ H ⟨ow, env, R, gg⟩ => go_stm R gg fun x e1 v ow1 H1 g1 R1 p1 q1 => by
    split at q1
    · rename_i e' he
      exact ⟨ow1, e1, x, e', R1, p1, he, fun σ' _ _ R' _ => q1 σ' ow1 H1 Stp.refl R'⟩
    · exact q1.elim
end
end ML
end

section
set_option Elab.async false
set_option linter.all false
set_option maxRecDepth 100000
set_option maxHeartbeats 4000000
/-! # An own exception class whose __init__ calls the class's above, without fields -/
namespace ML
open PySem L2 PySem.Spec PyProof.Rows
structure InitOf (K : PySem.W.Frag) (B : Addr) (mc : Value) : Prop where
  rd : PySem.W.readsIn K B mc = true
  ga : PySem.W.specialIn K (.ref B) "__getattribute__" = some (some (.builtin "type.__getattribute__"))
  at_ : PySem.W.findCls K (.ref B) mc "__init__" = some (.val (.builtin "ValueError.__init__"))
def tOwI (K : PySem.W.Frag) (ta : TA) : TE := fun σ H Q => ta σ H fun vs H1 => ∃ (a C : Addr), vs = [.ref a] ∧ OexC K C ∧ H1 a = some (exo a C none) ∧ Q .non H1
section
variable {X : Cx} {o e : Expr} {es : List Expr} {to te : TE} {ta : TA} {f : Str} {p p' p1 p2 pos : Pos}
theorem pe_ownI {x : Str} {B : Addr} {mc : Value} {pl : Sem Bool} (hm : X.mg x = some (.ref B)) (IB : InitOf X.K B mc) (ha : PA X [e] ta) (hg : Gl X x := by rfl) (hdb : (x == ("__debug__" : Str)) = false := by decide)
    (hc : eval (.Call (.Attribute (.Name x p1) "__init__" p2) [e] [] pos) X.env = (do
      let ov ← eval (.Name x p1) X.env
      standAt p2.atName
      let (f, first) ← holding [ov] (getMethod ov "__init__" pl)
      callWith pos f first (backTo pos (starEach [e] X.env)) (backToKw pos (keywordEach [] X.env))) := by rfl)
    (he : starEach [e] X.env = (false, eval e X.env) :: starEach [] X.env := by rfl) (hpl : (backTo pos (starEach [] X.env)).any (·.1) = false := by rfl) :
    PE X (.Call (.Attribute (.Name x p1) "__init__" p2) [e] [] pos) (tOwI X.K ta) := by
  refine ⟨fun pins s σ H Q I h => ?_⟩
  refine PySem.W.methodCall_KW (ld_glob I hg hm ?_ hdb) hc
  refine PySem.W.method_cls I.kIn IB.ga (PySem.W.cls_value I.kIn IB.rd IB.at_ (by decide +kernel) ?_)
  show wpAny _ _ (callWith pos (Value.builtin "ValueError.__init__") [] (backTo pos (starEach [e] X.env)) []) _ _ _
  refine PyProof.Rows.callWith_method1 (thn (ha.run pos pins _ σ H _ (I.tok _) h) fun us s1 ⟨vs, H1, I1, r1, a, C, ev, T, ea, q⟩ => ?_) he hpl
  subst ev
  cases r1 with
  | @cons _ u0 _ ur ra rw' =>
    obtain rfl : u0 = Value.ref a := ra
    cases rw'
    exact oinit_ok T I1 ea (Nat.zero_le _) fun s' J => ⟨.non, H1, J, rfl, q⟩
end
/-- what an __init__ of that kind does -/
def spI (K : PySem.W.Frag) : Sp := fun vs H Q E => ∃ (a C : Addr), vs = [.ref a] ∧ OexC K C ∧ H a = some (exo a C none) ∧ Q .non H
section
variable {P : Program} {w : World} {K : PySem.W.Frag} {mg : Str → Option Value} {base : Heap}
theorem fnI {x qual : Str} {st : Stmt} {f : Addr} {fd : FuncData} {N : List Str} {y : Str} {k : Nat} (Fn : Fun K x qual st f fd) (S : FnScope [y] [y] (defScope st))
    (hbody : ∀ (cdv : Value) (A : Around) (outer : List Env) (s : Shared) (H : Hp) (E : XK), PSs (cxOf (L2.CX P w) P w K mg base [y] qual (defScope st) f cdv A outer s H E) (defBody st) (tDrop (tOwI K (tCons (fun σ H Q => ∃ v, σ[0]? = some (some v) ∧ Q v H) tNil)))) :
    FnOk P w K mg base (L2.CX P w) (k + 1) f fd [y] (spI K) := by
  refine Fn.okX S (fun vs H Q E ⟨a, C, e, _⟩ => by rw [e]; rfl) fun cdv A outer s H vs Q E hr ⟨a, C, e, T, ea, q⟩ => ?_
  subst e
  exact ⟨_, hbody cdv A outer s H E, .ref a, rfl, a, C, rfl, T, ea, q⟩
end
section
variable {X : Cx}
theorem mk_endN {pins : List (Addr × Obj)} {σ : L2.St} {H1 : Hp} {hp hp2 h2 : Heap} {g1 g2 : Array GenState} {d1 d2 : Drawn} {t1 t2 : Nat} {os1 os2 : OsState} {a C : Addr} (I1 : Inv X pins σ H1 ⟨hp, g1, d1, t1, os1⟩)
    (ha : hp.objs.size ≤ a) (k : ∀ b o, hp.get? b = some o → hp2.get? b = some o) (un : Un (frs X.stack) [] (upd H1 a (exo a C none)) (upd H1 a (exo a C none)) hp2 h2) (hok : HOk X.prog X.w (upd H1 a (exo a C none)) h2) (ho : os2 = os1) (hb : AllBare g2) :
    ∃ (t0 : Addr) (G : Heap), Inv X pins σ H1 ⟨G, g2, d2, t2, os2⟩ ∧ (∀ b o, G.get? b = some o → h2.get? b = some o) ∧ G.get? a = none ∧
      h2.get? a = some ({ cls := .ref C, dict := none, data := .fields #[.ref t0, .none, .none, .none, .bool false, .none] } : Obj) := by
  obtain ⟨t0, hoe⟩ := exo_at hok upd_same
  have hn : H1 a = none := I1.hok.fresh ha
  obtain ⟨G, g1', g2'⟩ := restrict h2 fun b => decide (b ≠ a)
  have gk : ∀ b, b ≠ a → G.get? b = h2.get? b := fun b hb => g1' b (decide_eq_true hb)
  have ge : G.get? a = none := g2' a (by simp)
  have nha : ∀ {b : Addr} {o : Obj}, hp.get? b = some o → b ≠ a := fun {b o} z => Nat.ne_of_lt (Nat.lt_of_lt_of_le (Heap.lt_size z) ha)
  have up : ∀ {b : Addr}, b ≠ a → H1 b = none → upd H1 a (exo a C none) b = none := fun {b} hb n => by rw [upd_ne hb]; exact n
  have U : Un (frs X.stack) [] H1 H1 hp G := {
    keep := fun b o z n hf hx => by
      rw [gk b (nha z)]
      exact un.keep b o (k b o z) (up (nha z) n) hf hx
    slot := fun b o z n hf hx => by
      rw [gk b (nha z)]
      exact un.slot b o (k b o z) (up (nha z) n) hf hx
    free := fun b o z n hx => n
    there := fun b o z hx => by
      rw [gk b (nha z)]
      exact un.there b o (k b o z) hx
    tups := fun b xs z => z
    frzs := fun b o v z => z
    tbls := fun b ps z => ⟨#[], by rw [z]; simp⟩ }
  have hok3 : HOk X.prog X.w H1 G := fun b o z => by
    have hba : b ≠ a := fun e => by rw [e, hn] at z; cases z
    have z2 : upd H1 a (exo a C none) b = some o := by rw [upd_ne hba]; exact z
    have noa : ∀ {c : Addr}, upd H1 a (exo a C none) c = some (.own b) → c ≠ a := fun {c} hc => at_ne upd_same hc exo_own
    exact (hok b o z2).stay (fun c v hc y => by
        have hca : c ≠ a := by
          rcases hc with hc | hc
          · rw [hc]; exact hba
          · exact noa hc
        rw [gk c hca]
        exact y)
      (fun c hc => by have := noa hc; rw [upd_ne this] at hc; exact hc) (fun c xs hc => by have := at_ne upd_same hc exo_tup; rw [upd_ne this] at hc; exact hc)
  have J : Inv X pins σ H1 ⟨G, g2, d2, t2, os2⟩ := I1.call' (ch := []) ho U hok3 hb (fun b z => absurd z (by simp))
  refine ⟨t0, G, J, fun b o z => ?_, ge, hoe⟩
  by_cases hba : b = a
  · rw [hba, ge] at z
    cases z
  · exact (gk b hba).symm.trans z
theorem pmk_oex0 {x : Str} {p pos : Pos} {C fI : Addr} {k : Nat} {fd : FuncData} {ps : List Str} (T : OexC X.K C) (iC : PySem.W.findIn X.K (.ref C) "__init__" = some (some (.ref fI))) (tI : PySem.W.typeIn X.K (.ref fI) = some (.type "function"))
    (F1 : FnOk X.prog X.w X.K X.mg X.base (L2.CX X.prog X.w) k fI fd ps (spI X.K)) (hr : Room (k + 1) X.A) (hb : Binds X.K fd ps []) (hm : X.mg x = some (.ref C)) (hg : Gl X x := by rfl)
    (hdb : (x == ("__debug__" : Str)) = false := by decide) :
    PMk X (.Call (.Name x p) [] [] pos) (fun _ H Q => Q (.ref C) none H) := by
  intro pins s σ H Q I h
  obtain ⟨nm, q, N, bs, bm, sn, sub, ab, col, dd, k0, k1, k2, k3, k5, hC, hbm⟩ := T.cls
  refine wpAny_Call_Name_kw (ld_glob I hg hm ?_ hdb)
  refine PySem.W.callWith_K0 I.kIn T.kC ?_
  show wpAny _ _ (call (.ref C) []) _ _ _
  have I1 := I
  obtain ⟨hp, g, dr, tk, os⟩ := s
  have hsz : hp.objs.size ≤ hp.objs.size + 1 := Nat.le_succ _
  have hn : H (hp.objs.size + 1) = none := I1.hok.fresh hsz
  have kk : ∀ b o, hp.get? b = some o → ((hp.push (PySem.W.kdv_tup [])).push (PySem.HandSPX.excO C hp.objs.size)).get? b = some o := fun b o e => Heap.get?_push_of_some _ (Heap.get?_push_of_some _ e)
  have hget : ((hp.push (PySem.W.kdv_tup [])).push (PySem.HandSPX.excO C hp.objs.size)).get? (hp.objs.size + 1) = some (PySem.HandSPX.excO C hp.objs.size) := by heap_get
  have I2 : Inv X pins σ (upd H (hp.objs.size + 1) (exo (hp.objs.size + 1) C none)) ⟨(hp.push (PySem.W.kdv_tup [])).push (PySem.HandSPX.excO C hp.objs.size), g, dr, tk, os⟩ :=
    I1.laid (t' := tk) (a := hp.objs.size + 1) (o := exo (hp.objs.size + 1) C none) (h' := (hp.push (PySem.W.kdv_tup [])).push (PySem.HandSPX.excO C hp.objs.size)) kk hsz (exo_ok hget)
  have hq : spI X.K [V.ref (hp.objs.size + 1)] (upd H (hp.objs.size + 1) (exo (hp.objs.size + 1) C none)) (fun v H2 => v = .non ∧ H2 = upd H (hp.objs.size + 1) (exo (hp.objs.size + 1) C none)) (fun _ _ _ => False) :=
    ⟨_, C, rfl, T, upd_same, rfl, rfl⟩
  have r2 : Vals [V.ref (hp.objs.size + 1)] [Value.ref (hp.objs.size + 1)] := .cons rfl .nil
  have hl : ([Value.ref (hp.objs.size + 1)] ++ ([] : List Value)).length = ps.length := by
    have e := r2.length
    rw [F1.len _ _ _ _ hq] at e
    exact e.symm
  have hx : Passes (L2.CX X.prog X.w) X (fun _ _ _ => False) := passL
  refine wpAny_call (PySem.HandSPX.call_own (rest := []) F.excBase_ValueError (fun Y => PySem.HandSPX.refsVE_contains Y bm hbm) (I1.kIn _ _ hC) (PySem.W.looks_findIn I1.kIn iC) (fun self => PySem.W.bind_fn I1.kIn self tI) (Nat.zero_le _)
    (codeAny_mono (F1.run _ X.stack _ _ ⟨[Value.ref (hp.objs.size + 1)], []⟩ [Value.ref (hp.objs.size + 1)] _ _ (fun _ _ _ => False) (hr.make C [] []) (I2.env0.make C [] []) (hb _ [Value.ref (hp.objs.size + 1)] I2.kIn hl) r2 hq) fun r s' hq' => ?_))
  cases r with
  | error er => exact hx pins σ _ _ er s' I2 hq'
  | ok fl =>
    cases fl with
    | ret u =>
      obtain ⟨v, H2, os2, bare2, un2, hok2, rv, ev, eH⟩ := hq'
      subst ev eH
      obtain ⟨h2, g2, d2, t2, os'⟩ := s'
      obtain ⟨t0, G, J, kG, ge, hoe⟩ := mk_endN (d2 := d2) (t2 := t2) I1 hsz kk un2 hok2 os2 bare2
      exact ⟨rv, _, _, _, ⟨G, g2, d2, t2, os'⟩, H, .ref C, none, rfl, J, kG, ge, hoe, ⟨rfl, rfl⟩, rfl, rfl, hn, rfl, bare2, raises_own T.exC T.tyC, h⟩
    | next => exact False.elim hq'
    | brk => exact False.elim hq'
    | cont => exact False.elim hq'
end
end ML
end

section
set_option Elab.async false
set_option linter.all false
set_option maxRecDepth 100000
set_option maxHeartbeats 2000000
/-! # Defs of a program's top, by facts -/
namespace ML
open PySem L2
open PyProof.Rows (envOfC)
def eRv (m : M RV) : M D := bind m fun r => lift (rvD r)
def oRv (m : M RV) : M Ob := bind m fun r => lift (rvO r)
section
variable {ca : CA} {X : Cx} {pos : Pos}
theorem me_gi {x : Str} {i : Int} (h : ∃ t, X.mg x = some (.int i t)) (hg : Gl X x := by rfl) (hd : (x == ("__debug__" : Str)) = false := by decide) : ME ca X (.Name x pos) (eC (.int i)) := by
  obtain ⟨t, h⟩ := h
  exact me_gl (v := .int i) h ⟨t, rfl⟩ (fun ow H => rp_int) hg hd
theorem me_gs {x : Str} {z : Str} (h : ∃ t, X.mg x = some (.str z t)) (hg : Gl X x := by rfl) (hd : (x == ("__debug__" : Str)) = false := by decide) : ME ca X (.Name x pos) (eC (.str z)) := by
  obtain ⟨t, h⟩ := h
  exact me_gl (v := .str z) h ⟨t, rfl⟩ (fun ow H => rp_str) hg hd
/-- the module's name x is a tuple of data -/
def TupG (K : PySem.W.Frag) (mg : Str → Option Value) (x : Str) (ds : List D) : Prop := ∃ (a : Addr), mg x = some (.ref a) ∧ ∀ ow H, Rp K ow H (.tuple ds) (.ref a)
theorem me_gt {x : Str} {ds : List D} (h : TupG X.K X.mg x ds) (hg : Gl X x := by rfl) (hd : (x == ("__debug__" : Str)) = false := by decide) : ME ca X (.Name x pos) (eC (.tuple ds)) := by
  obtain ⟨a, h, r⟩ := h
  exact me_gl (v := .ref a) h rfl r hg hd
end
theorem len1 {m : M (List AV)} {n : Nat} (h : Len m n) : ∀ env as e', m env = .ok as e' → as.length + 1 = n + 1 := fun env as e' q => by rw [h env as e' q]
section
variable {P : Program} {w : World} {K : PySem.W.Frag} {mg : Str → Option Value} {base : Heap} {ca : CA}
theorem fnMD {x qual : Str} {params : Arguments} {body : List Stmt} {scope : Scope} {f : Addr} {fd : FuncData} {N ps : List Str} {k : Nat} {m : MStm} (Fn : FunD K x qual params body scope [] [] f fd) (S : FnScope N ps scope) (hl : ps.length ≤ N.length)
    (hbody : ∀ (cdv : Value) (A : Around) (outer : List Env) (s : Shared) (H : Hp) (E : XK), Room k (A.deeper (envOfC qual scope s.heap.objs.size f cdv)) → MSs ca (cxOf (L2.CX P w) P w K mg base N qual scope f cdv A outer s H E) body m) :
    FnOk P w K mg base (L2.CX P w) (k + 1) f fd ps (spM K ca ps.length (runBody ps.length N.length m)) := by
  refine Fn.ok S (fun vs H Q E ⟨_, _, h, _⟩ => h) fun cdv A outer s H vs Q E hr ⟨ow, args, hv, AO, tr, g⟩ => ?_
  have hp : PassesOwn (model P w) (cxOf (L2.CX P w) P w K mg base N qual scope f cdv A outer s H E).A (cxOf (L2.CX P w) P w K mg base N qual scope f cdv A outer s H E).env (cxOf (L2.CX P w) P w K mg base N qual scope f cdv A outer s H E).xe := PassesOwn.leaving
  refine ⟨_, hbody cdv A outer s H E hr ⟨H, ow, IoA args vs, vs, 0⟩ (fun cls d _ H => E cls d H) ⟨takes_of rfl rfl rfl rfl, fun a h => by have z := hr.hd; rw [show (A.deeper (envOfC qual scope s.heap.objs.size f cdv)).handled = some (.ref a) from h] at z; cases z⟩ hp, ?_⟩
  have ha : args.length = ps.length := AO.len.trans hv
  refine ⟨ow, _, AO.rel tr (by omega), ?_⟩
  show GoS K ca _ _ ow H _ _
  unfold runBody at g
  rw [if_pos ha] at g
  rw [← hv] at g
  rw [hv] at g ⊢
  cases hm : m (args ++ List.replicate (N.length - ps.length) .un) with
  | nx e =>
    rw [hm] at g
    dsimp only at g
    by_cases io : ioOk args e = true
    · rw [if_pos io] at g
      exact fun σ' ow' H' s' R' => g .non H' R'.kept (outs_of R' ha io R'.sub) (by unfold Rp; rfl)
    · rw [if_neg io] at g; exact g.elim
  | rt r e =>
    rw [hm] at g
    dsimp only at g
    by_cases io : ioOk args e = true
    · rw [if_pos io] at g
      cases r with
      | d x => exact fun v σ' ow' H' s' R' rp => g v H' R'.kept (outs_of R' ha io R'.sub) (rp.stp (anti R'.sub))
      | o k =>
        intro p σ' ow' H' s' R' ro L
        have sub : ∀ a, more ow p a → ow' a := fun a z => by
          rcases z with z | z
          · exact R'.sub a z
          · rw [z]; exact L.1
        exact g p H' R'.kept L.2.1 ro.there (outs_of R' ha io sub) (ro.stp (anti sub) rfl)
    · rw [if_neg io] at g; exact g.elim
  | ex c e =>
    rw [hm] at g
    dsimp only at g
    by_cases io : ioOk args e = true
    · rw [if_pos io] at g
      exact fun σ' ow' H' s' R' => g H' R'.kept (outs_of R' ha io R'.sub)
    · rw [if_neg io] at g; exact g.elim
  | bk e => rw [hm] at g; exact g.elim
  | ct e => rw [hm] at g; exact g.elim
  | bad => rw [hm] at g; exact g.elim
/-- a function of the top -/
theorem calD {x qual : Str} {params : Arguments} {body : List Stmt} {scope : Scope} {f : Addr} {fd : FuncData} {N ps : List Str} {k : Nat} {m : MStm} (Fn : FunD K x qual params body scope [] [] f fd) (hm : mg x = some (.ref f)) (S : FnScope N ps scope)
    (hb : ∀ (kV doc pm : Value) (an : Option Addr) (cdv ct : Value) (us : List Value), us.length = ps.length → bindArgs (PySem.W.fnOf x qual params body scope .none kV doc pm an cdv ct) ⟨us, []⟩ = pure (ps.zip us))
    (hbody : ∀ (cdv : Value) (A : Around) (outer : List Env) (s : Shared) (H : Hp) (E : XK), Room k (A.deeper (envOfC qual scope s.heap.objs.size f cdv)) → MSs ca (cxOf (L2.CX P w) P w K mg base N qual scope f cdv A outer s H E) body m)
    (hl : ps.length ≤ N.length := by decide) : Cal P w K mg base ca (k + 1) x ps.length (runBody ps.length N.length m) :=
  ⟨f, fd, ps, hm, Fn.kp, Fn.bindsN hb, fnMD Fn S hl hbody⟩
/-- a method -/
theorem mcalD {c x qual : Str} {params : Arguments} {body : List Stmt} {scope : Scope} {f : Addr} {fd : FuncData} {N ps : List Str} {k : Nat} {m : MStm} (Fn : FunD K x qual params body scope [] [] f fd) (hc : Cls K (ca c)) (hm : Meth K (ca c) x f) (S : FnScope N ps scope)
    (hb : ∀ (kV doc pm : Value) (an : Option Addr) (cdv ct : Value) (us : List Value), us.length = ps.length → bindArgs (PySem.W.fnOf x qual params body scope .none kV doc pm an cdv ct) ⟨us, []⟩ = pure (ps.zip us))
    (hbody : ∀ (cdv : Value) (A : Around) (outer : List Env) (s : Shared) (H : Hp) (E : XK), Room k (A.deeper (envOfC qual scope s.heap.objs.size f cdv)) → MSs ca (cxOf (L2.CX P w) P w K mg base N qual scope f cdv A outer s H E) body m)
    (hl : ps.length ≤ N.length := by decide) : MCal P w K mg base ca (k + 1) c x ps.length (runBody ps.length N.length m) :=
  ⟨hc, f, fd, ps, hm, Fn.bindsN hb, fnMD Fn S hl hbody⟩
theorem MCal.mono {j k : Nat} {c m : Str} {n : Nat} {mf : List Sl → CR} (h : MCal P w K mg base ca j c m n mf) (z : j ≤ k) : MCal P w K mg base ca k c m n mf := by
  obtain ⟨f, fd, ps, a, b, d⟩ := h.ex
  exact ⟨h.cls, f, fd, ps, a, b, d.mono z⟩
/-- making -/
theorem makeD {c qual : Str} {params : Arguments} {body : List Stmt} {scope : Scope} {f : Addr} {fd : FuncData} {N ps : List Str} {k : Nat} {m : MStm} (Fn : FunD K "__init__" qual params body scope [] [] f fd) (hc : mg c = some (.ref (ca c))) (hm : Mk K (ca c) f) (S : FnScope N ps scope)
    (hb : ∀ (kV doc pm : Value) (an : Option Addr) (cdv ct : Value) (us : List Value), us.length = ps.length → bindArgs (PySem.W.fnOf "__init__" qual params body scope .none kV doc pm an cdv ct) ⟨us, []⟩ = pure (ps.zip us))
    (hbody : ∀ (cdv : Value) (A : Around) (outer : List Env) (s : Shared) (H : Hp) (E : XK), Room k (A.deeper (envOfC qual scope s.heap.objs.size f cdv)) → MSs ca (cxOf (L2.CX P w) P w K mg base N qual scope f cdv A outer s H E) body m)
    (hl : ps.length ≤ N.length := by decide) : Make P w K mg base ca (k + 1) c ps.length (runBody ps.length N.length m) :=
  ⟨hc, f, fd, ps, hm, Fn.bindsN hb, fnMD Fn S hl hbody⟩
theorem Make.mono {j k : Nat} {c : Str} {n : Nat} {mf : List Sl → CR} (h : Make P w K mg base ca j c n mf) (z : j ≤ k) : Make P w K mg base ca k c n mf := by
  obtain ⟨f, fd, ps, a, b, d⟩ := h.ex
  exact ⟨h.at_, f, fd, ps, a, b, d.mono z⟩
/-- an own error that can be raised -/
structure Rz (P : Program) (w : World) (K : PySem.W.Frag) (mg : Str → Option Value) (base : Heap) (ca : CA) (c : Str) : Prop where
  at_ : mg c = some (.ref (ca c))
  T : OexC K (ca c)
  ex : ∃ (fI : Addr) (fd : FuncData) (ps : List Str), PySem.W.findIn K (.ref (ca c)) "__init__" = some (some (.ref fI)) ∧ PySem.W.typeIn K (.ref fI) = some (.type "function") ∧ FnOk P w K mg base (L2.CX P w) 1 fI fd ps (spI K) ∧ Binds K fd ps []
theorem pmk_r {X : Cx} {p pos : Pos} {c : Str} (r : Rz X.prog X.w X.K X.mg X.base ca c) (hr : Room 2 X.A) (hg : Gl X c := by rfl) (hdb : (c == ("__debug__" : Str)) = false := by decide) : PMk X (.Call (.Name c p) [] [] pos) (fun _ H Q => Q (.ref (ca c)) none H) := by
  obtain ⟨fI, fd, ps, h1, h2, h3, h4⟩ := r.ex
  exact pmk_oex0 r.T h1 h2 h3 hr h4 r.at_ hg hdb
theorem fnID {x qual : Str} {params : Arguments} {body : List Stmt} {scope : Scope} {f : Addr} {fd : FuncData} {y : Str} {k : Nat} (Fn : FunD K x qual params body scope [] [] f fd) (S : FnScope [y] [y] scope)
    (hbody : ∀ (cdv : Value) (A : Around) (outer : List Env) (s : Shared) (H : Hp) (E : XK), PSs (cxOf (L2.CX P w) P w K mg base [y] qual scope f cdv A outer s H E) body (tDrop (tOwI K (tCons (fun σ H Q => ∃ v, σ[0]? = some (some v) ∧ Q v H) tNil)))) :
    FnOk P w K mg base (L2.CX P w) (k + 1) f fd [y] (spI K) := by
  refine Fn.ok S (fun vs H Q E ⟨a, C, e, _⟩ => by rw [e]; rfl) fun cdv A outer s H vs Q E hr ⟨a, C, e, T, ea, q⟩ => ?_
  subst e
  exact ⟨_, hbody cdv A outer s H E, .ref a, rfl, a, C, rfl, T, ea, q⟩
end
/-! ### facts of the written part -/
open He
def oexB (K : PySem.W.Frag) (C : Addr) : Bool := match K.lookup C with
  | some ⟨.type "type", dd, .cls cd, sl⟩ => (match cd.mro, sl.toList with
    | .ref C' :: bm, [k0, k1, k2, k3, some (.builtin n), k5] => C' == C && n == "ValueError.__new__" && !cd.hasDel && cd.hasDict && PySem.HandSPX.refsVE bm
    | _, _ => false) && (eqO (PySem.W.findIn K (.ref C) "__setattr__") (some (some (.builtin "object.__setattr__"))) && decide (PySem.W.subIn K (.ref C) (.type "BaseException") = some true) && decide (PySem.W.typeIn K (.ref C) = some (.type "type")) && PySem.W.keepIn K (.ref C))
  | _ => false
theorem oexB_ok {K : PySem.W.Frag} {C : Addr} (h : oexB K C = true) : OexC K C := by
  unfold oexB at h
  split at h
  · rename_i dd cd sl ho
    obtain ⟨h1, h2⟩ := Bool.and_eq_true_iff.mp h
    obtain ⟨h2, hk⟩ := Bool.and_eq_true_iff.mp h2
    obtain ⟨h2, ht⟩ := Bool.and_eq_true_iff.mp h2
    obtain ⟨h2, hb⟩ := Bool.and_eq_true_iff.mp h2
    split at h1
    · rename_i C' bm k0 k1 k2 k3 n k5 hm hs
      simp only [Bool.and_eq_true, beq_iff_eq, Bool.not_eq_true'] at h1
      obtain ⟨⟨⟨⟨rfl, rfl⟩, hdel⟩, hdict⟩, hve⟩ := h1
      refine ⟨?_, eqO_ok h2, of_decide_eq_true hb, of_decide_eq_true ht, hk⟩
      obtain ⟨nm, bs, mro, ns, qn, hd, sn, sub, ab, col, del⟩ := cd
      dsimp only at hm hdel hdict
      subst hm hdel hdict
      have hsl : sl = #[k0, k1, k2, k3, some (.builtin "ValueError.__new__"), k5] := by
        obtain ⟨l⟩ := sl
        simp only at hs
        rw [hs]
      subst hsl
      exact ⟨nm, qn, ns, bs, bm, sn, sub, ab, col, dd, k0, k1, k2, k3, k5, ho, hve⟩
    · cases h1
  · cases h
def initB (K : PySem.W.Frag) (B : Addr) : Bool := PySem.W.readsIn K B (.type "type") && eqO (PySem.W.specialIn K (.ref B) "__getattribute__") (some (some (.builtin "type.__getattribute__"))) && (match PySem.W.findCls K (.ref B) (.type "type") "__init__" with
  | some (.val v) => decide (v = .builtin "ValueError.__init__")
  | _ => false)
theorem initB_ok {K : PySem.W.Frag} {B : Addr} (h : initB K B = true) : InitOf K B (.type "type") := by
  unfold initB at h
  obtain ⟨h, h3⟩ := Bool.and_eq_true_iff.mp h
  obtain ⟨h1, h2⟩ := Bool.and_eq_true_iff.mp h
  refine ⟨h1, eqO_ok h2, ?_⟩
  split at h3
  · rename_i v hv
    rw [hv, of_decide_eq_true h3]
  · cases h3
def excCB (K : PySem.W.Frag) (C : Addr) : Bool := eqO (PySem.W.findIn K (.ref C) "__getattribute__") (some (some (.builtin "BaseException.__getattribute__"))) && (eqO (PySem.W.findIn K (.ref C) "__getattr__") (some none) && (decide (PySem.W.subIn K (.ref C) (.type "BaseException") = some true) && (PySem.W.hasDictIn K C &&
  (eqO (PySem.W.findIn K (.ref C) "__class__") (some (some (.builtin "object.__class__"))) && (eqO (PySem.W.specialIn K (.builtin "object.__class__") "__get__") (some (some (.builtin "getset_descriptor.__get__"))) && (decide (PySem.W.takesIn K (.builtin "object.__class__") = some true) && decide (PySem.W.mroIn K C (.type "object") = some true)))))))
theorem excCB_ok {K : PySem.W.Frag} {C : Addr} (h : excCB K C = true) : ExcC K C := by
  unfold excCB at h
  obtain ⟨h1, h⟩ := Bool.and_eq_true_iff.mp h
  obtain ⟨h2, h⟩ := Bool.and_eq_true_iff.mp h
  obtain ⟨h3, h⟩ := Bool.and_eq_true_iff.mp h
  obtain ⟨h4, h⟩ := Bool.and_eq_true_iff.mp h
  obtain ⟨h5, h⟩ := Bool.and_eq_true_iff.mp h
  obtain ⟨h6, h⟩ := Bool.and_eq_true_iff.mp h
  obtain ⟨h7, h8⟩ := Bool.and_eq_true_iff.mp h
  exact ⟨eqO_ok h1, eqO_ok h2, of_decide_eq_true h3, h4, eqO_ok h5, eqO_ok h6, of_decide_eq_true h7, of_decide_eq_true h8⟩
/-- a method of an error's class -/
def metB (K : PySem.W.Frag) (C : Addr) (m : Str) : Bool := eqO (PySem.W.findIn K (.ref C) m) (some (some (.ref (ma K C m)))) && decide (PySem.W.typeIn K (.ref (ma K C m)) = some (.type "function"))
/-- a tuple of scalars -/
def dV' : D → Option V := dV
theorem tup_data {K : PySem.W.Frag} {a : Addr} {ds : List D} {vs : List V} (h : SqT K (fun _ => none) a vs) (e : dVs ds = some vs) : ∀ ow H, Rp K ow H (.tuple ds) (.ref a) := fun ow H => by
  unfold Rp
  refine ⟨a, vs, rfl, ?_, ?_⟩
  · rcases h with h | h
    · rcases h with h | ⟨o, h⟩ <;> cases h
    · exact .inr h
  · have key : ∀ (ds : List D) (vs : List V), dVs ds = some vs → RpA K ow H ds vs := by
      intro ds
      induction ds with
      | nil => intro vs e; cases e; unfold RpA; rfl
      | cons d ds ih =>
        intro vs e
        unfold dVs at e
        obtain ⟨v, hv, e⟩ := Option.bind_eq_some_iff.mp e
        obtain ⟨us, hus, rfl⟩ := Option.map_eq_some_iff.mp e
        unfold RpA
        refine ⟨v, us, rfl, ?_, ih us hus⟩
        cases d <;> first | cases hv | skip
        all_goals (unfold Rp; rfl)
    exact key ds vs e
/-! ### the hook: what mainGlobals and more roots reach -/
abbrev AlM : Type := AlD × Bool
def obsM (rt : List Addr) (fa : List Fa) (fn : List DefD) (ex : PySem.W.Frag → Bool) (n : Nat) (g : Addr → Option Obj) : AlM := (obsD fa fn (frG g (asD g n ++ rt)), ex (frG g (asD g n ++ rt)))
def valM (fn : List DefD) : AlM := (He.valD fn, true)
structure SaysM (fa : List Fa) (fn : List DefD) (ex : PySem.W.Frag → Bool) (K : PySem.W.Frag) : Prop where
  d : SaysD fa fn K
  more : ex K = true
def hookM (rt : List Addr) (n : Nat) (fa : List Fa) (fn : List DefD) (ex : PySem.W.Frag → Bool) : PySem.W.Hook where
  α := AlM
  obs := fun s => obsM rt fa fn ex n s.heap.get?
  val := fun _ => valM fn
  says := fun _ h => ∃ K : PySem.W.Frag, K.In h ∧ SaysM fa fn ex K
  of := fun _ _ e => ⟨_, frG_in, congrArg (fun z : AlM => z.1) e, congrArg (fun z : AlM => z.2) e⟩
  keeps := fun _ _ _ ⟨K, hK, c⟩ k => ⟨K, PySem.W.Frag.In.keeps hK k, c⟩
theorem obsM_eq {rt : List Addr} {n : Nat} {fa : List Fa} {fn : List DefD} {ex : PySem.W.Frag → Bool} {g : Addr → Option Obj} {s : Shared} (h : ∀ a, g a = s.heap.get? a) : obsM rt fa fn ex n g = (hookM rt n fa fn ex).obs s := by
  have e : g = s.heap.get? := funext h
  rw [e] <;> rfl
end ML
end

section
set_option Elab.async false
set_option linter.all false
set_option maxRecDepth 100000
set_option maxHeartbeats 2000000
/-! # A law's end -/
namespace ML
open PySem L2
theorem cx0 {P : Program} {w : World} {K : PySem.W.Frag} {mg : Str → Option Value} {base : Heap} {k : Nat} {f : Addr} {fd : FuncData} {ps : List Str} {sp : Sp} (F : FnOk P w K mg base (L2.CX P w) k f fd ps sp) :
    FnOk P w K mg base CX0 k f fd ps (fun vs H Q _ => sp vs H Q (fun _ _ _ => False)) :=
  ⟨fun vs H Q E h => F.len _ _ _ _ h, fun A outer s H args us vs Q E hr e0 hb hv hs => codeAny_mono (F.run A outer s H args us vs Q (fun _ _ _ => False) hr e0 hb hv hs) fun r s' h => by
    cases r with
    | error e =>
      obtain ⟨_, _, _, _, _, _, _, _, _, _, _, _, z⟩ := h
      exact z.elim
    | ok fl => cases fl <;> exact h⟩
/-- the law's promise, if its function answers True -/
theorem sp_law {K : PySem.W.Frag} {ca : CA} {mf : List Sl → CR} {n : Nat} (math : ∀ ns : List Int, ns.length ≤ n → ∃ outs, mf [.sc ns] = .ok (.d (.bool true)) outs) (H : Hp) (a : Addr) (ns : List Int) (hl : ns.length ≤ n) (hO : Only H) (hS : SqL K H a (ns.map V.int)) :
    spM K ca 1 mf [.ref a] H (fun v _ => v = .bl true) fun _ _ _ => False := by
  obtain ⟨outs, e⟩ := math ns hl
  refine ⟨fun _ => False, [.sc ns], rfl, ⟨rfl, fun i s v h1 h2 => ?_, fun i k z => ?_, fun i j p k k' h1 => ?_⟩, fun a z => z.elim, ?_⟩
  · cases i with
    | succ i => cases h1
    | zero =>
      cases h1
      cases h2
      refine ⟨a, rfl, ?_⟩
      rcases hS with h | h
      · rcases h with h | ⟨o, h⟩
        · rcases hO a with z | ⟨o, xs, z⟩
          · rw [h] at z; cases z
          · rw [h] at z; cases z
        · exact .inl ⟨o, h, fun z => z⟩
      · exact .inr h
  · cases i with
    | succ i => cases z
    | zero => cases z
  · cases i with
    | succ i => cases h1
    | zero => cases h1
  · rw [e]
    intro v H' _ _ r
    unfold Rp at r
    exact r
end ML
end

section
set_option Elab.async false
set_option linter.all false
set_option maxRecDepth 100000
set_option maxHeartbeats 2000000
/-! # Plain lemmas on mirrors -/
namespace ML
open PySem (Str)
/-- a comprehension that comes back to its start at each turn -/
theorem compL_map {g : GF} {tt : M Bool} {te : M D} {vs : List Nat} {e0 : List Sl} {p : D → Bool} {f : D → D} : ∀ (ds done : List D),
    (∀ d ∈ ds, ∃ e1, g d e0 = some e1 ∧ tt e1 = .ok (p d) e1 ∧ (p d = true → te e1 = .ok (f d) e1) ∧ wipeE e1 vs = e0) → done.length + ds.length ≤ LIM →
    compL g tt te vs ds done e0 = .ok (done ++ (ds.filter p).map f) e0 := by
  intro ds
  induction ds with
  | nil => intro done _ _; simp [compL]
  | cons d ds ih =>
    intro done h hl
    obtain ⟨e1, h1, h2, h3, h4⟩ := h d List.mem_cons_self
    rw [List.length_cons] at hl
    rw [compL, h1]
    dsimp only
    rw [h2]
    cases hp : p d with
    | true =>
      dsimp only
      rw [h3 hp]
      dsimp only
      rw [if_pos (show done.length < LIM by omega), h4, ih _ (fun x hx => h x (List.mem_cons_of_mem _ hx)) (by rw [List.length_append, List.length_singleton]; omega)]
      simp [hp]
    | false =>
      dsimp only
      rw [h4, ih _ (fun x hx => h x (List.mem_cons_of_mem _ hx)) (by omega)]
      simp [hp]
theorem forL_all {g : GF} {mb : MStm} {Inv : List D → List Sl → Prop} : ∀ (ds : List D) (e : List Sl), Inv ds e → (∀ d r e, Inv (d :: r) e → ∃ e1 e2, g d e = some e1 ∧ mb e1 = .nx e2 ∧ Inv r e2) → ∃ e', forL g mb ds e = .nx e' ∧ Inv [] e' := by
  intro ds
  induction ds with
  | nil => intro e h _; exact ⟨e, rfl, h⟩
  | cons d r ih =>
    intro e h s
    obtain ⟨e1, e2, h1, h2, h3⟩ := s d r e h
    obtain ⟨e', h4, h5⟩ := ih e2 h3 s
    refine ⟨e', ?_, h5⟩
    rw [forL, h1]
    dsimp only
    rw [h2]
    exact h4
end ML
end

section
set_option Elab.async false
set_option linter.all false
set_option maxRecDepth 100000
set_option maxHeartbeats 2000000
namespace K62
open PySem L2 ML
abbrev c_FIRST_OCTETS : D := .tuple [.int 83, .int 82, .int 1]
abbrev c_SIGNS : D := .str " !\"#$&'()*+,-./0123456789:;<=>?@ABCDEFGHIJKLMNOPQRSTUVWXYZ[\\]^_`abcdefghijklmnopqrstuvwxyz{|}~"
abbrev c_OF_INTEGER : D := .int 0
abbrev c_OF_FALSE : D := .int 1
abbrev c_OF_TRUE : D := .int 2
abbrev c_OF_STRING : D := .int 3
abbrev c_OF_TUPLE : D := .int 4
abbrev c_OF_NONE : D := .int 5
abbrev c_SEVEN_BITS : D := .int 128
abbrev c_MODULUS : D := .int 251
abbrev c_MOST_NUMBER_OCTETS : D := .int 64
abbrev c_MAKE_TUPLE : D := .str "make"
abbrev c_READ_THING : D := .str "read"
def ex_NoThing : Str → Option Bool := fun c => if c = "NoThing" then some true else if c = "BadOctets" then some false else none
theorem ex_NoThing_eq {c : Str} (h : ex_NoThing c = some true) : c = "NoThing" := by
  unfold ex_NoThing at h
  by_cases z : c = "NoThing"
  · exact z
  · rw [if_neg z] at h
    split at h <;> first | cases h | (split at h <;> cases h)
def m_is_integer : MStm := sRet (eAnd (eIsi "int" (eV 0)) (eNot (eIsi "bool" (eV 0))))
def F_is_integer : List Sl → CR := runBody 1 1 m_is_integer

def m_is_within : MStm := sRet (eAnd (eRv (callM F_is_integer (aD (eV 0) (aNil)))) (eChain gLe gLe (qR 1) (qR 0) (qR 2)))
def F_is_within : List Sl → CR := runBody 3 3 m_is_within

def m_number_octets_b1 : MStm := sSeq (sDrop (eMt 1 fApp (aD (e2 gAdd (qD (e2 gMod (qD (eBlt bInt (aR 0 (aNil)))) (qD (eC c_SEVEN_BITS)))) (qD (eC c_SEVEN_BITS))) (aNil)))) (sSet 0 (e2 gDiv (qR 0) (qD (eC c_SEVEN_BITS))))
def m_number_octets_w2 : MStm := sWhile 20000 (b2 gGe (qR 0) (qD (eC c_SEVEN_BITS))) m_number_octets_b1
def m_number_octets : MStm := sSeq (sSetO 1 (oLst (aNil))) (sSeq (m_number_octets_w2) (sRetO (o2 gCat (qR 1) (qF (oLst (aD (eV 0) (aNil)))))))
def F_number_octets : List Sl → CR := runBody 1 2 m_number_octets

def m_plain_octets_b1 : MStm := sDrop (eMt 1 fExt (aD (eRv (callM F_number_octets (aD (eBlt bOrd (aR 2 (aNil))) (aNil)))) (aNil)))
def m_plain_octets_w2 : MStm := sFor (iD (eV 0)) (gN 2) m_plain_octets_b1
def m_plain_octets_c3 : M D := e2 (gIn false) (qR 2) (qD (eC c_SIGNS))
def o_plain_octets_3 : M Ob := oComp (iD (eV 0)) (gN 2) (ret true) m_plain_octets_c3 [2]
def m_plain_octets : MStm := sSeq (sIf (b2 (gIsN false) (qR 0) (qD (eC .none))) (sRetO (oLst (aD (eC c_OF_NONE) (aNil)))) (sNil)) (sSeq (sIf (tB_ (eIsi "bool" (eV 0))) (sRetO (oLst (aD (eIf (tB_ (eV 0)) (eC c_OF_TRUE) (eC c_OF_FALSE)) (aNil)))) (sNil)) (sSeq (sIf (tB_ (eRv (callM F_is_integer (aD (eV 0) (aNil))))) (sRetO (o2 gCat (qF (oLst (aD (eC c_OF_INTEGER) (aNil)))) (qD (eRv (callM F_number_octets (aD (eIf (b2 gGe (qR 0) (qD (eC (.int 0)))) (e2 gMul (qD (eC (.int 2))) (qR 0)) (e2 gSub (qD (e2 gMul (qD (e1 gNeg (eC (.int 2)))) (qR 0))) (qD (eC (.int 1))))) (aNil))))))) (sNil)) (sSeq (sIf (tB_ (eIsi "str" (eV 0))) (sSeq (sIf (tNot_ (tB_ (eBlt bAll (aF (o_plain_octets_3) (aNil))))) (sRet (eC .none)) (sNil)) (sSeq (sSetO 1 (o2 gCat (qF (oLst (aD (eC c_OF_STRING) (aNil)))) (qD (eRv (callM F_number_octets (aD (eBlt bLen (aR 0 (aNil))) (aNil))))))) (sSeq (m_plain_octets_w2) (sRetV 1)))) (sNil)) (sRet (eIf (tB_ (eIsi "tuple" (eV 0))) (eO (o2 gCat (qF (oLst (aD (eC c_OF_TUPLE) (aNil)))) (qD (eRv (callM F_number_octets (aD (eBlt bLen (aR 0 (aNil))) (aNil))))))) (eC .none))))))
def F_plain_octets : List Sl → CR := runBody 1 3 m_plain_octets

def m_check_octet_c1 : M D := e2 gMul (qD (e2 gAdd (qR 1) (qD (eC (.int 1))))) (qR 2)
def o_check_octet_1 : M Ob := oComp (iEn (eV 0)) (gT (gCons (gN 1) (gCons (gN 2) (gNil)))) (ret true) m_check_octet_c1 [1, 2]
def m_check_octet : MStm := sRet (e2 gMod (qD (eBlt bInt (aD (eBlt bSum (aF (o_check_octet_1) (aNil))) (aNil)))) (qD (eC c_MODULUS)))
def F_check_octet : List Sl → CR := runBody 1 3 m_check_octet

def m_raw_octets_b1 : MStm := sSeq (sSet 3 (eMt 2 fPop aNil)) (sSeq (sSet 4 (eRv (callM F_plain_octets (aD (eV 3) (aNil))))) (sSeq (sIf (b2 (gIsN false) (qR 4) (qD (eC .none))) (sRet (eC .none)) (sNil)) (sSeq (sDrop (eMt 1 fExt (aR 4 (aNil)))) (sIf (tB_ (eIsi "tuple" (eV 3))) (sDrop (eMt 2 fExt (aF (oBlt bListOf (aD (eRevT (eV 3)) (aNil))) (aNil)))) (sNil)))))
def m_raw_octets_w2 : MStm := sWhile 20000 (b2 gGt (qD (eBlt bLen (aR 2 (aNil)))) (qD (eC (.int 0)))) m_raw_octets_b1
def m_raw_octets : MStm := sSeq (sPar 1 2 (aF (oBlt bListOf (aD (eC c_FIRST_OCTETS) (aNil))) (aF (oLst (aD (eV 0) (aNil))) (aNil)))) (sSeq (m_raw_octets_w2) (sRet (eBlt bTupOf (aF (o2 gCat (qR 1) (qF (oLst (aD (eRv (callM F_check_octet (aD (eV 1) (aNil)))) (aNil))))) (aNil)))))
def F_raw_octets : List Sl → CR := runBody 1 5 m_raw_octets

def m_octets_of : MStm := sSeq (sSet 1 (eRv (callM F_raw_octets (aD (eV 0) (aNil))))) (sSeq (sIf (b2 (gIsN false) (qR 1) (qD (eC .none))) (sRaise "NoThing") (sNil)) (sRetV 1))
def F_octets_of : List Sl → CR := runBody 1 2 m_octets_of

def m_OctetReader___init__ : MStm := sSeq (sFld_ 0 "OctetReader" "octets_told" (eV 1)) (sFld_ 0 "OctetReader" "octet_at" (eBlt bLen (aD (eC c_FIRST_OCTETS) (aNil))))
def F_OctetReader___init__ : List Sl → CR := runBody 2 2 m_OctetReader___init__

def m_OctetReader_take_octet : MStm := sSeq (sIf (b2 gGe (qD (eFld 0 "OctetReader" "octet_at")) (qD (e2 gSub (qD (eBlt bLen (aD (eFld 0 "OctetReader" "octets_told") (aNil)))) (qD (eC (.int 1)))))) (sRaise "BadOctets") (sNil)) (sSeq (sAugF 0 "OctetReader" "octet_at" gIAdd (eC (.int 1))) (sRet (e2 gIx (qD (eFld 0 "OctetReader" "octets_told")) (qD (e2 gSub (qD (eFld 0 "OctetReader" "octet_at")) (qD (eC (.int 1))))))))
def F_OctetReader_take_octet : List Sl → CR := runBody 1 1 m_OctetReader_take_octet

def m_OctetReader_take_number_b1 : MStm := sSeq (sSet 4 (eRv (callMt 0 "OctetReader" "take_octet" F_OctetReader_take_octet aNil))) (sSeq (sAug 1 gIAdd (e2 gMul (qR 2) (qD (e2 gMod (qD (eBlt bInt (aR 4 (aNil)))) (qD (eC c_SEVEN_BITS)))))) (sSeq (sSet 2 (e2 gMul (qR 2) (qD (eC c_SEVEN_BITS)))) (sIf (b2 gLt (qR 4) (qD (eC c_SEVEN_BITS))) (sRetV 1) (sNil))))
def m_OctetReader_take_number_w2 : MStm := sFor (iRg rng1 (aD (eC c_MOST_NUMBER_OCTETS) (aNil))) (gN 3) m_OctetReader_take_number_b1
def m_OctetReader_take_number : MStm := sSeq (sAsg (gT (gCons (gN 1) (gCons (gN 2) (gNil)))) (eTup (aD (eC (.int 0)) (aD (eC (.int 1)) (aNil))))) (sSeq (m_OctetReader_take_number_w2) (sRaise "BadOctets"))
def F_OctetReader_take_number : List Sl → CR := runBody 1 5 m_OctetReader_take_number

def m_OctetReader_take_string_c1 : M D := eV 6
def o_OctetReader_take_string_1 : M Ob := oComp (iD (eC c_SIGNS)) (gN 6) (b2 (gEq false) (qD (eBlt bOrd (aR 6 (aNil)))) (qR 4)) m_OctetReader_take_string_c1 [6]
def m_OctetReader_take_string_b2 : MStm := sSeq (sSet 4 (eRv (callMt 0 "OctetReader" "take_number" F_OctetReader_take_number aNil))) (sSeq (sSetO 5 (o_OctetReader_take_string_1)) (sSeq (sIf (b2 (gEq false) (qD (eBlt bLen (aR 5 (aNil)))) (qD (eC (.int 0)))) (sRaise "BadOctets") (sNil)) (sDrop (eMt 2 fApp (aD (e2 gIx (qR 5) (qD (eC (.int 0)))) (aNil))))))
def m_OctetReader_take_string_w3 : MStm := sFor (iRg rng1 (aD (eV 1) (aNil))) (gN 3) m_OctetReader_take_string_b2
def m_OctetReader_take_string : MStm := sSeq (sPar 1 2 (aD (eRv (callMt 0 "OctetReader" "take_number" F_OctetReader_take_number aNil)) (aF (oLst (aNil)) (aNil)))) (sSeq (sIf (b2 gGt (qR 1) (qD (eBlt bLen (aD (eFld 0 "OctetReader" "octets_told") (aNil))))) (sRaise "BadOctets") (sNil)) (sSeq (m_OctetReader_take_string_w3) (sRet (eJoin (eC (.str "")) (qR 2)))))
def F_OctetReader_take_string : List Sl → CR := runBody 1 7 m_OctetReader_take_string

def m_OctetReader_take_integer : MStm := sSeq (sSet 1 (eRv (callMt 0 "OctetReader" "take_number" F_OctetReader_take_number aNil))) (sRet (eIf (b2 (gEq false) (qD (e2 gMod (qD (eBlt bInt (aR 1 (aNil)))) (qD (eC (.int 2))))) (qD (eC (.int 0)))) (e2 gDiv (qR 1) (qD (eC (.int 2)))) (e2 gSub (qD (eC (.int 0))) (qD (e2 gDiv (qD (e2 gAdd (qR 1) (qD (eC (.int 1))))) (qD (eC (.int 2))))))))
def F_OctetReader_take_integer : List Sl → CR := runBody 1 2 m_OctetReader_take_integer

def m_OctetReader_take_plain : MStm := sSeq (sIf (b2 (gEq false) (qR 1) (qD (eC c_OF_INTEGER))) (sRet (eRv (callMt 0 "OctetReader" "take_integer" F_OctetReader_take_integer aNil))) (sNil)) (sSeq (sIf (b2 (gEq false) (qR 1) (qD (eC c_OF_STRING))) (sRet (eRv (callMt 0 "OctetReader" "take_string" F_OctetReader_take_string aNil))) (sNil)) (sSeq (sIf (b2 (gIn true) (qR 1) (qD (eTup (aD (eC c_OF_FALSE) (aD (eC c_OF_TRUE) (aD (eC c_OF_NONE) (aNil))))))) (sRaise "BadOctets") (sNil)) (sRet (eDGet (oDct (kCons (eC c_OF_FALSE) (eC (.bool false)) (kCons (eC c_OF_TRUE) (eC (.bool true)) (kCons (eC c_OF_NONE) (eC .none) (kNil))))) (eV 1)))))
def F_OctetReader_take_plain : List Sl → CR := runBody 2 2 m_OctetReader_take_plain

def m_OctetReader_take_thing_b1 : MStm := sSeq (sAsg (gT (gCons (gN 3) (gCons (gN 4) (gNil)))) (eMt 1 fPop aNil)) (sSeq (sIf (b2 (gEq false) (qR 3) (qD (eC c_MAKE_TUPLE))) (sSeq (sSet 5 (e2 gSub (qD (eBlt bLen (aR 2 (aNil)))) (qR 4))) (sSeq (sSetO 2 (o2 gCat (qF (oSl gSlL (qR 2) (ret none) (ptI (eV 5)))) (qF (oLst (aD (eBlt bTupOf (aF (oSl gSlL (qR 2) (ptI (eV 5)) (ret none)) (aNil))) (aNil)))))) (sCt))) (sNil)) (sSeq (sIf (b2 gGt (qR 4) (qD (eC (.int 1)))) (sDrop (eMt 1 fApp (aD (eTup (aD (eC c_READ_THING) (aD (e2 gSub (qR 4) (qD (eC (.int 1)))) (aNil)))) (aNil)))) (sNil)) (sSeq (sSet 6 (eRv (callMt 0 "OctetReader" "take_octet" F_OctetReader_take_octet aNil))) (sIf (b2 (gEq false) (qR 6) (qD (eC c_OF_TUPLE))) (sSeq (sSet 7 (eRv (callMt 0 "OctetReader" "take_number" F_OctetReader_take_number aNil))) (sSeq (sIf (b2 gGt (qR 7) (qD (eBlt bLen (aD (eFld 0 "OctetReader" "octets_told") (aNil))))) (sRaise "BadOctets") (sNil)) (sSeq (sDrop (eMt 1 fApp (aD (eTup (aD (eC c_MAKE_TUPLE) (aD (eV 7) (aNil)))) (aNil)))) (sIf (b2 gGt (qR 7) (qD (eC (.int 0)))) (sDrop (eMt 1 fApp (aD (eTup (aD (eC c_READ_THING) (aD (eV 7) (aNil)))) (aNil)))) (sNil))))) (sDrop (eMt 2 fApp (aD (eRv (callMt 0 "OctetReader" "take_plain" F_OctetReader_take_plain (aD (eV 6) (aNil)))) (aNil))))))))
def m_OctetReader_take_thing_w2 : MStm := sWhile 20000 (b2 gGt (qD (eBlt bLen (aR 1 (aNil)))) (qD (eC (.int 0)))) m_OctetReader_take_thing_b1
def m_OctetReader_take_thing : MStm := sSeq (sPar 1 2 (aF (oLst (aD (eTup (aD (eC c_READ_THING) (aD (eC (.int 1)) (aNil)))) (aNil))) (aF (oLst (aNil)) (aNil)))) (sSeq (m_OctetReader_take_thing_w2) (sRet (e2 gIx (qR 2) (qD (eC (.int 0))))))
def F_OctetReader_take_thing : List Sl → CR := runBody 1 8 m_OctetReader_take_thing

def m_raw_thing_c1 : M D := eRv (callM F_is_within (aD (eV 2) (aD (eC (.int 0)) (aD (eC (.int 255)) (aNil)))))
def o_raw_thing_1 : M Ob := oComp (iD (eV 0)) (gN 2) (ret true) m_raw_thing_c1 [2]
def m_raw_thing : MStm := sSeq (sIf (tOr_ (tNot_ (tB_ (eIsi "tuple" (eV 0)))) (b2 gLe (qD (eBlt bLen (aR 0 (aNil)))) (qD (eBlt bLen (aD (eC c_FIRST_OCTETS) (aNil)))))) (sRaise "BadOctets") (sNil)) (sSeq (sIf (tOr_ (tNot_ (tB_ (eBlt bAll (aF (o_raw_thing_1) (aNil))))) (b2 (gEq true) (qD (eSl gSlT (qR 0) (ret none) (ptI (eC (.int 3))))) (qD (eC c_FIRST_OCTETS)))) (sRaise "BadOctets") (sNil)) (sSeq (sSet 1 (eRv (callF "OctetReader" "take_thing" F_OctetReader_take_thing (oMake "OctetReader" F_OctetReader___init__ (aD (eV 0) (aNil)))))) (sSeq (sIf (b2 (gEq true) (qD (eRv (callM F_raw_octets (aD (eV 1) (aNil))))) (qR 0)) (sRaise "BadOctets") (sNil)) (sRetV 1))))
def F_raw_thing : List Sl → CR := runBody 1 3 m_raw_thing

def m_thing_of : MStm := sRet (eRv (callM F_raw_thing (aD (eV 0) (aNil))))
def F_thing_of : List Sl → CR := runBody 1 1 m_thing_of

def m__law_numbers_b1 : MStm := sSeq (sSet 6 (e2 gMod (qD (e2 gMul (qD (e2 gAdd (qD (e2 gAdd (qD (e2 gAdd (qD (e2 gMod (qR 2) (qD (eC (.int 2147483629))))) (qD (e2 gMul (qD (eC (.int 7919))) (qR 5))))) (qD (e2 gMul (qD (eC (.int 611953))) (qR 1))))) (qD (eC (.int 1))))) (qD (eC (.int 48271))))) (qD (eC (.int 2147483647))))) (sSeq (sSet 6 (e2 gMod (qD (e2 gMul (qR 6) (qD (e2 gAdd (qD (e2 gDiv (qR 6) (qD (eC (.int 1009))))) (qD (eC (.int 69621))))))) (qD (eC (.int 2147483647))))) (sSeq (sSet 6 (e2 gMod (qD (e2 gMul (qR 6) (qD (e2 gAdd (qD (e2 gDiv (qR 6) (qD (eC (.int 2003))))) (qD (eC (.int 40692))))))) (qD (eC (.int 2147483399))))) (sSeq (sIf (b2 gGt (qR 3) (qD (eC (.int 0)))) (sSeq (sSet 6 (e2 gMod (qR 3) (qD (eC (.int 1000000007))))) (sSet 3 (e2 gDiv (qR 3) (qD (eC (.int 1000000007)))))) (sNil)) (sDrop (eMt 4 fApp (aR 6 (aNil)))))))
def m__law_numbers_w2 : MStm := sFor (iRg rng1 (aD (eC (.int 40)) (aNil))) (gN 5) m__law_numbers_b1
def m__law_numbers : MStm := sSeq (sSet 2 (eC (.int 0))) (sSeq (sIf (b2 gGt (qD (eBlt bLen (aR 0 (aNil)))) (qD (eC (.int 0)))) (sSet 2 (eBlt bInt (aD (e2 gIx (qR 0) (qD (e2 gMod (qR 1) (qD (eBlt bLen (aR 0 (aNil))))))) (aNil)))) (sNil)) (sSeq (sSet 3 (eC (.int 0))) (sSeq (sIf (tAnd_ (b2 gLt (qR 1) (qD (eBlt bLen (aR 0 (aNil))))) (b2 gGe (qR 2) (qD (e2 gPow (qD (eC (.int 10))) (qD (eC (.int 18))))))) (sSet 3 (eV 2)) (sNil)) (sSeq (sSetO 4 (oLst (aNil))) (sSeq (m__law_numbers_w2) (sRetV 4))))))
def F__law_numbers : List Sl → CR := runBody 2 7 m__law_numbers

def m__law_sevens_b1 : MStm := sSeq (sIf (b2 gLt (qR 2) (qD (eC (.int 128)))) (sBk) (sNil)) (sSeq (sDrop (eMt 1 fApp (aD (e2 gAdd (qD (e2 gMod (qD (eBlt bInt (aR 2 (aNil)))) (qD (eC (.int 128))))) (qD (eC (.int 128)))) (aNil)))) (sSet 2 (e2 gDiv (qR 2) (qD (eC (.int 128))))))
def m__law_sevens_w2 : MStm := sFor (iRg rng1 (aD (eC (.int 60)) (aNil))) (gN 3) m__law_sevens_b1
def m__law_sevens : MStm := sSeq (sSetO 1 (oLst (aNil))) (sSeq (sSet 2 (eV 0)) (sSeq (m__law_sevens_w2) (sRetO (o2 gCat (qR 1) (qF (oLst (aD (eV 2) (aNil))))))))
def F__law_sevens : List Sl → CR := runBody 1 4 m__law_sevens

def m__law_sign : MStm := sSeq (sSet 1 (e2 gAdd (qD (eC (.str " !\"#$"))) (qD (eC (.str "&'()*+,-./0123456789:;<=>?@ABCDEFGHIJKLMNOPQRSTUVWXYZ[\\]^_"))))) (sSeq (sSet 1 (e2 gAdd (qR 1) (qD (eC (.str "`abcdefghijklmnopqrstuvwxyz{|}~"))))) (sSeq (sSet 2 (eIndex (eV 1) (eV 0))) (sRet (e2 gAdd (qD (e2 gAdd (qD (eC (.int 32))) (qR 2))) (qD (eBlt bInt (aD (e2 gGt (qR 2) (qD (eC (.int 4)))) (aNil))))))))
def F__law_sign : List Sl → CR := runBody 1 3 m__law_sign

def m__law_sealed_b1 : MStm := sSet 1 (e2 gAdd (qR 1) (qD (e2 gMul (qD (e2 gIx (qR 0) (qR 2))) (qD (e2 gAdd (qR 2) (qD (eC (.int 1))))))))
def m__law_sealed_w2 : MStm := sFor (iRg rng1 (aD (eBlt bLen (aR 0 (aNil))) (aNil))) (gN 2) m__law_sealed_b1
def m__law_sealed : MStm := sSeq (sSet 1 (eC (.int 0))) (sSeq (m__law_sealed_w2) (sRet (eBlt bTupOf (aF (o2 gCat (qR 0) (qF (oLst (aD (e2 gMod (qD (eBlt bInt (aR 1 (aNil)))) (qD (eC (.int 251)))) (aNil))))) (aNil)))))
def F__law_sealed : List Sl → CR := runBody 1 3 m__law_sealed

def m__law_octets_c1 : M D := eRv (callM F__law_sign (aD (eV 5) (aNil)))
def o__law_octets_1 : M Ob := oComp (iD (eV 4)) (gN 5) (ret true) m__law_octets_c1 [5]
def m__law_octets_b2 : MStm := sSeq (sIf (b2 (gEq false) (qR 2) (qF (oLst (aNil)))) (sBk) (sNil)) (sSeq (sSet 4 (eMt 2 fPop aNil)) (sIf (b2 (gIsN false) (qR 4) (qD (eC .none))) (sDrop (eMt 1 fApp (aD (eC (.int 5)) (aNil)))) (sIf (tB_ (eIsi "bool" (eV 4))) (sDrop (eMt 1 fApp (aD (e2 gIx (qF (oLst (aD (eC (.int 1)) (aD (eC (.int 2)) (aNil))))) (qD (eBlt bInt (aR 4 (aNil))))) (aNil)))) (sIf (tB_ (eIsi "int" (eV 4))) (sSetO 1 (o2 gCat (qF (o2 gCat (qR 1) (qF (oLst (aD (eC (.int 0)) (aNil)))))) (qD (eRv (callM F__law_sevens (aD (eIf (b2 gGe (qR 4) (qD (eC (.int 0)))) (e2 gMul (qD (eC (.int 2))) (qR 4)) (e2 gSub (qD (e2 gMul (qD (e1 gNeg (eC (.int 2)))) (qR 4))) (qD (eC (.int 1))))) (aNil))))))) (sIf (tB_ (eIsi "str" (eV 4))) (sSetO 1 (o2 gCat (qF (o2 gCat (qF (o2 gCat (qR 1) (qF (oLst (aD (eC (.int 3)) (aNil)))))) (qD (eRv (callM F__law_sevens (aD (eBlt bLen (aR 4 (aNil))) (aNil))))))) (qF (o__law_octets_1)))) (sSeq (sSetO 1 (o2 gCat (qF (o2 gCat (qR 1) (qF (oLst (aD (eC (.int 4)) (aNil)))))) (qD (eRv (callM F__law_sevens (aD (eBlt bLen (aR 4 (aNil))) (aNil))))))) (sDrop (eMt 2 fExt (aF (oRevL (eV 4)) (aNil))))))))))
def m__law_octets_w3 : MStm := sFor (iRg rng1 (aD (eC (.int 4000)) (aNil))) (gN 3) m__law_octets_b2
def m__law_octets : MStm := sSeq (sSetO 1 (oLst (aD (eC (.int 83)) (aD (eC (.int 82)) (aD (eC (.int 1)) (aNil)))))) (sSeq (sSetO 2 (oLst (aD (eV 0) (aNil)))) (sSeq (m__law_octets_w3) (sRet (eRv (callM F__law_sealed (aD (eV 1) (aNil)))))))
def F__law_octets : List Sl → CR := runBody 1 6 m__law_octets

def m__law_plain_c1 : M D := e2 gIx (qR 1) (qD (e2 gMod (qD (e2 gAdd (qR 3) (qD (e2 gMul (qD (eC (.int 7))) (qR 4))))) (qD (eBlt bLen (aR 1 (aNil))))))
def o__law_plain_1 : M Ob := oComp (iRg rng1 (aD (e2 gMod (qR 3) (qD (eC (.int 12)))) (aNil))) (gN 4) (ret true) m__law_plain_c1 [4]
def m__law_plain : MStm := sSeq (sSet 1 (eC (.str " !\"#$&'()*+,-./09:;<=>?@AZ[\\]^_`az{|}~"))) (sSeq (sSet 2 (e2 gMod (qD (eBlt bInt (aR 0 (aNil)))) (qD (eC (.int 9))))) (sSeq (sSet 3 (e2 gDiv (qD (eBlt bInt (aR 0 (aNil)))) (qD (eC (.int 9))))) (sSeq (sIf (b2 gLt (qR 2) (qD (eC (.int 3)))) (sRet (e2 gIx (qF (oLst (aD (e2 gSub (qD (e2 gMod (qR 3) (qD (eC (.int 200))))) (qD (eC (.int 100)))) (aD (eV 3) (aD (e2 gSub (qD (e2 gMul (qD (e1 gNeg (eV 3))) (qD (e2 gPow (qD (eC (.int 10))) (qD (eC (.int 20))))))) (qR 3)) (aNil)))))) (qR 2))) (sNil)) (sSeq (sIf (b2 (gEq false) (qR 2) (qD (eC (.int 3)))) (sRet (e2 gIx (qF (oLst (aD (eC (.bool true)) (aD (eC (.bool false)) (aD (eC .none) (aNil)))))) (qD (e2 gMod (qR 3) (qD (eC (.int 3))))))) (sNil)) (sSeq (sIf (b2 (gEq false) (qR 2) (qD (eC (.int 4)))) (sRet (eC (.str ""))) (sNil)) (sSeq (sIf (b2 (gEq false) (qR 2) (qD (eC (.int 5)))) (sRet (eJoin (eC (.str "")) (qF (o__law_plain_1)))) (sNil)) (sSeq (sIf (b2 (gEq false) (qR 2) (qD (eC (.int 6)))) (sRet (e2 gMulS (qD (eC (.str "a"))) (qD (e2 gMod (qR 3) (qD (eC (.int 150))))))) (sNil)) (sSeq (sIf (b2 (gEq false) (qR 2) (qD (eC (.int 7)))) (sRet (eTup (aNil))) (sNil)) (sRet (e2 gIx (qF (oLst (aD (eC (.int 0)) (aD (eC (.int 63)) (aD (eC (.int 64)) (aD (eC (.int 127)) (aD (eC (.int 128)) (aD (e1 gNeg (eC (.int 1))) (aD (e1 gNeg (eC (.int 64))) (aD (e1 gNeg (eC (.int 65))) (aD (e2 gPow (qD (eC (.int 10))) (qD (eC (.int 59)))) (aD (e1 gNeg (e2 gPow (qD (eC (.int 10))) (qD (eC (.int 59))))) (aNil))))))))))))) (qD (e2 gMod (qR 3) (qD (eC (.int 10)))))))))))))))
def F__law_plain : List Sl → CR := runBody 1 5 m__law_plain

def m__law_thing_b1 : MStm := sSeq (sSet 3 (eBlt bInt (aD (e2 gIx (qR 0) (qD (e2 gAdd (qD (eC (.int 1))) (qR 2)))) (aNil)))) (sIf (b2 (gEq false) (qD (e2 gMod (qR 3) (qD (eC (.int 3))))) (qD (eC (.int 0)))) (sSeq (sSet 4 (e2 gAdd (qD (eC (.int 1))) (qD (e2 gMod (qD (e2 gDiv (qR 3) (qD (eC (.int 3))))) (qD (eC (.int 4))))))) (sSetO 1 (o2 gCat (qF (oSl gSlL (qR 1) (ret none) (ptI (e2 gSub (qD (eBlt bLen (aR 1 (aNil)))) (qD (eBlt bMin (aR 4 (aD (eBlt bLen (aR 1 (aNil))) (aNil))))))))) (qF (oLst (aD (eBlt bTupOf (aF (oSl gSlL (qR 1) (ptI (e2 gSub (qD (eBlt bLen (aR 1 (aNil)))) (qD (eBlt bMin (aR 4 (aD (eBlt bLen (aR 1 (aNil))) (aNil))))))) (ret none)) (aNil))) (aNil))))))) (sDrop (eMt 1 fApp (aD (eRv (callM F__law_plain (aD (e2 gDiv (qR 3) (qD (eC (.int 3)))) (aNil)))) (aNil)))))
def m__law_thing_w2 : MStm := sFor (iRg rng1 (aD (e2 gMod (qD (eBlt bInt (aD (e2 gIx (qR 0) (qD (eC (.int 39)))) (aNil)))) (qD (eC (.int 14)))) (aNil))) (gN 2) m__law_thing_b1
def m__law_thing : MStm := sSeq (sSetO 1 (oLst (aD (eRv (callM F__law_plain (aD (e2 gIx (qR 0) (qD (eC (.int 0)))) (aNil)))) (aNil)))) (sSeq (m__law_thing_w2) (sRet (eIf (b2 gGt (qD (e2 gMod (qD (eBlt bInt (aD (e2 gIx (qR 0) (qD (eC (.int 38)))) (aNil)))) (qD (eC (.int 4))))) (qD (eC (.int 0)))) (eBlt bTupOf (aR 1 (aNil))) (e2 gIx (qR 1) (qD (e1 gNeg (eC (.int 1))))))))
def F__law_thing : List Sl → CR := runBody 1 5 m__law_thing

def m__law_same_c1 : M D := eTup (aD (e2 gIx (qR 5) (qR 7)) (aD (e2 gIx (qR 6) (qR 7)) (aNil)))
def o__law_same_1 : M Ob := oComp (iRg rng1 (aD (eBlt bLen (aR 6 (aNil))) (aNil))) (gN 7) (ret true) m__law_same_c1 [7]
def m__law_same_b2 : MStm := sIf (tB_ (eIsi "tuple" (eV 6))) (sSeq (sIf (tOr_ (tNot_ (tB_ (eIsi "tuple" (eV 5)))) (b2 (gEq true) (qD (eBlt bLen (aR 5 (aNil)))) (qD (eBlt bLen (aR 6 (aNil)))))) (sRet (eC (.bool false))) (sNil)) (sDrop (eMt 4 fExt (aF (o__law_same_1) (aNil))))) (sIf (b2 (gIsN false) (qR 6) (qD (eC .none))) (sIf (b2 (gIsN true) (qR 5) (qD (eC .none))) (sRet (eC (.bool false))) (sNil)) (sIf (b2 (gEq true) (qD (eIsi "bool" (eV 5))) (qD (eIsi "bool" (eV 6)))) (sRet (eC (.bool false))) (sIf (b2 (gEq true) (qD (eIsi "str" (eV 5))) (qD (eIsi "str" (eV 6)))) (sRet (eC (.bool false))) (sIf (tOr_ (b2 (gEq true) (qD (eIsi "int" (eV 5))) (qD (eIsi "int" (eV 6)))) (b2 (gEq true) (qR 5) (qR 6))) (sRet (eC (.bool false))) (sNil)))))
def m__law_same_w3 : MStm := sFor (iD (eV 2)) (gT (gCons (gN 5) (gCons (gN 6) (gNil)))) m__law_same_b2
def m__law_same_b4 : MStm := sSeq (sSetO 4 (oLst (aNil))) (sSeq (m__law_same_w3) (sSet 2 (eV 4)))
def m__law_same_w5 : MStm := sFor (iRg rng1 (aD (eC (.int 30)) (aNil))) (gN 3) m__law_same_b4
def m__law_same : MStm := sSeq (sSet 2 (eO (oLst (aD (eTup (aD (eV 0) (aD (eV 1) (aNil)))) (aNil))))) (sSeq (m__law_same_w5) (sRet (e2 (gEq false) (qR 2) (qF (oLst (aNil))))))
def F__law_same : List Sl → CR := runBody 2 8 m__law_same

def m__law_told_b1 : MStm := sSet 2 (eRv (callM F_octets_of (aD (eV 0) (aNil))))
def m__law_told_b2 : MStm := sSeq (sSet 1 (eC (.str "NoThing"))) (sIf (tOr_ (tNot_ (tB_ (eIsE 3 true))) (tOr_ (tNot_ (tB_ (eIsE 3 true))) (tB_ (eIsE 3 false)))) (sSet 1 (eC (.str "other"))) (sNil))
def m__law_told_w3 : MStm := sTryAs 3 ex_NoThing m__law_told_b1 (fun _ => m__law_told_b2)
def m__law_told : MStm := sSeq (sSet 1 (eC (.str "told"))) (sSeq (sSet 2 (eC .none)) (sSeq (m__law_told_w3) (sRet (eTup (aD (eV 1) (aD (eV 2) (aNil)))))))
def F__law_told : List Sl → CR := runBody 1 4 m__law_told

def m_law_b1 : MStm := sIf (b2 (gEq true) (qD (e2 (gEq false) (qD (eRv (callM F__law_octets (aD (eV 8) (aNil))))) (qD (eRv (callM F_octets_of (aD (eV 9) (aNil))))))) (qD (eRv (callM F__law_same (aD (eV 8) (aD (eV 9) (aNil))))))) (sRet (eC (.bool false))) (sNil)
def m_law_w2 : MStm := sFor (iD (eV 1)) (gN 9) m_law_b1
def m_law_b3 : MStm := m_law_w2
def m_law_w4 : MStm := sFor (iD (eV 1)) (gN 8) m_law_b3
def m_law_b5 : MStm := sSeq (sSet 3 (eRv (callM F__law_thing (aD (eRv (callM F__law_numbers (aR 0 (aD (eV 2) (aNil))))) (aNil))))) (sSeq (sSet 4 (eRv (callM F__law_octets (aD (eV 3) (aNil))))) (sSeq (sIf (tOr_ (tNot_ (tB_ (eRv (callM F__law_same (aD (eRv (callM F__law_told (aD (eV 3) (aNil)))) (aD (eTup (aD (eC (.str "told")) (aD (eV 4) (aNil)))) (aNil))))))) (tNot_ (tB_ (eRv (callM F__law_same (aD (eRv (callM F_thing_of (aD (eV 4) (aNil)))) (aD (eV 3) (aNil)))))))) (sRet (eC (.bool false))) (sNil)) (sSeq (sDrop (eMt 1 fApp (aR 3 (aNil)))) (sSeq (sSet 5 (eRv (callM F__law_numbers (aR 0 (aD (e2 gAdd (qD (eC (.int 20))) (qR 2)) (aNil)))))) (sSeq (sSet 6 (e2 gIx (qF (oLst (aD (eO (oLst (aNil))) (aD (eO (oLst (aD (eV 3) (aNil)))) (aD (eO (oDct (kCons (eC (.str "a")) (eC (.int 1)) (kNil)))) (aD (eC (.str "a\nb")) (aD (eC (.str "\n")) (aD (eO (ret (.dct []))) (aD (eO (oLst (aD (eC (.int 0)) (aNil)))) (aD (eO (oDct (kCons (eC (.str "a")) (eV 3) (kNil)))) (aNil))))))))))) (qD (e2 gMod (qD (eBlt bInt (aD (e2 gIx (qR 5) (qD (eC (.int 0)))) (aNil)))) (qD (eC (.int 8))))))) (sSeq (sSet 7 (e2 gIx (qF (oLst (aD (eV 6) (aD (eTup (aD (eV 3) (aD (eV 6) (aNil)))) (aD (eTup (aD (eV 6) (aD (eV 3) (aNil)))) (aD (eTup (aD (eTup (aNil)) (aD (eTup (aD (eV 6) (aNil))) (aNil)))) (aD (eTup (aD (eC (.int 1)) (aD (eTup (aD (eC (.int 2)) (aD (eTup (aD (eC (.int 3)) (aD (eV 6) (aNil)))) (aNil)))) (aNil)))) (aNil)))))))) (qD (e2 gMod (qD (eBlt bInt (aD (e2 gIx (qR 5) (qD (eC (.int 1)))) (aNil)))) (qD (eC (.int 5))))))) (sIf (b2 (gEq true) (qD (eRv (callM F__law_told (aD (eV 7) (aNil))))) (qD (eTup (aD (eC (.str "NoThing")) (aD (eC .none) (aNil)))))) (sRet (eC (.bool false))) (sNil))))))))
def m_law_w6 : MStm := sFor (iRg rng1 (aD (eC (.int 4)) (aNil))) (gN 2) m_law_b5
def m_law : MStm := sSeq (sSetO 1 (oLst (aNil))) (sSeq (m_law_w6) (sSeq (m_law_w4) (sRet (eC (.bool true)))))
def F_law : List Sl → CR := runBody 1 10 m_law

end K62
end

section
set_option Elab.async false
set_option linter.all false
set_option maxRecDepth 100000
set_option maxHeartbeats 2000000
namespace K62
open PySem L2 ML He
def top (i : Nat) : Stmt := PySem.Challenge.pw_shaperoads_k62_whole_things_as_octets.main.body.getD i (.Pass ⟨0, 0, 0, 0⟩)
def mth (i j : Nat) : Stmt := match top i with
  | .ClassDef _ _ _ body _ _ _ _ _ _ _ => body.getD j (.Pass ⟨0, 0, 0, 0⟩)
  | _ => .Pass ⟨0, 0, 0, 0⟩
structure Txt (K : PySem.W.Frag) (mg : Str → Option Value) : Prop where
  f_ValueError : mg "ValueError" = none
  f_all : mg "all" = none
  f_bool : mg "bool" = none
  f_enumerate : mg "enumerate" = none
  f_int : mg "int" = none
  f_isinstance : mg "isinstance" = none
  f_len : mg "len" = none
  f_list : mg "list" = none
  f_min : mg "min" = none
  f_ord : mg "ord" = none
  f_range : mg "range" = none
  f_reversed : mg "reversed" = none
  f_str : mg "str" = none
  f_sum : mg "sum" = none
  f_tuple : mg "tuple" = none
  g_FIRST_OCTETS : TupG K mg "FIRST_OCTETS" [.int 83, .int 82, .int 1]
  g_SIGNS : ∃ t, mg "SIGNS" = some (.str " !\"#$&'()*+,-./0123456789:;<=>?@ABCDEFGHIJKLMNOPQRSTUVWXYZ[\\]^_`abcdefghijklmnopqrstuvwxyz{|}~" t)
  g_OF_INTEGER : ∃ t, mg "OF_INTEGER" = some (.int 0 t)
  g_OF_FALSE : ∃ t, mg "OF_FALSE" = some (.int 1 t)
  g_OF_TRUE : ∃ t, mg "OF_TRUE" = some (.int 2 t)
  g_OF_STRING : ∃ t, mg "OF_STRING" = some (.int 3 t)
  g_OF_TUPLE : ∃ t, mg "OF_TUPLE" = some (.int 4 t)
  g_OF_NONE : ∃ t, mg "OF_NONE" = some (.int 5 t)
  g_SEVEN_BITS : ∃ t, mg "SEVEN_BITS" = some (.int 128 t)
  g_MODULUS : ∃ t, mg "MODULUS" = some (.int 251 t)
  g_MOST_NUMBER_OCTETS : ∃ t, mg "MOST_NUMBER_OCTETS" = some (.int 64 t)
  g_MAKE_TUPLE : ∃ t, mg "MAKE_TUPLE" = some (.str "make" t)
  g_READ_THING : ∃ t, mg "READ_THING" = some (.str "read" t)
  a_ShapeError : mg "ShapeError" = some (.ref (ga K "ShapeError"))
  a_NoThing : mg "NoThing" = some (.ref (ga K "NoThing"))
  a_BadOctets : mg "BadOctets" = some (.ref (ga K "BadOctets"))
  d_is_integer : mg "is_integer" = some (.ref (ga K "is_integer"))
  d_is_within : mg "is_within" = some (.ref (ga K "is_within"))
  d_number_octets : mg "number_octets" = some (.ref (ga K "number_octets"))
  d_plain_octets : mg "plain_octets" = some (.ref (ga K "plain_octets"))
  d_check_octet : mg "check_octet" = some (.ref (ga K "check_octet"))
  d_raw_octets : mg "raw_octets" = some (.ref (ga K "raw_octets"))
  d_octets_of : mg "octets_of" = some (.ref (ga K "octets_of"))
  d_raw_thing : mg "raw_thing" = some (.ref (ga K "raw_thing"))
  d_thing_of : mg "thing_of" = some (.ref (ga K "thing_of"))
  d__law_numbers : mg "_law_numbers" = some (.ref (ga K "_law_numbers"))
  d__law_sevens : mg "_law_sevens" = some (.ref (ga K "_law_sevens"))
  d__law_sign : mg "_law_sign" = some (.ref (ga K "_law_sign"))
  d__law_sealed : mg "_law_sealed" = some (.ref (ga K "_law_sealed"))
  d__law_octets : mg "_law_octets" = some (.ref (ga K "_law_octets"))
  d__law_plain : mg "_law_plain" = some (.ref (ga K "_law_plain"))
  d__law_thing : mg "_law_thing" = some (.ref (ga K "_law_thing"))
  d__law_same : mg "_law_same" = some (.ref (ga K "_law_same"))
  d__law_told : mg "_law_told" = some (.ref (ga K "_law_told"))
  d_law : mg "law" = some (.ref (ga K "law"))
  a_OctetReader : mg "OctetReader" = some (.ref (ga K "OctetReader"))
  k_OctetReader : Cls K (ga K "OctetReader")
  n_OctetReader_octets_told : NoAttr K (ga K "OctetReader") "octets_told"
  n_OctetReader_octet_at : NoAttr K (ga K "OctetReader") "octet_at"
  i_OctetReader : Mk K (ga K "OctetReader") (ma K (ga K "OctetReader") "__init__")
  h_OctetReader_take_octet : Meth K (ga K "OctetReader") "take_octet" (ma K (ga K "OctetReader") "take_octet")
  h_OctetReader_take_number : Meth K (ga K "OctetReader") "take_number" (ma K (ga K "OctetReader") "take_number")
  h_OctetReader_take_string : Meth K (ga K "OctetReader") "take_string" (ma K (ga K "OctetReader") "take_string")
  h_OctetReader_take_integer : Meth K (ga K "OctetReader") "take_integer" (ma K (ga K "OctetReader") "take_integer")
  h_OctetReader_take_plain : Meth K (ga K "OctetReader") "take_plain" (ma K (ga K "OctetReader") "take_plain")
  h_OctetReader_take_thing : Meth K (ga K "OctetReader") "take_thing" (ma K (ga K "OctetReader") "take_thing")
  t_NoThing : Takes1 K (ga K) (.ref (ga K "NoThing")) ex_NoThing
  x_NoThing : ExcC K (ga K "NoThing")
  q_NoThing_ShapeError : PySem.W.kitOne K (.ref (ga K "NoThing")) (.ref (ga K "ShapeError")) = some true
  q_NoThing_ValueError : PySem.W.kitOne K (.ref (ga K "NoThing")) (.type "ValueError") = some true
  q_NoThing_BadOctets : PySem.W.kitOne K (.ref (ga K "NoThing")) (.ref (ga K "BadOctets")) = some false
variable {P : Program} {w : World} {K : PySem.W.Frag} {mg : Str → Option Value} {base : Heap}
theorem sc_is_integer : FnScope ["thing"] ["thing"] (defScope (top 5)) := ⟨rfl, rfl, rfl, by decide +kernel, rfl, by decide +kernel, by decide +kernel⟩
theorem w_is_integer (T : Txt K mg) {fd : FuncData} (F : FunD K "is_integer" "is_integer" (defArgs (top 5)) (defBody (top 5)) (defScope (top 5)) [] [] (ga K "is_integer") fd) : Cal P w K mg base (ga K) 1 "is_integer" 1 F_is_integer :=
  calD F T.d_is_integer sc_is_integer (fun _ _ _ _ _ _ us hl => match us, hl with | [_], _ => rfl) fun cdv A outer s H E hr => by
    have hu := hr.units
    have hu1 := Nat.lt_of_le_of_lt (Nat.add_le_add_left (by decide : 1 ≤ 64) _) hu
    have sc := sc_is_integer
    exact mss_one (ms_ret (me_and (me_isi (me_var 0) T.f_isinstance T.f_int tyK_int (by decide +kernel)) (me_one (me_not (me_isi (me_var 0) T.f_isinstance T.f_bool tyK_bool (by decide +kernel))))))
theorem sc_is_within : FnScope ["thing", "low", "high"] ["thing", "low", "high"] (defScope (top 6)) := ⟨rfl, rfl, rfl, by decide +kernel, rfl, by decide +kernel, by decide +kernel⟩
theorem w_is_within (T : Txt K mg) (K_is_integer : Cal P w K mg base (ga K) 1 "is_integer" 1 F_is_integer) {fd : FuncData} (F : FunD K "is_within" "is_within" (defArgs (top 6)) (defBody (top 6)) (defScope (top 6)) [] [] (ga K "is_within") fd) : Cal P w K mg base (ga K) 2 "is_within" 3 F_is_within :=
  calD F T.d_is_within sc_is_within (fun _ _ _ _ _ _ us hl => match us, hl with | [_, _, _], _ => rfl) fun cdv A outer s H E hr => by
    have hu := hr.units
    have hu1 := Nat.lt_of_le_of_lt (Nat.add_le_add_left (by decide : 1 ≤ 64) _) hu
    have sc := sc_is_within
    exact mss_one (ms_ret (me_and (me_c (mc_call (K_is_integer.mono (by decide)) hr (ma_d (me_var 0) (ma_nil)) (hlen := len_d (len_nil)))) (me_one (me_chain op_le s_le op_le s_le (mq_r 1) (mq_r 0) (mq_r 2)))))
theorem sc_number_octets : FnScope ["number", "found"] ["number"] (defScope (top 21)) := ⟨rfl, rfl, rfl, by decide +kernel, rfl, by decide +kernel, by decide +kernel⟩
theorem w_number_octets (T : Txt K mg) {fd : FuncData} (F : FunD K "number_octets" "number_octets" (defArgs (top 21)) (defBody (top 21)) (defScope (top 21)) [] [] (ga K "number_octets") fd) : Cal P w K mg base (ga K) 1 "number_octets" 1 F_number_octets :=
  calD F T.d_number_octets sc_number_octets (fun _ _ _ _ _ _ us hl => match us, hl with | [_], _ => rfl) fun cdv A outer s H E hr => by
    have hu := hr.units
    have hu1 := Nat.lt_of_le_of_lt (Nat.add_le_add_left (by decide : 1 ≤ 64) _) hu
    have sc := sc_number_octets
    exact mss_cons (ms_setO 1 (mo_lst (ma_nil)) sc.nd) (mss_cons (ms_while 20000 (mt_cmp op_ge s_ge (mq_r 0) (mq_d (me_gi T.g_SEVEN_BITS))) (mss_cons (ms_expr (me_mt 1 PySem.F.slot_list_append PySem.F.type_list_append mt_append mts_app (ma_d (me_op op_addD s_add (mq_d (me_op op_mod s_mod (mq_d (me_bltT call_int1 b_int (ma_r 0 (ma_nil)) T.f_int (by decide +kernel))) (mq_d (me_gi T.g_SEVEN_BITS)))) (mq_d (me_gi T.g_SEVEN_BITS))) (ma_nil)))) (mss_one (ms_set 0 (me_op op_fdiv s_div (mq_r 0) (mq_d (me_gi T.g_SEVEN_BITS))) sc.nd)))) (mss_one (ms_retO (mo_op op_cat s_cat (mq_r 1) (mq_f (mo_lst (ma_d (me_var 0) (ma_nil))))))))
theorem sc_plain_octets : FnScope ["thing", "found", "sign"] ["thing"] (defScope (top 22)) := ⟨rfl, rfl, rfl, by decide +kernel, rfl, by decide +kernel, by decide +kernel⟩
theorem w_plain_octets (T : Txt K mg) (K_is_integer : Cal P w K mg base (ga K) 1 "is_integer" 1 F_is_integer) (K_number_octets : Cal P w K mg base (ga K) 1 "number_octets" 1 F_number_octets) {fd : FuncData} (F : FunD K "plain_octets" "plain_octets" (defArgs (top 22)) (defBody (top 22)) (defScope (top 22)) [] [] (ga K "plain_octets") fd) : Cal P w K mg base (ga K) 2 "plain_octets" 1 F_plain_octets :=
  calD F T.d_plain_octets sc_plain_octets (fun _ _ _ _ _ _ us hl => match us, hl with | [_], _ => rfl) fun cdv A outer s H E hr => by
    have hu := hr.units
    have hu1 := Nat.lt_of_le_of_lt (Nat.add_le_add_left (by decide : 1 ≤ 64) _) hu
    have sc := sc_plain_octets
    exact mss_cons (ms_if (mt_cmp op_isN s_isN (mq_r 0) (mq_d (me_non))) (mss_one (ms_retO (mo_lst (ma_d (me_gi T.g_OF_NONE) (ma_nil))))) (mss_nil)) (mss_cons (ms_if (mt_val (me_isi (me_var 0) T.f_isinstance T.f_bool tyK_bool (by decide +kernel))) (mss_one (ms_retO (mo_lst (ma_d (me_if (mt_val (me_var 0)) (me_gi T.g_OF_TRUE) (me_gi T.g_OF_FALSE)) (ma_nil))))) (mss_nil)) (mss_cons (ms_if (mt_val (me_c (mc_call (K_is_integer.mono (by decide)) hr (ma_d (me_var 0) (ma_nil)) (hlen := len_d (len_nil))))) (mss_one (ms_retO (mo_op op_cat s_cat (mq_f (mo_lst (ma_d (me_gi T.g_OF_INTEGER) (ma_nil)))) (mq_d (me_c (mc_call (K_number_octets.mono (by decide)) hr (ma_d (me_if (mt_cmp op_ge s_ge (mq_r 0) (mq_d (me_int))) (me_op op_mul s_mul (mq_d (me_int)) (mq_r 0)) (me_op op_sub s_sub (mq_d (me_op op_mul s_mul (mq_d (me_neg (me_int))) (mq_r 0))) (mq_d (me_int)))) (ma_nil)) (hlen := len_d (len_nil)))))))) (mss_nil)) (mss_cons (ms_if (mt_val (me_isi (me_var 0) T.f_isinstance T.f_str tyK_str (by decide +kernel))) (mss_cons (ms_if (mt_not (mt_val (me_blt (cr_all rfl) b_all (ma_f (mo_lc sc.nd (own := [("sign", 2)]) (mi_any (me_var 0)) (show BlkOk ["thing", "found", "sign"] (defScope (top 22)) _ _ from ⟨rfl, by decide +kernel, by decide +kernel, by decide +kernel, by decide +kernel⟩) (fun _ _ _ _ _ => mg_name 2 sc.nd) (fun _ _ _ _ _ => mts_nil) (fun _ _ _ _ _ => me_cmp op_inA s_in (mq_r 2) (mq_d (me_gs T.g_SIGNS)))) (ma_nil)) T.f_all (by decide +kernel)))) (mss_one (ms_ret (me_non))) (mss_nil)) (mss_cons (ms_setO 1 (mo_op op_cat s_cat (mq_f (mo_lst (ma_d (me_gi T.g_OF_STRING) (ma_nil)))) (mq_d (me_c (mc_call (K_number_octets.mono (by decide)) hr (ma_d (me_blt call_len b_len (ma_r 0 (ma_nil)) T.f_len (by decide +kernel)) (ma_nil)) (hlen := len_d (len_nil)))))) sc.nd) (mss_cons (ms_for (mi_any (me_var 0)) (mg_name 2 sc.nd) (mss_one (ms_expr (me_mt 1 PySem.F.slot_list_extend PySem.F.type_list_extend mt_extend mts_ext (ma_d (me_c (mc_call (K_number_octets.mono (by decide)) hr (ma_d (me_blt call_ord b_ord (ma_r 2 (ma_nil)) T.f_ord (by decide +kernel)) (ma_nil)) (hlen := len_d (len_nil)))) (ma_nil)))))) (mss_one (ms_retV 1))))) (mss_nil)) (mss_one (ms_ret (me_if (mt_val (me_isi (me_var 0) T.f_isinstance T.f_tuple tyK_tuple (by decide +kernel))) (me_o (mo_op op_cat s_cat (mq_f (mo_lst (ma_d (me_gi T.g_OF_TUPLE) (ma_nil)))) (mq_d (me_c (mc_call (K_number_octets.mono (by decide)) hr (ma_d (me_blt call_len b_len (ma_r 0 (ma_nil)) T.f_len (by decide +kernel)) (ma_nil)) (hlen := len_d (len_nil))))))) (me_non)))))))
theorem sc_check_octet : FnScope ["octets", "at", "one"] ["octets"] (defScope (top 23)) := ⟨rfl, rfl, rfl, by decide +kernel, rfl, by decide +kernel, by decide +kernel⟩
theorem w_check_octet (T : Txt K mg) {fd : FuncData} (F : FunD K "check_octet" "check_octet" (defArgs (top 23)) (defBody (top 23)) (defScope (top 23)) [] [] (ga K "check_octet") fd) : Cal P w K mg base (ga K) 1 "check_octet" 1 F_check_octet :=
  calD F T.d_check_octet sc_check_octet (fun _ _ _ _ _ _ us hl => match us, hl with | [_], _ => rfl) fun cdv A outer s H E hr => by
    have hu := hr.units
    have hu1 := Nat.lt_of_le_of_lt (Nat.add_le_add_left (by decide : 1 ≤ 64) _) hu
    have sc := sc_check_octet
    exact mss_one (ms_ret (me_op op_mod s_mod (mq_d (me_bltT call_int1 b_int (ma_d (me_blt (cr_sum rfl) b_sum (ma_f (mo_lc sc.nd (own := [("at", 1), ("one", 2)]) (mi_enum (me_var 0) T.f_enumerate) (show BlkOk ["octets", "at", "one"] (defScope (top 23)) _ _ from ⟨rfl, by decide +kernel, by decide +kernel, by decide +kernel, by decide +kernel⟩) (fun _ _ _ _ _ => mg_tup (mgs_cons (mg_name 1 sc.nd) (mgs_cons (mg_name 2 sc.nd) (mgs_nil))) (gCons_len (gCons_len (gNil_len)))) (fun _ _ _ _ _ => mts_nil) (fun _ _ _ _ _ => me_op op_mul s_mul (mq_d (me_op op_addD s_add (mq_r 1) (mq_d (me_int)))) (mq_r 2))) (ma_nil)) T.f_sum (by decide +kernel)) (ma_nil)) T.f_int (by decide +kernel))) (mq_d (me_gi T.g_MODULUS))))
theorem sc_raw_octets : FnScope ["thing", "found", "waiting", "here", "some"] ["thing"] (defScope (top 24)) := ⟨rfl, rfl, rfl, by decide +kernel, rfl, by decide +kernel, by decide +kernel⟩
theorem w_raw_octets (T : Txt K mg) (K_plain_octets : Cal P w K mg base (ga K) 2 "plain_octets" 1 F_plain_octets) (K_check_octet : Cal P w K mg base (ga K) 1 "check_octet" 1 F_check_octet) {fd : FuncData} (F : FunD K "raw_octets" "raw_octets" (defArgs (top 24)) (defBody (top 24)) (defScope (top 24)) [] [] (ga K "raw_octets") fd) : Cal P w K mg base (ga K) 3 "raw_octets" 1 F_raw_octets :=
  calD F T.d_raw_octets sc_raw_octets (fun _ _ _ _ _ _ us hl => match us, hl with | [_], _ => rfl) fun cdv A outer s H E hr => by
    have hu := hr.units
    have hu1 := Nat.lt_of_le_of_lt (Nat.add_le_add_left (by decide : 1 ≤ 64) _) hu
    have sc := sc_raw_octets
    exact mss_cons (ms_par 1 2 (ma_f (mo_bltT call_list_of b_list (ma_d (me_gt T.g_FIRST_OCTETS) (ma_nil)) T.f_list (by decide +kernel)) (ma_f (mo_lst (ma_d (me_var 0) (ma_nil))) (ma_nil))) sc.nd) (mss_cons (ms_while 20000 (mt_cmp op_gt s_gt (mq_d (me_blt call_len b_len (ma_r 2 (ma_nil)) T.f_len (by decide +kernel))) (mq_d (me_int))) (mss_cons (ms_set 3 (me_mt0 2 PySem.F.slot_list_pop PySem.F.type_list_pop mt_pop mts_pop) sc.nd) (mss_cons (ms_set 4 (me_c (mc_call (K_plain_octets.mono (by decide)) hr (ma_d (me_var 3) (ma_nil)) (hlen := len_d (len_nil)))) sc.nd) (mss_cons (ms_if (mt_cmp op_isN s_isN (mq_r 4) (mq_d (me_non))) (mss_one (ms_ret (me_non))) (mss_nil)) (mss_cons (ms_expr (me_mt 1 PySem.F.slot_list_extend PySem.F.type_list_extend mt_extend mts_ext (ma_r 4 (ma_nil)))) (mss_one (ms_if (mt_val (me_isi (me_var 3) T.f_isinstance T.f_tuple tyK_tuple (by decide +kernel))) (mss_one (ms_expr (me_mt 2 PySem.F.slot_list_extend PySem.F.type_list_extend mt_extend mts_ext (ma_f (mo_bltT call_list_of b_list (ma_d (me_revT (me_var 3)) (ma_nil)) T.f_list (by decide +kernel)) (ma_nil))))) (mss_nil)))))))) (mss_one (ms_ret (me_bltT call_tuple_of b_tup (ma_f (mo_op op_cat s_cat (mq_r 1) (mq_f (mo_lst (ma_d (me_c (mc_call (K_check_octet.mono (by decide)) hr (ma_d (me_var 1) (ma_nil)) (hlen := len_d (len_nil)))) (ma_nil))))) (ma_nil)) T.f_tuple (by decide +kernel)))))
theorem sc_octets_of : FnScope ["thing", "found"] ["thing"] (defScope (top 25)) := ⟨rfl, rfl, rfl, by decide +kernel, rfl, by decide +kernel, by decide +kernel⟩
theorem w_octets_of (T : Txt K mg) (K_raw_octets : Cal P w K mg base (ga K) 3 "raw_octets" 1 F_raw_octets) (r_NoThing : Rz P w K mg base (ga K) "NoThing") {fd : FuncData} (F : FunD K "octets_of" "octets_of" (defArgs (top 25)) (defBody (top 25)) (defScope (top 25)) [] [] (ga K "octets_of") fd) : Cal P w K mg base (ga K) 4 "octets_of" 1 F_octets_of :=
  calD F T.d_octets_of sc_octets_of (fun _ _ _ _ _ _ us hl => match us, hl with | [_], _ => rfl) fun cdv A outer s H E hr => by
    have hu := hr.units
    have hu1 := Nat.lt_of_le_of_lt (Nat.add_le_add_left (by decide : 1 ≤ 64) _) hu
    have sc := sc_octets_of
    exact mss_cons (ms_set 1 (me_c (mc_call (K_raw_octets.mono (by decide)) hr (ma_d (me_var 0) (ma_nil)) (hlen := len_d (len_nil)))) sc.nd) (mss_cons (ms_if (mt_cmp op_isN s_isN (mq_r 1) (mq_d (me_non))) (mss_one (ms_raise "NoThing" (pmk_r r_NoThing (hr.mono (by decide))))) (mss_nil)) (mss_one (ms_retV 1)))
theorem sc_OctetReader___init__ : FnScope ["self", "octets"] ["self", "octets"] (defScope (mth 26 0)) := ⟨rfl, rfl, rfl, by decide +kernel, rfl, by decide +kernel, by decide +kernel⟩
theorem w_OctetReader___init__ (T : Txt K mg) {fd : FuncData} (F : FunD K "__init__" "OctetReader.__init__" (defArgs (mth 26 0)) (defBody (mth 26 0)) (defScope (mth 26 0)) [] [] (ma K (ga K "OctetReader") "__init__") fd) : Make P w K mg base (ga K) 1 "OctetReader" 2 F_OctetReader___init__ :=
  makeD F T.a_OctetReader T.i_OctetReader sc_OctetReader___init__ (fun _ _ _ _ _ _ us hl => match us, hl with | [_, _], _ => rfl) fun cdv A outer s H E hr => by
    have hu := hr.units
    have hu1 := Nat.lt_of_le_of_lt (Nat.add_le_add_left (by decide : 1 ≤ 64) _) hu
    have sc := sc_OctetReader___init__
    exact mss_cons (ms_fld 0 "OctetReader" (me_var 1) T.k_OctetReader T.n_OctetReader_octets_told) (mss_one (ms_fld 0 "OctetReader" (me_blt call_len b_len (ma_d (me_gt T.g_FIRST_OCTETS) (ma_nil)) T.f_len (by decide +kernel)) T.k_OctetReader T.n_OctetReader_octet_at))
theorem sc_OctetReader_take_octet : FnScope ["self"] ["self"] (defScope (mth 26 1)) := ⟨rfl, rfl, rfl, by decide +kernel, rfl, by decide +kernel, by decide +kernel⟩
theorem w_OctetReader_take_octet (T : Txt K mg) (r_BadOctets : Rz P w K mg base (ga K) "BadOctets") {fd : FuncData} (F : FunD K "take_octet" "OctetReader.take_octet" (defArgs (mth 26 1)) (defBody (mth 26 1)) (defScope (mth 26 1)) [] [] (ma K (ga K "OctetReader") "take_octet") fd) : MCal P w K mg base (ga K) 3 "OctetReader" "take_octet" 1 F_OctetReader_take_octet :=
  mcalD F T.k_OctetReader T.h_OctetReader_take_octet sc_OctetReader_take_octet (fun _ _ _ _ _ _ us hl => match us, hl with | [_], _ => rfl) fun cdv A outer s H E hr => by
    have hu := hr.units
    have hu1 := Nat.lt_of_le_of_lt (Nat.add_le_add_left (by decide : 1 ≤ 64) _) hu
    have sc := sc_OctetReader_take_octet
    exact mss_cons (ms_if (mt_cmp op_ge s_ge (mq_d (me_fld 0 "OctetReader" T.k_OctetReader T.n_OctetReader_octet_at)) (mq_d (me_op op_sub s_sub (mq_d (me_blt call_len b_len (ma_d (me_fld 0 "OctetReader" T.k_OctetReader T.n_OctetReader_octets_told) (ma_nil)) T.f_len (by decide +kernel))) (mq_d (me_int))))) (mss_one (ms_raise "BadOctets" (pmk_r r_BadOctets (hr.mono (by decide))))) (mss_nil)) (mss_cons (ms_fldaug 0 "OctetReader" iop_addD s_iadd (me_int) T.k_OctetReader T.n_OctetReader_octet_at) (mss_one (ms_ret (me_ix ix_seq s_ix (mq_d (me_fld 0 "OctetReader" T.k_OctetReader T.n_OctetReader_octets_told)) (mq_d (me_op op_sub s_sub (mq_d (me_fld 0 "OctetReader" T.k_OctetReader T.n_OctetReader_octet_at)) (mq_d (me_int))))))))
theorem sc_OctetReader_take_number : FnScope ["self", "found", "times", "turn", "octet"] ["self"] (defScope (mth 26 2)) := ⟨rfl, rfl, rfl, by decide +kernel, rfl, by decide +kernel, by decide +kernel⟩
theorem w_OctetReader_take_number (T : Txt K mg) (r_BadOctets : Rz P w K mg base (ga K) "BadOctets") (M_OctetReader_take_octet : MCal P w K mg base (ga K) 3 "OctetReader" "take_octet" 1 F_OctetReader_take_octet) {fd : FuncData} (F : FunD K "take_number" "OctetReader.take_number" (defArgs (mth 26 2)) (defBody (mth 26 2)) (defScope (mth 26 2)) [] [] (ma K (ga K "OctetReader") "take_number") fd) : MCal P w K mg base (ga K) 4 "OctetReader" "take_number" 1 F_OctetReader_take_number :=
  mcalD F T.k_OctetReader T.h_OctetReader_take_number sc_OctetReader_take_number (fun _ _ _ _ _ _ us hl => match us, hl with | [_], _ => rfl) fun cdv A outer s H E hr => by
    have hu := hr.units
    have hu1 := Nat.lt_of_le_of_lt (Nat.add_le_add_left (by decide : 1 ≤ 64) _) hu
    have sc := sc_OctetReader_take_number
    exact mss_cons (ms_asg (me_tup (ma_d (me_int) (ma_d (me_int) (ma_nil)))) (mg_tup (mgs_cons (mg_name 1 sc.nd) (mgs_cons (mg_name 2 sc.nd) (mgs_nil))) (gCons_len (gCons_len (gNil_len))))) (mss_cons (ms_for (mi_range1 (ma_d (me_gi T.g_MOST_NUMBER_OCTETS) (ma_nil)) T.f_range) (mg_name 3 sc.nd) (mss_cons (ms_set 4 (me_c (mc_meth0 0 (M_OctetReader_take_octet.mono (by decide)) hr (by rfl))) sc.nd) (mss_cons (ms_aug 1 iop_addD s_iadd (me_op op_mul s_mul (mq_r 2) (mq_d (me_op op_mod s_mod (mq_d (me_bltT call_int1 b_int (ma_r 4 (ma_nil)) T.f_int (by decide +kernel))) (mq_d (me_gi T.g_SEVEN_BITS))))) sc.nd) (mss_cons (ms_set 2 (me_op op_mul s_mul (mq_r 2) (mq_d (me_gi T.g_SEVEN_BITS))) sc.nd) (mss_one (ms_if (mt_cmp op_lt s_lt (mq_r 4) (mq_d (me_gi T.g_SEVEN_BITS))) (mss_one (ms_retV 1)) (mss_nil))))))) (mss_one (ms_raise "BadOctets" (pmk_r r_BadOctets (hr.mono (by decide))))))
theorem sc_OctetReader_take_string : FnScope ["self", "many", "found", "turn", "number", "some", "sign"] ["self"] (defScope (mth 26 3)) := ⟨rfl, rfl, rfl, by decide +kernel, rfl, by decide +kernel, by decide +kernel⟩
theorem w_OctetReader_take_string (T : Txt K mg) (M_OctetReader_take_number : MCal P w K mg base (ga K) 4 "OctetReader" "take_number" 1 F_OctetReader_take_number) (r_BadOctets : Rz P w K mg base (ga K) "BadOctets") {fd : FuncData} (F : FunD K "take_string" "OctetReader.take_string" (defArgs (mth 26 3)) (defBody (mth 26 3)) (defScope (mth 26 3)) [] [] (ma K (ga K "OctetReader") "take_string") fd) : MCal P w K mg base (ga K) 5 "OctetReader" "take_string" 1 F_OctetReader_take_string :=
  mcalD F T.k_OctetReader T.h_OctetReader_take_string sc_OctetReader_take_string (fun _ _ _ _ _ _ us hl => match us, hl with | [_], _ => rfl) fun cdv A outer s H E hr => by
    have hu := hr.units
    have hu1 := Nat.lt_of_le_of_lt (Nat.add_le_add_left (by decide : 1 ≤ 64) _) hu
    have sc := sc_OctetReader_take_string
    exact mss_cons (ms_par 1 2 (ma_d (me_c (mc_meth0 0 (M_OctetReader_take_number.mono (by decide)) hr (by rfl))) (ma_f (mo_lst (ma_nil)) (ma_nil))) sc.nd) (mss_cons (ms_if (mt_cmp op_gt s_gt (mq_r 1) (mq_d (me_blt call_len b_len (ma_d (me_fld 0 "OctetReader" T.k_OctetReader T.n_OctetReader_octets_told) (ma_nil)) T.f_len (by decide +kernel)))) (mss_one (ms_raise "BadOctets" (pmk_r r_BadOctets (hr.mono (by decide))))) (mss_nil)) (mss_cons (ms_for (mi_range1 (ma_d (me_var 1) (ma_nil)) T.f_range) (mg_name 3 sc.nd) (mss_cons (ms_set 4 (me_c (mc_meth0 0 (M_OctetReader_take_number.mono (by decide)) hr (by rfl))) sc.nd) (mss_cons (ms_setLc 5 sc.nd (own := [("sign", 6)]) (mi_any (me_gs T.g_SIGNS)) (show BlkOk ["self", "many", "found", "turn", "number", "some", "sign"] (defScope (mth 26 3)) _ _ from ⟨rfl, by decide +kernel, by decide +kernel, by decide +kernel, by decide +kernel⟩) (fun _ _ _ _ _ => mg_name 6 sc.nd) (fun _ _ _ _ _ => mts_one (mt_cmp (op_eqD hu) s_eq (mq_d (me_blt call_ord b_ord (ma_r 6 (ma_nil)) T.f_ord (by decide +kernel))) (mq_r 4))) (fun _ _ _ _ _ => me_var 6)) (mss_cons (ms_if (mt_cmp (op_eqD hu) s_eq (mq_d (me_blt call_len b_len (ma_r 5 (ma_nil)) T.f_len (by decide +kernel))) (mq_d (me_int))) (mss_one (ms_raise "BadOctets" (pmk_r r_BadOctets (hr.mono (by decide))))) (mss_nil)) (mss_one (ms_expr (me_mt 2 PySem.F.slot_list_append PySem.F.type_list_append mt_append mts_app (ma_d (me_ix ix_seq s_ix (mq_r 5) (mq_d (me_int))) (ma_nil))))))))) (mss_one (ms_ret (me_join (me_str) (mq_r 2))))))
theorem sc_OctetReader_take_integer : FnScope ["self", "number"] ["self"] (defScope (mth 26 4)) := ⟨rfl, rfl, rfl, by decide +kernel, rfl, by decide +kernel, by decide +kernel⟩
theorem w_OctetReader_take_integer (T : Txt K mg) (M_OctetReader_take_number : MCal P w K mg base (ga K) 4 "OctetReader" "take_number" 1 F_OctetReader_take_number) {fd : FuncData} (F : FunD K "take_integer" "OctetReader.take_integer" (defArgs (mth 26 4)) (defBody (mth 26 4)) (defScope (mth 26 4)) [] [] (ma K (ga K "OctetReader") "take_integer") fd) : MCal P w K mg base (ga K) 5 "OctetReader" "take_integer" 1 F_OctetReader_take_integer :=
  mcalD F T.k_OctetReader T.h_OctetReader_take_integer sc_OctetReader_take_integer (fun _ _ _ _ _ _ us hl => match us, hl with | [_], _ => rfl) fun cdv A outer s H E hr => by
    have hu := hr.units
    have hu1 := Nat.lt_of_le_of_lt (Nat.add_le_add_left (by decide : 1 ≤ 64) _) hu
    have sc := sc_OctetReader_take_integer
    exact mss_cons (ms_set 1 (me_c (mc_meth0 0 (M_OctetReader_take_number.mono (by decide)) hr (by rfl))) sc.nd) (mss_one (ms_ret (me_if (mt_cmp (op_eqD hu) s_eq (mq_d (me_op op_mod s_mod (mq_d (me_bltT call_int1 b_int (ma_r 1 (ma_nil)) T.f_int (by decide +kernel))) (mq_d (me_int)))) (mq_d (me_int))) (me_op op_fdiv s_div (mq_r 1) (mq_d (me_int))) (me_op op_sub s_sub (mq_d (me_int)) (mq_d (me_op op_fdiv s_div (mq_d (me_op op_addD s_add (mq_r 1) (mq_d (me_int)))) (mq_d (me_int))))))))
theorem sc_OctetReader_take_plain : FnScope ["self", "word"] ["self", "word"] (defScope (mth 26 5)) := ⟨rfl, rfl, rfl, by decide +kernel, rfl, by decide +kernel, by decide +kernel⟩
theorem w_OctetReader_take_plain (T : Txt K mg) (M_OctetReader_take_integer : MCal P w K mg base (ga K) 5 "OctetReader" "take_integer" 1 F_OctetReader_take_integer) (M_OctetReader_take_string : MCal P w K mg base (ga K) 5 "OctetReader" "take_string" 1 F_OctetReader_take_string) (r_BadOctets : Rz P w K mg base (ga K) "BadOctets") {fd : FuncData} (F : FunD K "take_plain" "OctetReader.take_plain" (defArgs (mth 26 5)) (defBody (mth 26 5)) (defScope (mth 26 5)) [] [] (ma K (ga K "OctetReader") "take_plain") fd) : MCal P w K mg base (ga K) 6 "OctetReader" "take_plain" 2 F_OctetReader_take_plain :=
  mcalD F T.k_OctetReader T.h_OctetReader_take_plain sc_OctetReader_take_plain (fun _ _ _ _ _ _ us hl => match us, hl with | [_, _], _ => rfl) fun cdv A outer s H E hr => by
    have hu := hr.units
    have hu1 := Nat.lt_of_le_of_lt (Nat.add_le_add_left (by decide : 1 ≤ 64) _) hu
    have sc := sc_OctetReader_take_plain
    exact mss_cons (ms_if (mt_cmp (op_eqD hu) s_eq (mq_r 1) (mq_d (me_gi T.g_OF_INTEGER))) (mss_one (ms_ret (me_c (mc_meth0 0 (M_OctetReader_take_integer.mono (by decide)) hr (by rfl))))) (mss_nil)) (mss_cons (ms_if (mt_cmp (op_eqD hu) s_eq (mq_r 1) (mq_d (me_gi T.g_OF_STRING))) (mss_one (ms_ret (me_c (mc_meth0 0 (M_OctetReader_take_string.mono (by decide)) hr (by rfl))))) (mss_nil)) (mss_cons (ms_if (mt_cmp op_ninA s_in (mq_r 1) (mq_d (me_tup (ma_d (me_gi T.g_OF_FALSE) (ma_d (me_gi T.g_OF_TRUE) (ma_d (me_gi T.g_OF_NONE) (ma_nil))))))) (mss_one (ms_raise "BadOctets" (pmk_r r_BadOctets (hr.mono (by decide))))) (mss_nil)) (mss_one (ms_ret (me_dget hu1 (mo_disp (mps_cons (me_gi T.g_OF_FALSE) (me_bl) (mps_cons (me_gi T.g_OF_TRUE) (me_bl) (mps_cons (me_gi T.g_OF_NONE) (me_non) (mps_nil))))) (me_var 1) (fun _ _ => rfl))))))
theorem sc_OctetReader_take_thing : FnScope ["self", "waiting", "made", "word", "many", "first", "octet", "size"] ["self"] (defScope (mth 26 6)) := ⟨rfl, rfl, rfl, by decide +kernel, rfl, by decide +kernel, by decide +kernel⟩
theorem w_OctetReader_take_thing (T : Txt K mg) (M_OctetReader_take_octet : MCal P w K mg base (ga K) 3 "OctetReader" "take_octet" 1 F_OctetReader_take_octet) (M_OctetReader_take_number : MCal P w K mg base (ga K) 4 "OctetReader" "take_number" 1 F_OctetReader_take_number) (r_BadOctets : Rz P w K mg base (ga K) "BadOctets") (M_OctetReader_take_plain : MCal P w K mg base (ga K) 6 "OctetReader" "take_plain" 2 F_OctetReader_take_plain) {fd : FuncData} (F : FunD K "take_thing" "OctetReader.take_thing" (defArgs (mth 26 6)) (defBody (mth 26 6)) (defScope (mth 26 6)) [] [] (ma K (ga K "OctetReader") "take_thing") fd) : MCal P w K mg base (ga K) 7 "OctetReader" "take_thing" 1 F_OctetReader_take_thing :=
  mcalD F T.k_OctetReader T.h_OctetReader_take_thing sc_OctetReader_take_thing (fun _ _ _ _ _ _ us hl => match us, hl with | [_], _ => rfl) fun cdv A outer s H E hr => by
    have hu := hr.units
    have hu1 := Nat.lt_of_le_of_lt (Nat.add_le_add_left (by decide : 1 ≤ 64) _) hu
    have sc := sc_OctetReader_take_thing
    exact mss_cons (ms_par 1 2 (ma_f (mo_lst (ma_d (me_tup (ma_d (me_gs T.g_READ_THING) (ma_d (me_int) (ma_nil)))) (ma_nil))) (ma_f (mo_lst (ma_nil)) (ma_nil))) sc.nd) (mss_cons (ms_while 20000 (mt_cmp op_gt s_gt (mq_d (me_blt call_len b_len (ma_r 1 (ma_nil)) T.f_len (by decide +kernel))) (mq_d (me_int))) (mss_cons (ms_asg (me_mt0 1 PySem.F.slot_list_pop PySem.F.type_list_pop mt_pop mts_pop) (mg_tup (mgs_cons (mg_name 3 sc.nd) (mgs_cons (mg_name 4 sc.nd) (mgs_nil))) (gCons_len (gCons_len (gNil_len))))) (mss_cons (ms_if (mt_cmp (op_eqD hu) s_eq (mq_r 3) (mq_d (me_gs T.g_MAKE_TUPLE))) (mss_cons (ms_set 5 (me_op op_sub s_sub (mq_d (me_blt call_len b_len (ma_r 2 (ma_nil)) T.f_len (by decide +kernel))) (mq_r 4)) sc.nd) (mss_cons (ms_setO 2 (mo_op op_cat s_cat (mq_f (mo_slice sl_list s_slL (mq_r 2) (mpt_none) (mpt_some (me_var 5)))) (mq_f (mo_lst (ma_d (me_bltT call_tuple_of b_tup (ma_f (mo_slice sl_list s_slL (mq_r 2) (mpt_some (me_var 5)) (mpt_none)) (ma_nil)) T.f_tuple (by decide +kernel)) (ma_nil))))) sc.nd) (mss_one (ms_continue)))) (mss_nil)) (mss_cons (ms_if (mt_cmp op_gt s_gt (mq_r 4) (mq_d (me_int))) (mss_one (ms_expr (me_mt 1 PySem.F.slot_list_append PySem.F.type_list_append mt_append mts_app (ma_d (me_tup (ma_d (me_gs T.g_READ_THING) (ma_d (me_op op_sub s_sub (mq_r 4) (mq_d (me_int))) (ma_nil)))) (ma_nil))))) (mss_nil)) (mss_cons (ms_set 6 (me_c (mc_meth0 0 (M_OctetReader_take_octet.mono (by decide)) hr (by rfl))) sc.nd) (mss_one (ms_if (mt_cmp (op_eqD hu) s_eq (mq_r 6) (mq_d (me_gi T.g_OF_TUPLE))) (mss_cons (ms_set 7 (me_c (mc_meth0 0 (M_OctetReader_take_number.mono (by decide)) hr (by rfl))) sc.nd) (mss_cons (ms_if (mt_cmp op_gt s_gt (mq_r 7) (mq_d (me_blt call_len b_len (ma_d (me_fld 0 "OctetReader" T.k_OctetReader T.n_OctetReader_octets_told) (ma_nil)) T.f_len (by decide +kernel)))) (mss_one (ms_raise "BadOctets" (pmk_r r_BadOctets (hr.mono (by decide))))) (mss_nil)) (mss_cons (ms_expr (me_mt 1 PySem.F.slot_list_append PySem.F.type_list_append mt_append mts_app (ma_d (me_tup (ma_d (me_gs T.g_MAKE_TUPLE) (ma_d (me_var 7) (ma_nil)))) (ma_nil)))) (mss_one (ms_if (mt_cmp op_gt s_gt (mq_r 7) (mq_d (me_int))) (mss_one (ms_expr (me_mt 1 PySem.F.slot_list_append PySem.F.type_list_append mt_append mts_app (ma_d (me_tup (ma_d (me_gs T.g_READ_THING) (ma_d (me_var 7) (ma_nil)))) (ma_nil))))) (mss_nil)))))) (mss_one (ms_expr (me_mt 2 PySem.F.slot_list_append PySem.F.type_list_append mt_append mts_app (ma_d (me_c (mc_meth 0 (M_OctetReader_take_plain.mono (by decide)) hr (ma_d (me_var 6) (ma_nil)) (len1 (len_d (len_nil))) (by rfl))) (ma_nil)))))))))))) (mss_one (ms_ret (me_ix ix_seq s_ix (mq_r 2) (mq_d (me_int))))))
theorem sc_raw_thing : FnScope ["octets", "found", "one"] ["octets"] (defScope (top 27)) := ⟨rfl, rfl, rfl, by decide +kernel, rfl, by decide +kernel, by decide +kernel⟩
theorem w_raw_thing (T : Txt K mg) (M_OctetReader_take_thing : MCal P w K mg base (ga K) 7 "OctetReader" "take_thing" 1 F_OctetReader_take_thing) (r_BadOctets : Rz P w K mg base (ga K) "BadOctets") (K_raw_octets : Cal P w K mg base (ga K) 3 "raw_octets" 1 F_raw_octets) (mk_OctetReader : Make P w K mg base (ga K) 1 "OctetReader" 2 F_OctetReader___init__) (K_is_within : Cal P w K mg base (ga K) 2 "is_within" 3 F_is_within) {fd : FuncData} (F : FunD K "raw_thing" "raw_thing" (defArgs (top 27)) (defBody (top 27)) (defScope (top 27)) [] [] (ga K "raw_thing") fd) : Cal P w K mg base (ga K) 8 "raw_thing" 1 F_raw_thing :=
  calD F T.d_raw_thing sc_raw_thing (fun _ _ _ _ _ _ us hl => match us, hl with | [_], _ => rfl) fun cdv A outer s H E hr => by
    have hu := hr.units
    have hu1 := Nat.lt_of_le_of_lt (Nat.add_le_add_left (by decide : 1 ≤ 64) _) hu
    have sc := sc_raw_thing
    exact mss_cons (ms_if (mw_mt (mw_or (mt_not (mt_val (me_isi (me_var 0) T.f_isinstance T.f_tuple tyK_tuple (by decide +kernel)))) (mw_or1 (mt_cmp op_le s_le (mq_d (me_blt call_len b_len (ma_r 0 (ma_nil)) T.f_len (by decide +kernel))) (mq_d (me_blt call_len b_len (ma_d (me_gt T.g_FIRST_OCTETS) (ma_nil)) T.f_len (by decide +kernel))))))) (mss_one (ms_raise "BadOctets" (pmk_r r_BadOctets (hr.mono (by decide))))) (mss_nil)) (mss_cons (ms_if (mw_mt (mw_or (mt_not (mt_val (me_blt (cr_all rfl) b_all (ma_f (mo_lc sc.nd (own := [("one", 2)]) (mi_any (me_var 0)) (show BlkOk ["octets", "found", "one"] (defScope (top 27)) _ _ from ⟨rfl, by decide +kernel, by decide +kernel, by decide +kernel, by decide +kernel⟩) (fun _ _ _ _ _ => mg_name 2 sc.nd) (fun _ _ _ _ _ => mts_nil) (fun _ _ _ _ _ => me_c (mc_call (K_is_within.mono (by decide)) hr (ma_d (me_var 2) (ma_d (me_int) (ma_d (me_int) (ma_nil)))) (hlen := len_d (len_d (len_d (len_nil))))))) (ma_nil)) T.f_all (by decide +kernel)))) (mw_or1 (mt_cmp (op_neD hu) s_ne (mq_d (me_slice sl_tupA s_slT (mq_r 0) (mpt_none) (mpt_some (me_int)))) (mq_d (me_gt T.g_FIRST_OCTETS)))))) (mss_one (ms_raise "BadOctets" (pmk_r r_BadOctets (hr.mono (by decide))))) (mss_nil)) (mss_cons (ms_set 1 (me_c (mc_methF (M_OctetReader_take_thing.mono (by decide)) hr (mo_make (mk_OctetReader.mono (by decide)) hr (ma_d (me_var 0) (ma_nil)) (len1 (len_d (len_nil)))) (by rfl))) sc.nd) (mss_cons (ms_if (mt_cmp (op_neD hu) s_ne (mq_d (me_c (mc_call (K_raw_octets.mono (by decide)) hr (ma_d (me_var 1) (ma_nil)) (hlen := len_d (len_nil))))) (mq_r 0)) (mss_one (ms_raise "BadOctets" (pmk_r r_BadOctets (hr.mono (by decide))))) (mss_nil)) (mss_one (ms_retV 1)))))
theorem sc_thing_of : FnScope ["octets"] ["octets"] (defScope (top 28)) := ⟨rfl, rfl, rfl, by decide +kernel, rfl, by decide +kernel, by decide +kernel⟩
theorem w_thing_of (T : Txt K mg) (K_raw_thing : Cal P w K mg base (ga K) 8 "raw_thing" 1 F_raw_thing) {fd : FuncData} (F : FunD K "thing_of" "thing_of" (defArgs (top 28)) (defBody (top 28)) (defScope (top 28)) [] [] (ga K "thing_of") fd) : Cal P w K mg base (ga K) 9 "thing_of" 1 F_thing_of :=
  calD F T.d_thing_of sc_thing_of (fun _ _ _ _ _ _ us hl => match us, hl with | [_], _ => rfl) fun cdv A outer s H E hr => by
    have hu := hr.units
    have hu1 := Nat.lt_of_le_of_lt (Nat.add_le_add_left (by decide : 1 ≤ 64) _) hu
    have sc := sc_thing_of
    exact mss_one (ms_ret (me_c (mc_call (K_raw_thing.mono (by decide)) hr (ma_d (me_var 0) (ma_nil)) (hlen := len_d (len_nil)))))
theorem sc__law_numbers : FnScope ["script", "thing", "cell", "rest", "found", "k", "number"] ["script", "thing"] (defScope (top 30)) := ⟨rfl, rfl, rfl, by decide +kernel, rfl, by decide +kernel, by decide +kernel⟩
theorem w__law_numbers (T : Txt K mg) {fd : FuncData} (F : FunD K "_law_numbers" "_law_numbers" (defArgs (top 30)) (defBody (top 30)) (defScope (top 30)) [] [] (ga K "_law_numbers") fd) : Cal P w K mg base (ga K) 1 "_law_numbers" 2 F__law_numbers :=
  calD F T.d__law_numbers sc__law_numbers (fun _ _ _ _ _ _ us hl => match us, hl with | [_, _], _ => rfl) fun cdv A outer s H E hr => by
    have hu := hr.units
    have hu1 := Nat.lt_of_le_of_lt (Nat.add_le_add_left (by decide : 1 ≤ 64) _) hu
    have sc := sc__law_numbers
    exact mss_cons (ms_set 2 (me_int) sc.nd) (mss_cons (ms_if (mt_cmp op_gt s_gt (mq_d (me_blt call_len b_len (ma_r 0 (ma_nil)) T.f_len (by decide +kernel))) (mq_d (me_int))) (mss_one (ms_set 2 (me_bltT call_int1 b_int (ma_d (me_ix ix_seq s_ix (mq_r 0) (mq_d (me_op op_mod s_mod (mq_r 1) (mq_d (me_blt call_len b_len (ma_r 0 (ma_nil)) T.f_len (by decide +kernel)))))) (ma_nil)) T.f_int (by decide +kernel)) sc.nd)) (mss_nil)) (mss_cons (ms_set 3 (me_int) sc.nd) (mss_cons (ms_if (mw_mt (mw_and (mt_cmp op_lt s_lt (mq_r 1) (mq_d (me_blt call_len b_len (ma_r 0 (ma_nil)) T.f_len (by decide +kernel)))) (mw_and1 (mt_cmp op_ge s_ge (mq_r 2) (mq_d (me_op op_pow s_pow (mq_d (me_int)) (mq_d (me_int)))))))) (mss_one (ms_set 3 (me_var 2) sc.nd)) (mss_nil)) (mss_cons (ms_setO 4 (mo_lst (ma_nil)) sc.nd) (mss_cons (ms_for (mi_range1 (ma_d (me_int) (ma_nil)) T.f_range) (mg_name 5 sc.nd) (mss_cons (ms_set 6 (me_op op_mod s_mod (mq_d (me_op op_mul s_mul (mq_d (me_op op_addD s_add (mq_d (me_op op_addD s_add (mq_d (me_op op_addD s_add (mq_d (me_op op_mod s_mod (mq_r 2) (mq_d (me_int)))) (mq_d (me_op op_mul s_mul (mq_d (me_int)) (mq_r 5))))) (mq_d (me_op op_mul s_mul (mq_d (me_int)) (mq_r 1))))) (mq_d (me_int)))) (mq_d (me_int)))) (mq_d (me_int))) sc.nd) (mss_cons (ms_set 6 (me_op op_mod s_mod (mq_d (me_op op_mul s_mul (mq_r 6) (mq_d (me_op op_addD s_add (mq_d (me_op op_fdiv s_div (mq_r 6) (mq_d (me_int)))) (mq_d (me_int)))))) (mq_d (me_int))) sc.nd) (mss_cons (ms_set 6 (me_op op_mod s_mod (mq_d (me_op op_mul s_mul (mq_r 6) (mq_d (me_op op_addD s_add (mq_d (me_op op_fdiv s_div (mq_r 6) (mq_d (me_int)))) (mq_d (me_int)))))) (mq_d (me_int))) sc.nd) (mss_cons (ms_if (mt_cmp op_gt s_gt (mq_r 3) (mq_d (me_int))) (mss_cons (ms_set 6 (me_op op_mod s_mod (mq_r 3) (mq_d (me_int))) sc.nd) (mss_one (ms_set 3 (me_op op_fdiv s_div (mq_r 3) (mq_d (me_int))) sc.nd))) (mss_nil)) (mss_one (ms_expr (me_mt 4 PySem.F.slot_list_append PySem.F.type_list_append mt_append mts_app (ma_r 6 (ma_nil)))))))))) (mss_one (ms_retV 4)))))))
theorem sc__law_sevens : FnScope ["number", "found", "rest", "k"] ["number"] (defScope (top 31)) := ⟨rfl, rfl, rfl, by decide +kernel, rfl, by decide +kernel, by decide +kernel⟩
theorem w__law_sevens (T : Txt K mg) {fd : FuncData} (F : FunD K "_law_sevens" "_law_sevens" (defArgs (top 31)) (defBody (top 31)) (defScope (top 31)) [] [] (ga K "_law_sevens") fd) : Cal P w K mg base (ga K) 1 "_law_sevens" 1 F__law_sevens :=
  calD F T.d__law_sevens sc__law_sevens (fun _ _ _ _ _ _ us hl => match us, hl with | [_], _ => rfl) fun cdv A outer s H E hr => by
    have hu := hr.units
    have hu1 := Nat.lt_of_le_of_lt (Nat.add_le_add_left (by decide : 1 ≤ 64) _) hu
    have sc := sc__law_sevens
    exact mss_cons (ms_setO 1 (mo_lst (ma_nil)) sc.nd) (mss_cons (ms_set 2 (me_var 0) sc.nd) (mss_cons (ms_for (mi_range1 (ma_d (me_int) (ma_nil)) T.f_range) (mg_name 3 sc.nd) (mss_cons (ms_if (mt_cmp op_lt s_lt (mq_r 2) (mq_d (me_int))) (mss_one (ms_break)) (mss_nil)) (mss_cons (ms_expr (me_mt 1 PySem.F.slot_list_append PySem.F.type_list_append mt_append mts_app (ma_d (me_op op_addD s_add (mq_d (me_op op_mod s_mod (mq_d (me_bltT call_int1 b_int (ma_r 2 (ma_nil)) T.f_int (by decide +kernel))) (mq_d (me_int)))) (mq_d (me_int))) (ma_nil)))) (mss_one (ms_set 2 (me_op op_fdiv s_div (mq_r 2) (mq_d (me_int))) sc.nd))))) (mss_one (ms_retO (mo_op op_cat s_cat (mq_r 1) (mq_f (mo_lst (ma_d (me_var 2) (ma_nil)))))))))
theorem sc__law_sign : FnScope ["sign", "signs", "at"] ["sign"] (defScope (top 32)) := ⟨rfl, rfl, rfl, by decide +kernel, rfl, by decide +kernel, by decide +kernel⟩
theorem w__law_sign (T : Txt K mg) {fd : FuncData} (F : FunD K "_law_sign" "_law_sign" (defArgs (top 32)) (defBody (top 32)) (defScope (top 32)) [] [] (ga K "_law_sign") fd) : Cal P w K mg base (ga K) 1 "_law_sign" 1 F__law_sign :=
  calD F T.d__law_sign sc__law_sign (fun _ _ _ _ _ _ us hl => match us, hl with | [_], _ => rfl) fun cdv A outer s H E hr => by
    have hu := hr.units
    have hu1 := Nat.lt_of_le_of_lt (Nat.add_le_add_left (by decide : 1 ≤ 64) _) hu
    have sc := sc__law_sign
    exact mss_cons (ms_set 1 (me_op op_addD s_add (mq_d (me_str)) (mq_d (me_str))) sc.nd) (mss_cons (ms_set 1 (me_op op_addD s_add (mq_r 1) (mq_d (me_str))) sc.nd) (mss_cons (ms_set 2 (me_index (me_var 1) (me_var 0)) sc.nd) (mss_one (ms_ret (me_op op_addD s_add (mq_d (me_op op_addD s_add (mq_d (me_int)) (mq_r 2))) (mq_d (me_bltT call_int1 b_int (ma_d (me_cmp op_gt s_gt (mq_r 2) (mq_d (me_int))) (ma_nil)) T.f_int (by decide +kernel))))))))
theorem sc__law_sealed : FnScope ["body", "total", "k"] ["body"] (defScope (top 33)) := ⟨rfl, rfl, rfl, by decide +kernel, rfl, by decide +kernel, by decide +kernel⟩
theorem w__law_sealed (T : Txt K mg) {fd : FuncData} (F : FunD K "_law_sealed" "_law_sealed" (defArgs (top 33)) (defBody (top 33)) (defScope (top 33)) [] [] (ga K "_law_sealed") fd) : Cal P w K mg base (ga K) 1 "_law_sealed" 1 F__law_sealed :=
  calD F T.d__law_sealed sc__law_sealed (fun _ _ _ _ _ _ us hl => match us, hl with | [_], _ => rfl) fun cdv A outer s H E hr => by
    have hu := hr.units
    have hu1 := Nat.lt_of_le_of_lt (Nat.add_le_add_left (by decide : 1 ≤ 64) _) hu
    have sc := sc__law_sealed
    exact mss_cons (ms_set 1 (me_int) sc.nd) (mss_cons (ms_for (mi_range1 (ma_d (me_blt call_len b_len (ma_r 0 (ma_nil)) T.f_len (by decide +kernel)) (ma_nil)) T.f_range) (mg_name 2 sc.nd) (mss_one (ms_set 1 (me_op op_addD s_add (mq_r 1) (mq_d (me_op op_mul s_mul (mq_d (me_ix ix_seq s_ix (mq_r 0) (mq_r 2))) (mq_d (me_op op_addD s_add (mq_r 2) (mq_d (me_int))))))) sc.nd))) (mss_one (ms_ret (me_bltT call_tuple_of b_tup (ma_f (mo_op op_cat s_cat (mq_r 0) (mq_f (mo_lst (ma_d (me_op op_mod s_mod (mq_d (me_bltT call_int1 b_int (ma_r 1 (ma_nil)) T.f_int (by decide +kernel))) (mq_d (me_int))) (ma_nil))))) (ma_nil)) T.f_tuple (by decide +kernel)))))
theorem sc__law_octets : FnScope ["thing", "found", "waiting", "k", "here", "sign"] ["thing"] (defScope (top 34)) := ⟨rfl, rfl, rfl, by decide +kernel, rfl, by decide +kernel, by decide +kernel⟩
theorem w__law_octets (T : Txt K mg) (K__law_sealed : Cal P w K mg base (ga K) 1 "_law_sealed" 1 F__law_sealed) (K__law_sevens : Cal P w K mg base (ga K) 1 "_law_sevens" 1 F__law_sevens) (K__law_sign : Cal P w K mg base (ga K) 1 "_law_sign" 1 F__law_sign) {fd : FuncData} (F : FunD K "_law_octets" "_law_octets" (defArgs (top 34)) (defBody (top 34)) (defScope (top 34)) [] [] (ga K "_law_octets") fd) : Cal P w K mg base (ga K) 2 "_law_octets" 1 F__law_octets :=
  calD F T.d__law_octets sc__law_octets (fun _ _ _ _ _ _ us hl => match us, hl with | [_], _ => rfl) fun cdv A outer s H E hr => by
    have hu := hr.units
    have hu1 := Nat.lt_of_le_of_lt (Nat.add_le_add_left (by decide : 1 ≤ 64) _) hu
    have sc := sc__law_octets
    exact mss_cons (ms_setO 1 (mo_lst (ma_d (me_int) (ma_d (me_int) (ma_d (me_int) (ma_nil))))) sc.nd) (mss_cons (ms_setO 2 (mo_lst (ma_d (me_var 0) (ma_nil))) sc.nd) (mss_cons (ms_for (mi_range1 (ma_d (me_int) (ma_nil)) T.f_range) (mg_name 3 sc.nd) (mss_cons (ms_if (mt_cmp (op_eqD hu) s_eq (mq_r 2) (mq_f (mo_lst (ma_nil)))) (mss_one (ms_break)) (mss_nil)) (mss_cons (ms_set 4 (me_mt0 2 PySem.F.slot_list_pop PySem.F.type_list_pop mt_pop mts_pop) sc.nd) (mss_one (ms_if (mt_cmp op_isN s_isN (mq_r 4) (mq_d (me_non))) (mss_one (ms_expr (me_mt 1 PySem.F.slot_list_append PySem.F.type_list_append mt_append mts_app (ma_d (me_int) (ma_nil))))) (mss_one (ms_if (mt_val (me_isi (me_var 4) T.f_isinstance T.f_bool tyK_bool (by decide +kernel))) (mss_one (ms_expr (me_mt 1 PySem.F.slot_list_append PySem.F.type_list_append mt_append mts_app (ma_d (me_ix ix_seq s_ix (mq_f (mo_lst (ma_d (me_int) (ma_d (me_int) (ma_nil))))) (mq_d (me_bltT call_int1 b_int (ma_r 4 (ma_nil)) T.f_int (by decide +kernel)))) (ma_nil))))) (mss_one (ms_if (mt_val (me_isi (me_var 4) T.f_isinstance T.f_int tyK_int (by decide +kernel))) (mss_one (ms_setO 1 (mo_op op_cat s_cat (mq_f (mo_op op_cat s_cat (mq_r 1) (mq_f (mo_lst (ma_d (me_int) (ma_nil)))))) (mq_d (me_c (mc_call (K__law_sevens.mono (by decide)) hr (ma_d (me_if (mt_cmp op_ge s_ge (mq_r 4) (mq_d (me_int))) (me_op op_mul s_mul (mq_d (me_int)) (mq_r 4)) (me_op op_sub s_sub (mq_d (me_op op_mul s_mul (mq_d (me_neg (me_int))) (mq_r 4))) (mq_d (me_int)))) (ma_nil)) (hlen := len_d (len_nil)))))) sc.nd)) (mss_one (ms_if (mt_val (me_isi (me_var 4) T.f_isinstance T.f_str tyK_str (by decide +kernel))) (mss_one (ms_setO 1 (mo_op op_cat s_cat (mq_f (mo_op op_cat s_cat (mq_f (mo_op op_cat s_cat (mq_r 1) (mq_f (mo_lst (ma_d (me_int) (ma_nil)))))) (mq_d (me_c (mc_call (K__law_sevens.mono (by decide)) hr (ma_d (me_blt call_len b_len (ma_r 4 (ma_nil)) T.f_len (by decide +kernel)) (ma_nil)) (hlen := len_d (len_nil))))))) (mq_f (mo_lc sc.nd (own := [("sign", 5)]) (mi_any (me_var 4)) (show BlkOk ["thing", "found", "waiting", "k", "here", "sign"] (defScope (top 34)) _ _ from ⟨rfl, by decide +kernel, by decide +kernel, by decide +kernel, by decide +kernel⟩) (fun _ _ _ _ _ => mg_name 5 sc.nd) (fun _ _ _ _ _ => mts_nil) (fun _ _ _ _ _ => me_c (mc_call (K__law_sign.mono (by decide)) hr (ma_d (me_var 5) (ma_nil)) (hlen := len_d (len_nil))))))) sc.nd)) (mss_cons (ms_setO 1 (mo_op op_cat s_cat (mq_f (mo_op op_cat s_cat (mq_r 1) (mq_f (mo_lst (ma_d (me_int) (ma_nil)))))) (mq_d (me_c (mc_call (K__law_sevens.mono (by decide)) hr (ma_d (me_blt call_len b_len (ma_r 4 (ma_nil)) T.f_len (by decide +kernel)) (ma_nil)) (hlen := len_d (len_nil)))))) sc.nd) (mss_one (ms_expr (me_mt 2 PySem.F.slot_list_extend PySem.F.type_list_extend mt_extend mts_ext (ma_f (mo_listRt (me_var 4) T.f_list T.f_reversed) (ma_nil))))))))))))))))) (mss_one (ms_ret (me_c (mc_call (K__law_sealed.mono (by decide)) hr (ma_d (me_var 1) (ma_nil)) (hlen := len_d (len_nil))))))))
theorem sc__law_plain : FnScope ["number", "signs", "way", "rest", "k"] ["number"] (defScope (top 35)) := ⟨rfl, rfl, rfl, by decide +kernel, rfl, by decide +kernel, by decide +kernel⟩
theorem w__law_plain (T : Txt K mg) {fd : FuncData} (F : FunD K "_law_plain" "_law_plain" (defArgs (top 35)) (defBody (top 35)) (defScope (top 35)) [] [] (ga K "_law_plain") fd) : Cal P w K mg base (ga K) 1 "_law_plain" 1 F__law_plain :=
  calD F T.d__law_plain sc__law_plain (fun _ _ _ _ _ _ us hl => match us, hl with | [_], _ => rfl) fun cdv A outer s H E hr => by
    have hu := hr.units
    have hu1 := Nat.lt_of_le_of_lt (Nat.add_le_add_left (by decide : 1 ≤ 64) _) hu
    have sc := sc__law_plain
    exact mss_cons (ms_set 1 (me_str) sc.nd) (mss_cons (ms_set 2 (me_op op_mod s_mod (mq_d (me_bltT call_int1 b_int (ma_r 0 (ma_nil)) T.f_int (by decide +kernel))) (mq_d (me_int))) sc.nd) (mss_cons (ms_set 3 (me_op op_fdiv s_div (mq_d (me_bltT call_int1 b_int (ma_r 0 (ma_nil)) T.f_int (by decide +kernel))) (mq_d (me_int))) sc.nd) (mss_cons (ms_if (mt_cmp op_lt s_lt (mq_r 2) (mq_d (me_int))) (mss_one (ms_ret (me_ix ix_seq s_ix (mq_f (mo_lst (ma_d (me_op op_sub s_sub (mq_d (me_op op_mod s_mod (mq_r 3) (mq_d (me_int)))) (mq_d (me_int))) (ma_d (me_var 3) (ma_d (me_op op_sub s_sub (mq_d (me_op op_mul s_mul (mq_d (me_neg (me_var 3))) (mq_d (me_op op_pow s_pow (mq_d (me_int)) (mq_d (me_int)))))) (mq_r 3)) (ma_nil)))))) (mq_r 2)))) (mss_nil)) (mss_cons (ms_if (mt_cmp (op_eqD hu) s_eq (mq_r 2) (mq_d (me_int))) (mss_one (ms_ret (me_ix ix_seq s_ix (mq_f (mo_lst (ma_d (me_bl) (ma_d (me_bl) (ma_d (me_non) (ma_nil)))))) (mq_d (me_op op_mod s_mod (mq_r 3) (mq_d (me_int))))))) (mss_nil)) (mss_cons (ms_if (mt_cmp (op_eqD hu) s_eq (mq_r 2) (mq_d (me_int))) (mss_one (ms_ret (me_str))) (mss_nil)) (mss_cons (ms_if (mt_cmp (op_eqD hu) s_eq (mq_r 2) (mq_d (me_int))) (mss_one (ms_ret (me_join (me_str) (mq_f (mo_lc sc.nd (own := [("k", 4)]) (mi_range1 (ma_d (me_op op_mod s_mod (mq_r 3) (mq_d (me_int))) (ma_nil)) T.f_range) (show BlkOk ["number", "signs", "way", "rest", "k"] (defScope (top 35)) _ _ from ⟨rfl, by decide +kernel, by decide +kernel, by decide +kernel, by decide +kernel⟩) (fun _ _ _ _ _ => mg_name 4 sc.nd) (fun _ _ _ _ _ => mts_nil) (fun _ _ _ _ _ => me_ix ix_seq s_ix (mq_r 1) (mq_d (me_op op_mod s_mod (mq_d (me_op op_addD s_add (mq_r 3) (mq_d (me_op op_mul s_mul (mq_d (me_int)) (mq_r 4))))) (mq_d (me_blt call_len b_len (ma_r 1 (ma_nil)) T.f_len (by decide +kernel))))))))))) (mss_nil)) (mss_cons (ms_if (mt_cmp (op_eqD hu) s_eq (mq_r 2) (mq_d (me_int))) (mss_one (ms_ret (me_op op_mulS s_mulS (mq_d (me_str)) (mq_d (me_op op_mod s_mod (mq_r 3) (mq_d (me_int))))))) (mss_nil)) (mss_cons (ms_if (mt_cmp (op_eqD hu) s_eq (mq_r 2) (mq_d (me_int))) (mss_one (ms_ret (me_tup (ma_nil)))) (mss_nil)) (mss_one (ms_ret (me_ix ix_seq s_ix (mq_f (mo_lst (ma_d (me_int) (ma_d (me_int) (ma_d (me_int) (ma_d (me_int) (ma_d (me_int) (ma_d (me_neg (me_int)) (ma_d (me_neg (me_int)) (ma_d (me_neg (me_int)) (ma_d (me_op op_pow s_pow (mq_d (me_int)) (mq_d (me_int))) (ma_d (me_neg (me_op op_pow s_pow (mq_d (me_int)) (mq_d (me_int)))) (ma_nil))))))))))))) (mq_d (me_op op_mod s_mod (mq_r 3) (mq_d (me_int)))))))))))))))
theorem sc__law_thing : FnScope ["xs", "pool", "k", "number", "some"] ["xs"] (defScope (top 36)) := ⟨rfl, rfl, rfl, by decide +kernel, rfl, by decide +kernel, by decide +kernel⟩
theorem w__law_thing (T : Txt K mg) (K__law_plain : Cal P w K mg base (ga K) 1 "_law_plain" 1 F__law_plain) {fd : FuncData} (F : FunD K "_law_thing" "_law_thing" (defArgs (top 36)) (defBody (top 36)) (defScope (top 36)) [] [] (ga K "_law_thing") fd) : Cal P w K mg base (ga K) 2 "_law_thing" 1 F__law_thing :=
  calD F T.d__law_thing sc__law_thing (fun _ _ _ _ _ _ us hl => match us, hl with | [_], _ => rfl) fun cdv A outer s H E hr => by
    have hu := hr.units
    have hu1 := Nat.lt_of_le_of_lt (Nat.add_le_add_left (by decide : 1 ≤ 64) _) hu
    have sc := sc__law_thing
    exact mss_cons (ms_setO 1 (mo_lst (ma_d (me_c (mc_call (K__law_plain.mono (by decide)) hr (ma_d (me_ix ix_seq s_ix (mq_r 0) (mq_d (me_int))) (ma_nil)) (hlen := len_d (len_nil)))) (ma_nil))) sc.nd) (mss_cons (ms_for (mi_range1 (ma_d (me_op op_mod s_mod (mq_d (me_bltT call_int1 b_int (ma_d (me_ix ix_seq s_ix (mq_r 0) (mq_d (me_int))) (ma_nil)) T.f_int (by decide +kernel))) (mq_d (me_int))) (ma_nil)) T.f_range) (mg_name 2 sc.nd) (mss_cons (ms_set 3 (me_bltT call_int1 b_int (ma_d (me_ix ix_seq s_ix (mq_r 0) (mq_d (me_op op_addD s_add (mq_d (me_int)) (mq_r 2)))) (ma_nil)) T.f_int (by decide +kernel)) sc.nd) (mss_one (ms_if (mt_cmp (op_eqD hu) s_eq (mq_d (me_op op_mod s_mod (mq_r 3) (mq_d (me_int)))) (mq_d (me_int))) (mss_cons (ms_set 4 (me_op op_addD s_add (mq_d (me_int)) (mq_d (me_op op_mod s_mod (mq_d (me_op op_fdiv s_div (mq_r 3) (mq_d (me_int)))) (mq_d (me_int))))) sc.nd) (mss_one (ms_setO 1 (mo_op op_cat s_cat (mq_f (mo_slice sl_list s_slL (mq_r 1) (mpt_none) (mpt_some (me_op op_sub s_sub (mq_d (me_blt call_len b_len (ma_r 1 (ma_nil)) T.f_len (by decide +kernel))) (mq_d (me_blt (call_min2 rfl) b_min (ma_r 4 (ma_d (me_blt call_len b_len (ma_r 1 (ma_nil)) T.f_len (by decide +kernel)) (ma_nil))) T.f_min (by decide +kernel))))))) (mq_f (mo_lst (ma_d (me_bltT call_tuple_of b_tup (ma_f (mo_slice sl_list s_slL (mq_r 1) (mpt_some (me_op op_sub s_sub (mq_d (me_blt call_len b_len (ma_r 1 (ma_nil)) T.f_len (by decide +kernel))) (mq_d (me_blt (call_min2 rfl) b_min (ma_r 4 (ma_d (me_blt call_len b_len (ma_r 1 (ma_nil)) T.f_len (by decide +kernel)) (ma_nil))) T.f_min (by decide +kernel))))) (mpt_none)) (ma_nil)) T.f_tuple (by decide +kernel)) (ma_nil))))) sc.nd))) (mss_one (ms_expr (me_mt 1 PySem.F.slot_list_append PySem.F.type_list_append mt_append mts_app (ma_d (me_c (mc_call (K__law_plain.mono (by decide)) hr (ma_d (me_op op_fdiv s_div (mq_r 3) (mq_d (me_int))) (ma_nil)) (hlen := len_d (len_nil)))) (ma_nil))))))))) (mss_one (ms_ret (me_if (mt_cmp op_gt s_gt (mq_d (me_op op_mod s_mod (mq_d (me_bltT call_int1 b_int (ma_d (me_ix ix_seq s_ix (mq_r 0) (mq_d (me_int))) (ma_nil)) T.f_int (by decide +kernel))) (mq_d (me_int)))) (mq_d (me_int))) (me_bltT call_tuple_of b_tup (ma_r 1 (ma_nil)) T.f_tuple (by decide +kernel)) (me_ix ix_seq s_ix (mq_r 1) (mq_d (me_neg (me_int))))))))
theorem sc__law_same : FnScope ["found", "due", "pairs", "depth", "below", "one", "other", "k"] ["found", "due"] (defScope (top 37)) := ⟨rfl, rfl, rfl, by decide +kernel, rfl, by decide +kernel, by decide +kernel⟩
theorem w__law_same (T : Txt K mg) {fd : FuncData} (F : FunD K "_law_same" "_law_same" (defArgs (top 37)) (defBody (top 37)) (defScope (top 37)) [] [] (ga K "_law_same") fd) : Cal P w K mg base (ga K) 1 "_law_same" 2 F__law_same :=
  calD F T.d__law_same sc__law_same (fun _ _ _ _ _ _ us hl => match us, hl with | [_, _], _ => rfl) fun cdv A outer s H E hr => by
    have hu := hr.units
    have hu1 := Nat.lt_of_le_of_lt (Nat.add_le_add_left (by decide : 1 ≤ 64) _) hu
    have sc := sc__law_same
    exact mss_cons (ms_set 2 (me_o (mo_lst (ma_d (me_tup (ma_d (me_var 0) (ma_d (me_var 1) (ma_nil)))) (ma_nil)))) sc.nd) (mss_cons (ms_for (mi_range1 (ma_d (me_int) (ma_nil)) T.f_range) (mg_name 3 sc.nd) (mss_cons (ms_setO 4 (mo_lst (ma_nil)) sc.nd) (mss_cons (ms_for (mi_any (me_var 2)) (mg_tup (mgs_cons (mg_name 5 sc.nd) (mgs_cons (mg_name 6 sc.nd) (mgs_nil))) (gCons_len (gCons_len (gNil_len)))) (mss_one (ms_if (mt_val (me_isi (me_var 6) T.f_isinstance T.f_tuple tyK_tuple (by decide +kernel))) (mss_cons (ms_if (mw_mt (mw_or (mt_not (mt_val (me_isi (me_var 5) T.f_isinstance T.f_tuple tyK_tuple (by decide +kernel)))) (mw_or1 (mt_cmp (op_neD hu) s_ne (mq_d (me_blt call_len b_len (ma_r 5 (ma_nil)) T.f_len (by decide +kernel))) (mq_d (me_blt call_len b_len (ma_r 6 (ma_nil)) T.f_len (by decide +kernel))))))) (mss_one (ms_ret (me_bl))) (mss_nil)) (mss_one (ms_expr (me_mt 4 PySem.F.slot_list_extend PySem.F.type_list_extend mt_extend mts_ext (ma_f (mo_lc sc.nd (own := [("k", 7)]) (mi_range1 (ma_d (me_blt call_len b_len (ma_r 6 (ma_nil)) T.f_len (by decide +kernel)) (ma_nil)) T.f_range) (show BlkOk ["found", "due", "pairs", "depth", "below", "one", "other", "k"] (defScope (top 37)) _ _ from ⟨rfl, by decide +kernel, by decide +kernel, by decide +kernel, by decide +kernel⟩) (fun _ _ _ _ _ => mg_name 7 sc.nd) (fun _ _ _ _ _ => mts_nil) (fun _ _ _ _ _ => me_tup (ma_d (me_ix ix_seq s_ix (mq_r 5) (mq_r 7)) (ma_d (me_ix ix_seq s_ix (mq_r 6) (mq_r 7)) (ma_nil))))) (ma_nil)))))) (mss_one (ms_if (mt_cmp op_isN s_isN (mq_r 6) (mq_d (me_non))) (mss_one (ms_if (mt_cmp op_notN s_notN (mq_r 5) (mq_d (me_non))) (mss_one (ms_ret (me_bl))) (mss_nil))) (mss_one (ms_if (mt_cmp (op_neD hu) s_ne (mq_d (me_isi (me_var 5) T.f_isinstance T.f_bool tyK_bool (by decide +kernel))) (mq_d (me_isi (me_var 6) T.f_isinstance T.f_bool tyK_bool (by decide +kernel)))) (mss_one (ms_ret (me_bl))) (mss_one (ms_if (mt_cmp (op_neD hu) s_ne (mq_d (me_isi (me_var 5) T.f_isinstance T.f_str tyK_str (by decide +kernel))) (mq_d (me_isi (me_var 6) T.f_isinstance T.f_str tyK_str (by decide +kernel)))) (mss_one (ms_ret (me_bl))) (mss_one (ms_if (mw_mt (mw_or (mt_cmp (op_neD hu) s_ne (mq_d (me_isi (me_var 5) T.f_isinstance T.f_int tyK_int (by decide +kernel))) (mq_d (me_isi (me_var 6) T.f_isinstance T.f_int tyK_int (by decide +kernel)))) (mw_or1 (mt_cmp (op_neD hu) s_ne (mq_r 5) (mq_r 6))))) (mss_one (ms_ret (me_bl))) (mss_nil)))))))))))) (mss_one (ms_set 2 (me_var 4) sc.nd))))) (mss_one (ms_ret (me_cmp (op_eqD hu) s_eq (mq_r 2) (mq_f (mo_lst (ma_nil)))))))
theorem sc__law_told : FnScope ["thing", "word", "found", "e"] ["thing"] (defScope (top 38)) := ⟨rfl, rfl, rfl, by decide +kernel, rfl, by decide +kernel, by decide +kernel⟩
theorem w__law_told (T : Txt K mg) (K_octets_of : Cal P w K mg base (ga K) 4 "octets_of" 1 F_octets_of) {fd : FuncData} (F : FunD K "_law_told" "_law_told" (defArgs (top 38)) (defBody (top 38)) (defScope (top 38)) [] [] (ga K "_law_told") fd) : Cal P w K mg base (ga K) 5 "_law_told" 1 F__law_told :=
  calD F T.d__law_told sc__law_told (fun _ _ _ _ _ _ us hl => match us, hl with | [_], _ => rfl) fun cdv A outer s H E hr => by
    have hu := hr.units
    have hu1 := Nat.lt_of_le_of_lt (Nat.add_le_add_left (by decide : 1 ≤ 64) _) hu
    have sc := sc__law_told
    exact mss_cons (ms_set 1 (me_str) sc.nd) (mss_cons (ms_set 2 (me_non) sc.nd) (mss_cons (ms_try_as 3 ⟨rfl, by decide, .inl T.a_NoThing⟩ T.t_NoThing (fun _ _ => mss_one (ms_set 2 (me_c (mc_call (K_octets_of.mono (by decide)) hr (ma_d (me_var 0) (ma_nil)) (hlen := len_d (len_nil)))) sc.nd)) (fun c a oe pn hc hz hf => by have hc := ex_NoThing_eq hc; subst hc; exact mss_cons (ms_set 1 (me_str) sc.nd) (mss_one (ms_if (mw_mt (mw_or (mt_not (mt_val (me_isE 3 T.x_NoThing hz hf (by intro u h; exact h) T.q_NoThing_ShapeError T.f_isinstance (pe_glob (v := .ref (ga K "ShapeError")) rfl T.a_ShapeError rfl)))) (mw_or (mt_not (mt_val (me_isE 3 T.x_NoThing hz hf (by intro u h; exact h) T.q_NoThing_ValueError T.f_isinstance (pe_bltn (v := .ty "ValueError") rfl T.f_ValueError (by decide +kernel) rfl (by decide) (by decide))))) (mw_or1 (mt_val (me_isE 3 T.x_NoThing hz hf (by intro u h; exact h) T.q_NoThing_BadOctets T.f_isinstance (pe_glob (v := .ref (ga K "BadOctets")) rfl T.a_BadOctets rfl))))))) (mss_one (ms_set 1 (me_str) sc.nd)) (mss_nil)))) sc.nd) (mss_one (ms_ret (me_tup (ma_d (me_var 1) (ma_d (me_var 2) (ma_nil))))))))
theorem sc_law : FnScope ["script", "things", "k", "thing", "octets", "xs", "bad", "odd", "one", "other"] ["script"] (defScope (top 39)) := ⟨rfl, rfl, rfl, by decide +kernel, rfl, by decide +kernel, by decide +kernel⟩
theorem fok_law (T : Txt K mg) (K__law_thing : Cal P w K mg base (ga K) 2 "_law_thing" 1 F__law_thing) (K__law_octets : Cal P w K mg base (ga K) 2 "_law_octets" 1 F__law_octets) (K__law_numbers : Cal P w K mg base (ga K) 1 "_law_numbers" 2 F__law_numbers) (K__law_told : Cal P w K mg base (ga K) 5 "_law_told" 1 F__law_told) (K__law_same : Cal P w K mg base (ga K) 1 "_law_same" 2 F__law_same) (K_thing_of : Cal P w K mg base (ga K) 9 "thing_of" 1 F_thing_of) (K_octets_of : Cal P w K mg base (ga K) 4 "octets_of" 1 F_octets_of) {fd : FuncData} (F : FunD K "law" "law" (defArgs (top 39)) (defBody (top 39)) (defScope (top 39)) [] [] (ga K "law") fd) : FnOk P w K mg base (L2.CX P w) 10 (ga K "law") fd ["script"] (spM K (ga K) 1 F_law) :=
  fnMD F sc_law (by decide) fun cdv A outer s H E hr => by
    have hu := hr.units
    have hu1 := Nat.lt_of_le_of_lt (Nat.add_le_add_left (by decide : 1 ≤ 64) _) hu
    have sc := sc_law
    exact mss_cons (ms_setO 1 (mo_lst (ma_nil)) sc.nd) (mss_cons (ms_for (mi_range1 (ma_d (me_int) (ma_nil)) T.f_range) (mg_name 2 sc.nd) (mss_cons (ms_set 3 (me_c (mc_call (K__law_thing.mono (by decide)) hr (ma_d (me_c (mc_call (K__law_numbers.mono (by decide)) hr (ma_r 0 (ma_d (me_var 2) (ma_nil))) (hlen := len_r (len_d (len_nil))))) (ma_nil)) (hlen := len_d (len_nil)))) sc.nd) (mss_cons (ms_set 4 (me_c (mc_call (K__law_octets.mono (by decide)) hr (ma_d (me_var 3) (ma_nil)) (hlen := len_d (len_nil)))) sc.nd) (mss_cons (ms_if (mw_mt (mw_or (mt_not (mt_val (me_c (mc_call (K__law_same.mono (by decide)) hr (ma_d (me_c (mc_call (K__law_told.mono (by decide)) hr (ma_d (me_var 3) (ma_nil)) (hlen := len_d (len_nil)))) (ma_d (me_tup (ma_d (me_str) (ma_d (me_var 4) (ma_nil)))) (ma_nil))) (hlen := len_d (len_d (len_nil))))))) (mw_or1 (mt_not (mt_val (me_c (mc_call (K__law_same.mono (by decide)) hr (ma_d (me_c (mc_call (K_thing_of.mono (by decide)) hr (ma_d (me_var 4) (ma_nil)) (hlen := len_d (len_nil)))) (ma_d (me_var 3) (ma_nil))) (hlen := len_d (len_d (len_nil)))))))))) (mss_one (ms_ret (me_bl))) (mss_nil)) (mss_cons (ms_expr (me_mt 1 PySem.F.slot_list_append PySem.F.type_list_append mt_append mts_app (ma_r 3 (ma_nil)))) (mss_cons (ms_set 5 (me_c (mc_call (K__law_numbers.mono (by decide)) hr (ma_r 0 (ma_d (me_op op_addD s_add (mq_d (me_int)) (mq_r 2)) (ma_nil))) (hlen := len_r (len_d (len_nil))))) sc.nd) (mss_cons (ms_set 6 (me_ix ix_seq s_ix (mq_f (mo_lst (ma_d (me_o (mo_lst (ma_nil))) (ma_d (me_o (mo_lst (ma_d (me_var 3) (ma_nil)))) (ma_d (me_o (mo_disp (mps_cons (me_str) (me_int) (mps_nil)))) (ma_d (me_str) (ma_d (me_str) (ma_d (me_o (mo_dict0)) (ma_d (me_o (mo_lst (ma_d (me_int) (ma_nil)))) (ma_d (me_o (mo_disp (mps_cons (me_str) (me_var 3) (mps_nil)))) (ma_nil))))))))))) (mq_d (me_op op_mod s_mod (mq_d (me_bltT call_int1 b_int (ma_d (me_ix ix_seq s_ix (mq_r 5) (mq_d (me_int))) (ma_nil)) T.f_int (by decide +kernel))) (mq_d (me_int))))) sc.nd) (mss_cons (ms_set 7 (me_ix ix_seq s_ix (mq_f (mo_lst (ma_d (me_var 6) (ma_d (me_tup (ma_d (me_var 3) (ma_d (me_var 6) (ma_nil)))) (ma_d (me_tup (ma_d (me_var 6) (ma_d (me_var 3) (ma_nil)))) (ma_d (me_tup (ma_d (me_tup (ma_nil)) (ma_d (me_tup (ma_d (me_var 6) (ma_nil))) (ma_nil)))) (ma_d (me_tup (ma_d (me_int) (ma_d (me_tup (ma_d (me_int) (ma_d (me_tup (ma_d (me_int) (ma_d (me_var 6) (ma_nil)))) (ma_nil)))) (ma_nil)))) (ma_nil)))))))) (mq_d (me_op op_mod s_mod (mq_d (me_bltT call_int1 b_int (ma_d (me_ix ix_seq s_ix (mq_r 5) (mq_d (me_int))) (ma_nil)) T.f_int (by decide +kernel))) (mq_d (me_int))))) sc.nd) (mss_one (ms_if (mt_cmp (op_neD hu) s_ne (mq_d (me_c (mc_call (K__law_told.mono (by decide)) hr (ma_d (me_var 7) (ma_nil)) (hlen := len_d (len_nil))))) (mq_d (me_tup (ma_d (me_str) (ma_d (me_non) (ma_nil)))))) (mss_one (ms_ret (me_bl))) (mss_nil))))))))))) (mss_cons (ms_for (mi_any (me_var 1)) (mg_name 8 sc.nd) (mss_one (ms_for (mi_any (me_var 1)) (mg_name 9 sc.nd) (mss_one (ms_if (mt_cmp (op_neD hu) s_ne (mq_d (me_cmp (op_eqD hu) s_eq (mq_d (me_c (mc_call (K__law_octets.mono (by decide)) hr (ma_d (me_var 8) (ma_nil)) (hlen := len_d (len_nil))))) (mq_d (me_c (mc_call (K_octets_of.mono (by decide)) hr (ma_d (me_var 9) (ma_nil)) (hlen := len_d (len_nil))))))) (mq_d (me_c (mc_call (K__law_same.mono (by decide)) hr (ma_d (me_var 8) (ma_d (me_var 9) (ma_nil))) (hlen := len_d (len_d (len_nil))))))) (mss_one (ms_ret (me_bl))) (mss_nil)))))) (mss_one (ms_ret (me_bl)))))
end K62
end

section
set_option Elab.async false
set_option linter.all false
set_option maxRecDepth 100000
set_option maxHeartbeats 0
namespace K62
open PySem L2 ML He
def fn : List He.DefD := [⟨("is_integer", none), "is_integer", "is_integer", defArgs (top 5), defBody (top 5), defScope (top 5), [], []⟩,
  ⟨("is_within", none), "is_within", "is_within", defArgs (top 6), defBody (top 6), defScope (top 6), [], []⟩,
  ⟨("number_octets", none), "number_octets", "number_octets", defArgs (top 21), defBody (top 21), defScope (top 21), [], []⟩,
  ⟨("plain_octets", none), "plain_octets", "plain_octets", defArgs (top 22), defBody (top 22), defScope (top 22), [], []⟩,
  ⟨("check_octet", none), "check_octet", "check_octet", defArgs (top 23), defBody (top 23), defScope (top 23), [], []⟩,
  ⟨("raw_octets", none), "raw_octets", "raw_octets", defArgs (top 24), defBody (top 24), defScope (top 24), [], []⟩,
  ⟨("octets_of", none), "octets_of", "octets_of", defArgs (top 25), defBody (top 25), defScope (top 25), [], []⟩,
  ⟨("OctetReader", some "__init__"), "__init__", "OctetReader.__init__", defArgs (mth 26 0), defBody (mth 26 0), defScope (mth 26 0), [], []⟩,
  ⟨("OctetReader", some "take_octet"), "take_octet", "OctetReader.take_octet", defArgs (mth 26 1), defBody (mth 26 1), defScope (mth 26 1), [], []⟩,
  ⟨("OctetReader", some "take_number"), "take_number", "OctetReader.take_number", defArgs (mth 26 2), defBody (mth 26 2), defScope (mth 26 2), [], []⟩,
  ⟨("OctetReader", some "take_string"), "take_string", "OctetReader.take_string", defArgs (mth 26 3), defBody (mth 26 3), defScope (mth 26 3), [], []⟩,
  ⟨("OctetReader", some "take_integer"), "take_integer", "OctetReader.take_integer", defArgs (mth 26 4), defBody (mth 26 4), defScope (mth 26 4), [], []⟩,
  ⟨("OctetReader", some "take_plain"), "take_plain", "OctetReader.take_plain", defArgs (mth 26 5), defBody (mth 26 5), defScope (mth 26 5), [], []⟩,
  ⟨("OctetReader", some "take_thing"), "take_thing", "OctetReader.take_thing", defArgs (mth 26 6), defBody (mth 26 6), defScope (mth 26 6), [], []⟩,
  ⟨("raw_thing", none), "raw_thing", "raw_thing", defArgs (top 27), defBody (top 27), defScope (top 27), [], []⟩,
  ⟨("thing_of", none), "thing_of", "thing_of", defArgs (top 28), defBody (top 28), defScope (top 28), [], []⟩,
  ⟨("_law_numbers", none), "_law_numbers", "_law_numbers", defArgs (top 30), defBody (top 30), defScope (top 30), [], []⟩,
  ⟨("_law_sevens", none), "_law_sevens", "_law_sevens", defArgs (top 31), defBody (top 31), defScope (top 31), [], []⟩,
  ⟨("_law_sign", none), "_law_sign", "_law_sign", defArgs (top 32), defBody (top 32), defScope (top 32), [], []⟩,
  ⟨("_law_sealed", none), "_law_sealed", "_law_sealed", defArgs (top 33), defBody (top 33), defScope (top 33), [], []⟩,
  ⟨("_law_octets", none), "_law_octets", "_law_octets", defArgs (top 34), defBody (top 34), defScope (top 34), [], []⟩,
  ⟨("_law_plain", none), "_law_plain", "_law_plain", defArgs (top 35), defBody (top 35), defScope (top 35), [], []⟩,
  ⟨("_law_thing", none), "_law_thing", "_law_thing", defArgs (top 36), defBody (top 36), defScope (top 36), [], []⟩,
  ⟨("_law_same", none), "_law_same", "_law_same", defArgs (top 37), defBody (top 37), defScope (top 37), [], []⟩,
  ⟨("_law_told", none), "_law_told", "_law_told", defArgs (top 38), defBody (top 38), defScope (top 38), [], []⟩,
  ⟨("law", none), "law", "law", defArgs (top 39), defBody (top 39), defScope (top 39), [], []⟩,
  ⟨("NoThing", some "__init__"), "__init__", "NoThing.__init__", defArgs (mth 2 0), defBody (mth 2 0), defScope (mth 2 0), [], []⟩,
  ⟨("BadOctets", some "__init__"), "__init__", "BadOctets.__init__", defArgs (mth 3 0), defBody (mth 3 0), defScope (mth 3 0), [], []⟩]
def fa : List He.Fa := [.free "ValueError", .free "all", .free "bool", .free "enumerate", .free "int", .free "isinstance", .free "len", .free "list", .free "min", .free "ord", .free "range", .free "reversed", .free "str", .free "sum", .free "tuple", .glo "FIRST_OCTETS", .str "SIGNS" " !\"#$&'()*+,-./0123456789:;<=>?@ABCDEFGHIJKLMNOPQRSTUVWXYZ[\\]^_`abcdefghijklmnopqrstuvwxyz{|}~", .int "OF_INTEGER" 0, .int "OF_FALSE" 1, .int "OF_TRUE" 2, .int "OF_STRING" 3, .int "OF_TUPLE" 4, .int "OF_NONE" 5, .int "SEVEN_BITS" 128, .int "MODULUS" 251, .int "MOST_NUMBER_OCTETS" 64, .str "MAKE_TUPLE" "make", .str "READ_THING" "read", .glo "ShapeError", .glo "NoThing", .glo "BadOctets", .glo "is_integer", .glo "is_within", .glo "number_octets", .glo "plain_octets", .glo "check_octet", .glo "raw_octets", .glo "octets_of", .glo "raw_thing", .glo "thing_of", .glo "_law_numbers", .glo "_law_sevens", .glo "_law_sign", .glo "_law_sealed", .glo "_law_octets", .glo "_law_plain", .glo "_law_thing", .glo "_law_same", .glo "_law_told", .glo "law", .glo "OctetReader", .cls "OctetReader", .noat "OctetReader" "octets_told", .noat "OctetReader" "octet_at", .mkr "OctetReader", .meth "OctetReader" "take_octet", .meth "OctetReader" "take_number", .meth "OctetReader" "take_string", .meth "OctetReader" "take_integer", .meth "OctetReader" "take_plain", .meth "OctetReader" "take_thing", .exm "NoThing" "NoThing" true, .exm "BadOctets" "NoThing" false]
def ex (K : PySem.W.Frag) : Bool := [tupB K "FIRST_OCTETS" [.int 83, .int 82, .int 1],
  excCB K (ga K "NoThing"),
  decide (PySem.W.kitOne K (.ref (ga K "NoThing")) (.ref (ga K "ShapeError")) = some true),
  decide (PySem.W.kitOne K (.ref (ga K "NoThing")) (.type "ValueError") = some true),
  decide (PySem.W.kitOne K (.ref (ga K "NoThing")) (.ref (ga K "BadOctets")) = some false),
  oexB K (ga K "NoThing"),
  metB K (ga K "NoThing") "__init__",
  initB K (ga K "ShapeError"),
  oexB K (ga K "BadOctets"),
  metB K (ga K "BadOctets") "__init__"].all id
abbrev R : PySem.W.OpenRow := PySem.W.OpenLaw.row PySem.Challenge.rw_shaperoads_k62_whole_things_as_octets
abbrev hk : PySem.W.Hook := hookM [cStatics] 5 fa fn ex
def ob (s : PySem.W.SharedT) : AlM := obsM [cStatics] fa fn ex 5 (HandSHeadRun.getT s)
theorem ob_eq (s : PySem.W.SharedT) : ob s = hk.obs s.abs := obsM_eq (HandSHeadRun.getT_eq s)
def loose : List PySem.Str := (["ShapeError", "NoThing", "BadOctets", "is_integer", "is_within", "FIRST_OCTETS", "SIGNS", "OF_INTEGER", "OF_FALSE", "OF_TRUE", "OF_STRING", "OF_TUPLE", "OF_NONE", "SEVEN_BITS", "MODULUS", "MOST_NUMBER_OCTETS", "MAKE_TUPLE", "READ_THING", "number_octets", "plain_octets", "check_octet", "raw_octets", "octets_of", "OctetReader", "raw_thing", "thing_of", "_law_numbers", "_law_sevens", "_law_sign", "_law_sealed"] : List PySem.Str) ++ (["_law_octets", "_law_plain", "_law_thing", "_law_same", "_law_told"] : List PySem.Str)
theorem run (w : World) : HandSHeadRun.RunEq R (PySem.W.view R.prog [39]) hk ob 20000 loose w := by
  intro os
  kernel_rfl
section
variable {K : PySem.W.Frag} {h : Heap} {mg : Str → Option Value}
theorem ex_at (c : SaysM fa fn ex K) (i : Nat) {b : Bool} (hb : ([
  tupB K "FIRST_OCTETS" [.int 83, .int 82, .int 1],
  excCB K (ga K "NoThing"),
  decide (PySem.W.kitOne K (.ref (ga K "NoThing")) (.ref (ga K "ShapeError")) = some true),
  decide (PySem.W.kitOne K (.ref (ga K "NoThing")) (.type "ValueError") = some true),
  decide (PySem.W.kitOne K (.ref (ga K "NoThing")) (.ref (ga K "BadOctets")) = some false),
  oexB K (ga K "NoThing"),
  metB K (ga K "NoThing") "__init__",
  initB K (ga K "ShapeError"),
  oexB K (ga K "BadOctets"),
  metB K (ga K "BadOctets") "__init__"] : List Bool)[i]? = some b) : b = true := List.all_eq_true.mp c.more b (List.mem_of_getElem? hb)
theorem txt (X : K.In h) (G : h.Ns mainGlobals mg) (c : SaysM fa fn ex K) : Txt K mg where
  f_ValueError := free_ok X G (c.d.fact 0)
  f_all := free_ok X G (c.d.fact 1)
  f_bool := free_ok X G (c.d.fact 2)
  f_enumerate := free_ok X G (c.d.fact 3)
  f_int := free_ok X G (c.d.fact 4)
  f_isinstance := free_ok X G (c.d.fact 5)
  f_len := free_ok X G (c.d.fact 6)
  f_list := free_ok X G (c.d.fact 7)
  f_min := free_ok X G (c.d.fact 8)
  f_ord := free_ok X G (c.d.fact 9)
  f_range := free_ok X G (c.d.fact 10)
  f_reversed := free_ok X G (c.d.fact 11)
  f_str := free_ok X G (c.d.fact 12)
  f_sum := free_ok X G (c.d.fact 13)
  f_tuple := free_ok X G (c.d.fact 14)
  g_FIRST_OCTETS := ⟨_, glo_ok X G (c.d.fact 15), tup_data (tupB_ok (ex_at c 0 rfl) _) rfl⟩
  g_SIGNS := str_ok X G (c.d.fact 16)
  g_OF_INTEGER := int_ok X G (c.d.fact 17)
  g_OF_FALSE := int_ok X G (c.d.fact 18)
  g_OF_TRUE := int_ok X G (c.d.fact 19)
  g_OF_STRING := int_ok X G (c.d.fact 20)
  g_OF_TUPLE := int_ok X G (c.d.fact 21)
  g_OF_NONE := int_ok X G (c.d.fact 22)
  g_SEVEN_BITS := int_ok X G (c.d.fact 23)
  g_MODULUS := int_ok X G (c.d.fact 24)
  g_MOST_NUMBER_OCTETS := int_ok X G (c.d.fact 25)
  g_MAKE_TUPLE := str_ok X G (c.d.fact 26)
  g_READ_THING := str_ok X G (c.d.fact 27)
  a_ShapeError := glo_ok X G (c.d.fact 28)
  a_NoThing := glo_ok X G (c.d.fact 29)
  a_BadOctets := glo_ok X G (c.d.fact 30)
  d_is_integer := glo_ok X G (c.d.fact 31)
  d_is_within := glo_ok X G (c.d.fact 32)
  d_number_octets := glo_ok X G (c.d.fact 33)
  d_plain_octets := glo_ok X G (c.d.fact 34)
  d_check_octet := glo_ok X G (c.d.fact 35)
  d_raw_octets := glo_ok X G (c.d.fact 36)
  d_octets_of := glo_ok X G (c.d.fact 37)
  d_raw_thing := glo_ok X G (c.d.fact 38)
  d_thing_of := glo_ok X G (c.d.fact 39)
  d__law_numbers := glo_ok X G (c.d.fact 40)
  d__law_sevens := glo_ok X G (c.d.fact 41)
  d__law_sign := glo_ok X G (c.d.fact 42)
  d__law_sealed := glo_ok X G (c.d.fact 43)
  d__law_octets := glo_ok X G (c.d.fact 44)
  d__law_plain := glo_ok X G (c.d.fact 45)
  d__law_thing := glo_ok X G (c.d.fact 46)
  d__law_same := glo_ok X G (c.d.fact 47)
  d__law_told := glo_ok X G (c.d.fact 48)
  d_law := glo_ok X G (c.d.fact 49)
  a_OctetReader := glo_ok X G (c.d.fact 50)
  k_OctetReader := cls_ok (c.d.fact 51)
  n_OctetReader_octets_told := noat_ok (c.d.fact 52)
  n_OctetReader_octet_at := noat_ok (c.d.fact 53)
  i_OctetReader := mkr_ok (c.d.fact 54)
  h_OctetReader_take_octet := meth_ok (c.d.fact 55)
  h_OctetReader_take_number := meth_ok (c.d.fact 56)
  h_OctetReader_take_string := meth_ok (c.d.fact 57)
  h_OctetReader_take_integer := meth_ok (c.d.fact 58)
  h_OctetReader_take_plain := meth_ok (c.d.fact 59)
  h_OctetReader_take_thing := meth_ok (c.d.fact 60)
  t_NoThing := fun cc b e => by
    unfold ex_NoThing at e
    by_cases z61 : cc = "NoThing"
    · rw [if_pos z61] at e; cases e; rw [z61]; exact exm_ok (c.d.fact 61)
    rw [if_neg z61] at e
    by_cases z62 : cc = "BadOctets"
    · rw [if_pos z62] at e; cases e; rw [z62]; exact exm_ok (c.d.fact 62)
    rw [if_neg z62] at e
    cases e
  x_NoThing := excCB_ok (ex_at c 1 rfl)
  q_NoThing_ShapeError := of_decide_eq_true (ex_at c 2 rfl)
  q_NoThing_ValueError := of_decide_eq_true (ex_at c 3 rfl)
  q_NoThing_BadOctets := of_decide_eq_true (ex_at c 4 rfl)
end
section
variable {P : Program} {w : World} {K : PySem.W.Frag} {h : Heap} {mg : Str → Option Value}
theorem scx_NoThing : FnScope ["self"] ["self"] (defScope (mth 2 0)) := ⟨rfl, rfl, rfl, by decide +kernel, rfl, by decide +kernel, by decide +kernel⟩
theorem rz_NoThing {base : Heap} (T : Txt K mg) (c : SaysM fa fn ex K) : Rz P w K mg base (ga K) "NoThing" := by
  have OX := oexB_ok (ex_at c 5 rfl)
  have IB := initB_ok (ex_at c 7 rfl)
  have M := Bool.and_eq_true_iff.mp (ex_at c 6 rfl)
  obtain ⟨fd, F⟩ := c.d.def_ 26 rfl
  refine ⟨T.a_NoThing, OX, _, fd, ["self"], eqO_ok M.1, of_decide_eq_true M.2, fnID F scx_NoThing (fun cdv A outer s H E => ?_), FunD.bindsN F (fun _ _ _ _ _ _ us hl => match us, hl with | [_], _ => rfl)⟩
  exact pss_one (ps_expr (pe_ownI T.a_ShapeError IB (pa_cons (pe_var (i := 0) rfl (Or.inl rfl) (by decide) (by decide)) pa_nil)))
theorem scx_BadOctets : FnScope ["self"] ["self"] (defScope (mth 3 0)) := ⟨rfl, rfl, rfl, by decide +kernel, rfl, by decide +kernel, by decide +kernel⟩
theorem rz_BadOctets {base : Heap} (T : Txt K mg) (c : SaysM fa fn ex K) : Rz P w K mg base (ga K) "BadOctets" := by
  have OX := oexB_ok (ex_at c 8 rfl)
  have IB := initB_ok (ex_at c 7 rfl)
  have M := Bool.and_eq_true_iff.mp (ex_at c 9 rfl)
  obtain ⟨fd, F⟩ := c.d.def_ 27 rfl
  refine ⟨T.a_BadOctets, OX, _, fd, ["self"], eqO_ok M.1, of_decide_eq_true M.2, fnID F scx_BadOctets (fun cdv A outer s H E => ?_), FunD.bindsN F (fun _ _ _ _ _ _ us hl => match us, hl with | [_], _ => rfl)⟩
  exact pss_one (ps_expr (pe_ownI T.a_ShapeError IB (pa_cons (pe_var (i := 0) rfl (Or.inl rfl) (by decide) (by decide)) pa_nil)))
theorem facts (X : K.In h) (G : h.Ns mainGlobals mg) {f : Addr} (hfa : mg ("law" : Str) = some (.ref f)) (c : SaysM fa fn ex K) :
    ∃ fd : FuncData, (∀ (s : Shared) (v : Value), BindsTo s fd ⟨[v], []⟩ [("script", v)]) ∧ ∀ base : Heap, K.In base → base.Ns mainGlobals mg → FnOk P w K mg base (L2.CX P w) 10 f fd ["script"] (spM K (ga K) 1 F_law) := by
  have T := txt X G c
  obtain ⟨fd, FL⟩ := c.d.def_ 25 rfl
  have e := hfa.symm.trans T.d_law
  cases e
  refine ⟨fd, fun s v => FunD.bindsA (ps := ["script"]) FL (fun _ _ _ _ _ _ us hl => match us, hl with | [_], _ => rfl) s [v] rfl, fun base _ _ => ?_⟩
  have r_NoThing := rz_NoThing (P := P) (w := w) (base := base) T c
  have r_BadOctets := rz_BadOctets (P := P) (w := w) (base := base) T c
  obtain ⟨fd_is_integer, D_is_integer⟩ := c.d.def_ 0 rfl
  have K_is_integer := w_is_integer (P := P) (w := w) (base := base) T D_is_integer
  obtain ⟨fd_is_within, D_is_within⟩ := c.d.def_ 1 rfl
  have K_is_within := w_is_within (P := P) (w := w) (base := base) T K_is_integer D_is_within
  obtain ⟨fd_number_octets, D_number_octets⟩ := c.d.def_ 2 rfl
  have K_number_octets := w_number_octets (P := P) (w := w) (base := base) T D_number_octets
  obtain ⟨fd_plain_octets, D_plain_octets⟩ := c.d.def_ 3 rfl
  have K_plain_octets := w_plain_octets (P := P) (w := w) (base := base) T K_is_integer K_number_octets D_plain_octets
  obtain ⟨fd_check_octet, D_check_octet⟩ := c.d.def_ 4 rfl
  have K_check_octet := w_check_octet (P := P) (w := w) (base := base) T D_check_octet
  obtain ⟨fd_raw_octets, D_raw_octets⟩ := c.d.def_ 5 rfl
  have K_raw_octets := w_raw_octets (P := P) (w := w) (base := base) T K_plain_octets K_check_octet D_raw_octets
  obtain ⟨fd_octets_of, D_octets_of⟩ := c.d.def_ 6 rfl
  have K_octets_of := w_octets_of (P := P) (w := w) (base := base) T K_raw_octets r_NoThing D_octets_of
  obtain ⟨fd_OctetReader___init__, D_OctetReader___init__⟩ := c.d.def_ 7 rfl
  have mk_OctetReader := w_OctetReader___init__ (P := P) (w := w) (base := base) T D_OctetReader___init__
  obtain ⟨fd_OctetReader_take_octet, D_OctetReader_take_octet⟩ := c.d.def_ 8 rfl
  have M_OctetReader_take_octet := w_OctetReader_take_octet (P := P) (w := w) (base := base) T r_BadOctets D_OctetReader_take_octet
  obtain ⟨fd_OctetReader_take_number, D_OctetReader_take_number⟩ := c.d.def_ 9 rfl
  have M_OctetReader_take_number := w_OctetReader_take_number (P := P) (w := w) (base := base) T r_BadOctets M_OctetReader_take_octet D_OctetReader_take_number
  obtain ⟨fd_OctetReader_take_string, D_OctetReader_take_string⟩ := c.d.def_ 10 rfl
  have M_OctetReader_take_string := w_OctetReader_take_string (P := P) (w := w) (base := base) T M_OctetReader_take_number r_BadOctets D_OctetReader_take_string
  obtain ⟨fd_OctetReader_take_integer, D_OctetReader_take_integer⟩ := c.d.def_ 11 rfl
  have M_OctetReader_take_integer := w_OctetReader_take_integer (P := P) (w := w) (base := base) T M_OctetReader_take_number D_OctetReader_take_integer
  obtain ⟨fd_OctetReader_take_plain, D_OctetReader_take_plain⟩ := c.d.def_ 12 rfl
  have M_OctetReader_take_plain := w_OctetReader_take_plain (P := P) (w := w) (base := base) T M_OctetReader_take_integer M_OctetReader_take_string r_BadOctets D_OctetReader_take_plain
  obtain ⟨fd_OctetReader_take_thing, D_OctetReader_take_thing⟩ := c.d.def_ 13 rfl
  have M_OctetReader_take_thing := w_OctetReader_take_thing (P := P) (w := w) (base := base) T M_OctetReader_take_octet M_OctetReader_take_number r_BadOctets M_OctetReader_take_plain D_OctetReader_take_thing
  obtain ⟨fd_raw_thing, D_raw_thing⟩ := c.d.def_ 14 rfl
  have K_raw_thing := w_raw_thing (P := P) (w := w) (base := base) T M_OctetReader_take_thing r_BadOctets K_raw_octets mk_OctetReader K_is_within D_raw_thing
  obtain ⟨fd_thing_of, D_thing_of⟩ := c.d.def_ 15 rfl
  have K_thing_of := w_thing_of (P := P) (w := w) (base := base) T K_raw_thing D_thing_of
  obtain ⟨fd__law_numbers, D__law_numbers⟩ := c.d.def_ 16 rfl
  have K__law_numbers := w__law_numbers (P := P) (w := w) (base := base) T D__law_numbers
  obtain ⟨fd__law_sevens, D__law_sevens⟩ := c.d.def_ 17 rfl
  have K__law_sevens := w__law_sevens (P := P) (w := w) (base := base) T D__law_sevens
  obtain ⟨fd__law_sign, D__law_sign⟩ := c.d.def_ 18 rfl
  have K__law_sign := w__law_sign (P := P) (w := w) (base := base) T D__law_sign
  obtain ⟨fd__law_sealed, D__law_sealed⟩ := c.d.def_ 19 rfl
  have K__law_sealed := w__law_sealed (P := P) (w := w) (base := base) T D__law_sealed
  obtain ⟨fd__law_octets, D__law_octets⟩ := c.d.def_ 20 rfl
  have K__law_octets := w__law_octets (P := P) (w := w) (base := base) T K__law_sealed K__law_sevens K__law_sign D__law_octets
  obtain ⟨fd__law_plain, D__law_plain⟩ := c.d.def_ 21 rfl
  have K__law_plain := w__law_plain (P := P) (w := w) (base := base) T D__law_plain
  obtain ⟨fd__law_thing, D__law_thing⟩ := c.d.def_ 22 rfl
  have K__law_thing := w__law_thing (P := P) (w := w) (base := base) T K__law_plain D__law_thing
  obtain ⟨fd__law_same, D__law_same⟩ := c.d.def_ 23 rfl
  have K__law_same := w__law_same (P := P) (w := w) (base := base) T D__law_same
  obtain ⟨fd__law_told, D__law_told⟩ := c.d.def_ 24 rfl
  have K__law_told := w__law_told (P := P) (w := w) (base := base) T K_octets_of D__law_told
  exact fok_law T K__law_thing K__law_octets K__law_numbers K__law_told K__law_same K_thing_of K_octets_of FL
end
end K62
end

section
set_option Elab.async false
set_option linter.all false
set_option maxRecDepth 100000
set_option maxHeartbeats 2000000
set_option exponentiation.threshold 30000
namespace K62
open PySem (Str)
open L2 (atI ixN)
open ML
/-! # What the mirrors compute -/
/-- base 128, the least first, all but the last with 128 more -/
def sevI (n : Nat) : List Nat := if h : n < 128 then [] else (n % 128 + 128) :: sevI (n / 128)
termination_by n
decreasing_by omega
def sevL (n : Nat) : Nat := if h : n < 128 then n else sevL (n / 128)
termination_by n
decreasing_by omega
def sev (n : Nat) : List Nat := sevI n ++ [sevL n]
def nI (n : Nat) : D := .int (n : Int)
theorem sevI_lt {n : Nat} (h : n < 128) : sevI n = [] := by rw [sevI, dif_pos h]
theorem sevI_ge {n : Nat} (h : ¬ n < 128) : sevI n = (n % 128 + 128) :: sevI (n / 128) := by rw [sevI, dif_neg h]
theorem sevL_lt {n : Nat} (h : n < 128) : sevL n = n := by rw [sevL, dif_pos h]
theorem sevL_ge {n : Nat} (h : ¬ n < 128) : sevL n = sevL (n / 128) := by rw [sevL, dif_neg h]
/-! ## number_octets -/
theorem no_step (n : Nat) (xs : List D) (hn : 128 ≤ n) (hx : xs.length < LIM) : m_number_octets_b1 [.d (nI n), .o true (.lst xs)] = .nx [.d (nI (n / 128)), .o true (.lst (xs ++ [nI (n % 128 + 128)]))] := by
  simp [ML.LIM, ML.bind, ML.ret, ML.lift, ML.xS, ML.sSeq, ML.sDrop, ML.eMt, ML.okL, ML.mutL, ML.fApp, ML.fExt, ML.fPop, ML.aD, ML.aR, ML.aF, ML.aNil, ML.e2, ML.b2, ML.qR, ML.qD, ML.qF, ML.eBlt, ML.oBlt, ML.bInt, ML.bLen, ML.bOrd, ML.eC, ML.eV, ML.sSet, ML.sSetO, ML.okR, ML.content, ML.contents, ML.clean, ML.gMod, ML.gAdd, ML.gDiv, ML.gSub, ML.g2I, ML.gB2, ML.gGe, ML.gLt, ML.gLe, ML.gGt, ML.e1, ML.gNeg, ML.oLst, ML.eTup, ML.datas, ML.o2, ML.gCat, ML.slL, ML.sIf, ML.sRet, ML.sRetO, ML.sRetV, ML.eIf, ML.tB_, ML.dB, ML.tNot_, ML.eIsi, ML.isTy, ML.tyName, ML.eRv, ML.oRv, ML.callM, ML.ios, ML.argOf, ML.backs, ML.rvD, ML.rvO, ML.obD, ML.eO, ML.runBody, ML.ioOk, ML.sNil, ML.gIsN, ML.isNone, ML.eNot, ML.eAnd, ML.eOr, m_number_octets_b1, nI, hx]
theorem no_while : ∀ (f n : Nat) (xs : List D), n < 128 ^ (f + 1) → xs.length + f < LIM → whileL (b2 gGe (qR 0) (qD (eC c_SEVEN_BITS))) m_number_octets_b1 (f + 1) [.d (nI n), .o true (.lst xs)] = .nx [.d (nI (sevL n)), .o true (.lst (xs ++ (sevI n).map nI))] := by
  intro f
  induction f with
  | zero =>
    intro n xs h1 h2
    have h1 : n < 128 := by simpa [ML.LIM, ML.bind, ML.ret, ML.lift, ML.xS, ML.sSeq, ML.sDrop, ML.eMt, ML.okL, ML.mutL, ML.fApp, ML.fExt, ML.fPop, ML.aD, ML.aR, ML.aF, ML.aNil, ML.e2, ML.b2, ML.qR, ML.qD, ML.qF, ML.eBlt, ML.oBlt, ML.bInt, ML.bLen, ML.bOrd, ML.eC, ML.eV, ML.sSet, ML.sSetO, ML.okR, ML.content, ML.contents, ML.clean, ML.gMod, ML.gAdd, ML.gDiv, ML.gSub, ML.g2I, ML.gB2, ML.gGe, ML.gLt, ML.gLe, ML.gGt, ML.e1, ML.gNeg, ML.oLst, ML.eTup, ML.datas, ML.o2, ML.gCat, ML.slL, ML.sIf, ML.sRet, ML.sRetO, ML.sRetV, ML.eIf, ML.tB_, ML.dB, ML.tNot_, ML.eIsi, ML.isTy, ML.tyName, ML.eRv, ML.oRv, ML.callM, ML.ios, ML.argOf, ML.backs, ML.rvD, ML.rvO, ML.obD, ML.eO, ML.runBody, ML.ioOk, ML.sNil, ML.gIsN, ML.isNone, ML.eNot, ML.eAnd, ML.eOr] using h1
    have t : (b2 gGe (qR 0) (qD (eC c_SEVEN_BITS))) [.d (nI n), .o true (.lst xs)] = .ok false [.d (nI n), .o true (.lst xs)] := by simp [ML.LIM, ML.bind, ML.ret, ML.lift, ML.xS, ML.sSeq, ML.sDrop, ML.eMt, ML.okL, ML.mutL, ML.fApp, ML.fExt, ML.fPop, ML.aD, ML.aR, ML.aF, ML.aNil, ML.e2, ML.b2, ML.qR, ML.qD, ML.qF, ML.eBlt, ML.oBlt, ML.bInt, ML.bLen, ML.bOrd, ML.eC, ML.eV, ML.sSet, ML.sSetO, ML.okR, ML.content, ML.contents, ML.clean, ML.gMod, ML.gAdd, ML.gDiv, ML.gSub, ML.g2I, ML.gB2, ML.gGe, ML.gLt, ML.gLe, ML.gGt, ML.e1, ML.gNeg, ML.oLst, ML.eTup, ML.datas, ML.o2, ML.gCat, ML.slL, ML.sIf, ML.sRet, ML.sRetO, ML.sRetV, ML.eIf, ML.tB_, ML.dB, ML.tNot_, ML.eIsi, ML.isTy, ML.tyName, ML.eRv, ML.oRv, ML.callM, ML.ios, ML.argOf, ML.backs, ML.rvD, ML.rvO, ML.obD, ML.eO, ML.runBody, ML.ioOk, ML.sNil, ML.gIsN, ML.isNone, ML.eNot, ML.eAnd, ML.eOr, nI]; omega
    rw [whileL, t, sevL_lt h1, sevI_lt h1]
    simp [ML.LIM, ML.bind, ML.ret, ML.lift, ML.xS, ML.sSeq, ML.sDrop, ML.eMt, ML.okL, ML.mutL, ML.fApp, ML.fExt, ML.fPop, ML.aD, ML.aR, ML.aF, ML.aNil, ML.e2, ML.b2, ML.qR, ML.qD, ML.qF, ML.eBlt, ML.oBlt, ML.bInt, ML.bLen, ML.bOrd, ML.eC, ML.eV, ML.sSet, ML.sSetO, ML.okR, ML.content, ML.contents, ML.clean, ML.gMod, ML.gAdd, ML.gDiv, ML.gSub, ML.g2I, ML.gB2, ML.gGe, ML.gLt, ML.gLe, ML.gGt, ML.e1, ML.gNeg, ML.oLst, ML.eTup, ML.datas, ML.o2, ML.gCat, ML.slL, ML.sIf, ML.sRet, ML.sRetO, ML.sRetV, ML.eIf, ML.tB_, ML.dB, ML.tNot_, ML.eIsi, ML.isTy, ML.tyName, ML.eRv, ML.oRv, ML.callM, ML.ios, ML.argOf, ML.backs, ML.rvD, ML.rvO, ML.obD, ML.eO, ML.runBody, ML.ioOk, ML.sNil, ML.gIsN, ML.isNone, ML.eNot, ML.eAnd, ML.eOr]
  | succ f ih =>
    intro n xs h1 h2
    by_cases hn : 128 ≤ n
    · have t : (b2 gGe (qR 0) (qD (eC c_SEVEN_BITS))) [.d (nI n), .o true (.lst xs)] = .ok true [.d (nI n), .o true (.lst xs)] := by simp [ML.LIM, ML.bind, ML.ret, ML.lift, ML.xS, ML.sSeq, ML.sDrop, ML.eMt, ML.okL, ML.mutL, ML.fApp, ML.fExt, ML.fPop, ML.aD, ML.aR, ML.aF, ML.aNil, ML.e2, ML.b2, ML.qR, ML.qD, ML.qF, ML.eBlt, ML.oBlt, ML.bInt, ML.bLen, ML.bOrd, ML.eC, ML.eV, ML.sSet, ML.sSetO, ML.okR, ML.content, ML.contents, ML.clean, ML.gMod, ML.gAdd, ML.gDiv, ML.gSub, ML.g2I, ML.gB2, ML.gGe, ML.gLt, ML.gLe, ML.gGt, ML.e1, ML.gNeg, ML.oLst, ML.eTup, ML.datas, ML.o2, ML.gCat, ML.slL, ML.sIf, ML.sRet, ML.sRetO, ML.sRetV, ML.eIf, ML.tB_, ML.dB, ML.tNot_, ML.eIsi, ML.isTy, ML.tyName, ML.eRv, ML.oRv, ML.callM, ML.ios, ML.argOf, ML.backs, ML.rvD, ML.rvO, ML.obD, ML.eO, ML.runBody, ML.ioOk, ML.sNil, ML.gIsN, ML.isNone, ML.eNot, ML.eAnd, ML.eOr, nI]; omega
      rw [whileL, t]
      dsimp only
      rw [no_step n xs hn (by omega)]
      dsimp only
      rw [ih (n / 128) _ (by rw [Nat.pow_succ] at h1; omega) (by rw [List.length_append, List.length_singleton]; omega), sevI_ge (n := n) (by omega), sevL_ge (n := n) (by omega)]
      simp [ML.LIM, ML.bind, ML.ret, ML.lift, ML.xS, ML.sSeq, ML.sDrop, ML.eMt, ML.okL, ML.mutL, ML.fApp, ML.fExt, ML.fPop, ML.aD, ML.aR, ML.aF, ML.aNil, ML.e2, ML.b2, ML.qR, ML.qD, ML.qF, ML.eBlt, ML.oBlt, ML.bInt, ML.bLen, ML.bOrd, ML.eC, ML.eV, ML.sSet, ML.sSetO, ML.okR, ML.content, ML.contents, ML.clean, ML.gMod, ML.gAdd, ML.gDiv, ML.gSub, ML.g2I, ML.gB2, ML.gGe, ML.gLt, ML.gLe, ML.gGt, ML.e1, ML.gNeg, ML.oLst, ML.eTup, ML.datas, ML.o2, ML.gCat, ML.slL, ML.sIf, ML.sRet, ML.sRetO, ML.sRetV, ML.eIf, ML.tB_, ML.dB, ML.tNot_, ML.eIsi, ML.isTy, ML.tyName, ML.eRv, ML.oRv, ML.callM, ML.ios, ML.argOf, ML.backs, ML.rvD, ML.rvO, ML.obD, ML.eO, ML.runBody, ML.ioOk, ML.sNil, ML.gIsN, ML.isNone, ML.eNot, ML.eAnd, ML.eOr]
    · have t : (b2 gGe (qR 0) (qD (eC c_SEVEN_BITS))) [.d (nI n), .o true (.lst xs)] = .ok false [.d (nI n), .o true (.lst xs)] := by simp [ML.LIM, ML.bind, ML.ret, ML.lift, ML.xS, ML.sSeq, ML.sDrop, ML.eMt, ML.okL, ML.mutL, ML.fApp, ML.fExt, ML.fPop, ML.aD, ML.aR, ML.aF, ML.aNil, ML.e2, ML.b2, ML.qR, ML.qD, ML.qF, ML.eBlt, ML.oBlt, ML.bInt, ML.bLen, ML.bOrd, ML.eC, ML.eV, ML.sSet, ML.sSetO, ML.okR, ML.content, ML.contents, ML.clean, ML.gMod, ML.gAdd, ML.gDiv, ML.gSub, ML.g2I, ML.gB2, ML.gGe, ML.gLt, ML.gLe, ML.gGt, ML.e1, ML.gNeg, ML.oLst, ML.eTup, ML.datas, ML.o2, ML.gCat, ML.slL, ML.sIf, ML.sRet, ML.sRetO, ML.sRetV, ML.eIf, ML.tB_, ML.dB, ML.tNot_, ML.eIsi, ML.isTy, ML.tyName, ML.eRv, ML.oRv, ML.callM, ML.ios, ML.argOf, ML.backs, ML.rvD, ML.rvO, ML.obD, ML.eO, ML.runBody, ML.ioOk, ML.sNil, ML.gIsN, ML.isNone, ML.eNot, ML.eAnd, ML.eOr, nI]; omega
      rw [whileL, t, sevL_lt (by omega), sevI_lt (by omega)]
      simp [ML.LIM, ML.bind, ML.ret, ML.lift, ML.xS, ML.sSeq, ML.sDrop, ML.eMt, ML.okL, ML.mutL, ML.fApp, ML.fExt, ML.fPop, ML.aD, ML.aR, ML.aF, ML.aNil, ML.e2, ML.b2, ML.qR, ML.qD, ML.qF, ML.eBlt, ML.oBlt, ML.bInt, ML.bLen, ML.bOrd, ML.eC, ML.eV, ML.sSet, ML.sSetO, ML.okR, ML.content, ML.contents, ML.clean, ML.gMod, ML.gAdd, ML.gDiv, ML.gSub, ML.g2I, ML.gB2, ML.gGe, ML.gLt, ML.gLe, ML.gGt, ML.e1, ML.gNeg, ML.oLst, ML.eTup, ML.datas, ML.o2, ML.gCat, ML.slL, ML.sIf, ML.sRet, ML.sRetO, ML.sRetV, ML.eIf, ML.tB_, ML.dB, ML.tNot_, ML.eIsi, ML.isTy, ML.tyName, ML.eRv, ML.oRv, ML.callM, ML.ios, ML.argOf, ML.backs, ML.rvD, ML.rvO, ML.obD, ML.eO, ML.runBody, ML.ioOk, ML.sNil, ML.gIsN, ML.isNone, ML.eNot, ML.eAnd, ML.eOr]
theorem sevI_len : ∀ (k n : Nat), n < 128 ^ (k + 1) → (sevI n).length ≤ k := by
  intro k
  induction k with
  | zero => intro n h; rw [sevI_lt (by simpa [ML.LIM, ML.bind, ML.ret, ML.lift, ML.xS, ML.sSeq, ML.sDrop, ML.eMt, ML.okL, ML.mutL, ML.fApp, ML.fExt, ML.fPop, ML.aD, ML.aR, ML.aF, ML.aNil, ML.e2, ML.b2, ML.qR, ML.qD, ML.qF, ML.eBlt, ML.oBlt, ML.bInt, ML.bLen, ML.bOrd, ML.eC, ML.eV, ML.sSet, ML.sSetO, ML.okR, ML.content, ML.contents, ML.clean, ML.gMod, ML.gAdd, ML.gDiv, ML.gSub, ML.g2I, ML.gB2, ML.gGe, ML.gLt, ML.gLe, ML.gGt, ML.e1, ML.gNeg, ML.oLst, ML.eTup, ML.datas, ML.o2, ML.gCat, ML.slL, ML.sIf, ML.sRet, ML.sRetO, ML.sRetV, ML.eIf, ML.tB_, ML.dB, ML.tNot_, ML.eIsi, ML.isTy, ML.tyName, ML.eRv, ML.oRv, ML.callM, ML.ios, ML.argOf, ML.backs, ML.rvD, ML.rvO, ML.obD, ML.eO, ML.runBody, ML.ioOk, ML.sNil, ML.gIsN, ML.isNone, ML.eNot, ML.eAnd, ML.eOr] using h)]; simp [ML.LIM, ML.bind, ML.ret, ML.lift, ML.xS, ML.sSeq, ML.sDrop, ML.eMt, ML.okL, ML.mutL, ML.fApp, ML.fExt, ML.fPop, ML.aD, ML.aR, ML.aF, ML.aNil, ML.e2, ML.b2, ML.qR, ML.qD, ML.qF, ML.eBlt, ML.oBlt, ML.bInt, ML.bLen, ML.bOrd, ML.eC, ML.eV, ML.sSet, ML.sSetO, ML.okR, ML.content, ML.contents, ML.clean, ML.gMod, ML.gAdd, ML.gDiv, ML.gSub, ML.g2I, ML.gB2, ML.gGe, ML.gLt, ML.gLe, ML.gGt, ML.e1, ML.gNeg, ML.oLst, ML.eTup, ML.datas, ML.o2, ML.gCat, ML.slL, ML.sIf, ML.sRet, ML.sRetO, ML.sRetV, ML.eIf, ML.tB_, ML.dB, ML.tNot_, ML.eIsi, ML.isTy, ML.tyName, ML.eRv, ML.oRv, ML.callM, ML.ios, ML.argOf, ML.backs, ML.rvD, ML.rvO, ML.obD, ML.eO, ML.runBody, ML.ioOk, ML.sNil, ML.gIsN, ML.isNone, ML.eNot, ML.eAnd, ML.eOr]
  | succ k ih =>
    intro n h
    by_cases hn : n < 128
    · rw [sevI_lt hn]; simp [ML.LIM, ML.bind, ML.ret, ML.lift, ML.xS, ML.sSeq, ML.sDrop, ML.eMt, ML.okL, ML.mutL, ML.fApp, ML.fExt, ML.fPop, ML.aD, ML.aR, ML.aF, ML.aNil, ML.e2, ML.b2, ML.qR, ML.qD, ML.qF, ML.eBlt, ML.oBlt, ML.bInt, ML.bLen, ML.bOrd, ML.eC, ML.eV, ML.sSet, ML.sSetO, ML.okR, ML.content, ML.contents, ML.clean, ML.gMod, ML.gAdd, ML.gDiv, ML.gSub, ML.g2I, ML.gB2, ML.gGe, ML.gLt, ML.gLe, ML.gGt, ML.e1, ML.gNeg, ML.oLst, ML.eTup, ML.datas, ML.o2, ML.gCat, ML.slL, ML.sIf, ML.sRet, ML.sRetO, ML.sRetV, ML.eIf, ML.tB_, ML.dB, ML.tNot_, ML.eIsi, ML.isTy, ML.tyName, ML.eRv, ML.oRv, ML.callM, ML.ios, ML.argOf, ML.backs, ML.rvD, ML.rvO, ML.obD, ML.eO, ML.runBody, ML.ioOk, ML.sNil, ML.gIsN, ML.isNone, ML.eNot, ML.eAnd, ML.eOr]
    · rw [sevI_ge hn, List.length_cons]
      have := ih (n / 128) (by rw [Nat.pow_succ] at h; omega)
      omega
abbrev BIG : Nat := 128 ^ 60
theorem no_ok (n : Nat) (h : n < BIG) : F_number_octets [.d (nI n)] = .ok (.o (.lst ((sev n).map nI))) [.d (nI (sevL n))] := by
  have e := no_while 19999 n [] (Nat.lt_of_lt_of_le h (Nat.pow_le_pow_right (by decide) (by decide))) (by decide)
  have l := sevI_len 59 n h
  have w : m_number_octets_w2 [.d (.int (n : Int)), .o true (.lst [])] = .nx [.d (nI (sevL n)), .o true (.lst ((sevI n).map nI))] := by
    rw [m_number_octets_w2, sWhile]
    show whileL _ _ _ [.d (nI n), _] = _
    rw [e]; simp [ML.LIM, ML.bind, ML.ret, ML.lift, ML.xS, ML.sSeq, ML.sDrop, ML.eMt, ML.okL, ML.mutL, ML.fApp, ML.fExt, ML.fPop, ML.aD, ML.aR, ML.aF, ML.aNil, ML.e2, ML.b2, ML.qR, ML.qD, ML.qF, ML.eBlt, ML.oBlt, ML.bInt, ML.bLen, ML.bOrd, ML.eC, ML.eV, ML.sSet, ML.sSetO, ML.okR, ML.content, ML.contents, ML.clean, ML.gMod, ML.gAdd, ML.gDiv, ML.gSub, ML.g2I, ML.gB2, ML.gGe, ML.gLt, ML.gLe, ML.gGt, ML.e1, ML.gNeg, ML.oLst, ML.eTup, ML.datas, ML.o2, ML.gCat, ML.slL, ML.sIf, ML.sRet, ML.sRetO, ML.sRetV, ML.eIf, ML.tB_, ML.dB, ML.tNot_, ML.eIsi, ML.isTy, ML.tyName, ML.eRv, ML.oRv, ML.callM, ML.ios, ML.argOf, ML.backs, ML.rvD, ML.rvO, ML.obD, ML.eO, ML.runBody, ML.ioOk, ML.sNil, ML.gIsN, ML.isNone, ML.eNot, ML.eAnd, ML.eOr]
  have l2 : (sevI n).length ≤ 9999999 := by omega
  simp [ML.LIM, ML.bind, ML.ret, ML.lift, ML.xS, ML.sSeq, ML.sDrop, ML.eMt, ML.okL, ML.mutL, ML.fApp, ML.fExt, ML.fPop, ML.aD, ML.aR, ML.aF, ML.aNil, ML.e2, ML.b2, ML.qR, ML.qD, ML.qF, ML.eBlt, ML.oBlt, ML.bInt, ML.bLen, ML.bOrd, ML.eC, ML.eV, ML.sSet, ML.sSetO, ML.okR, ML.content, ML.contents, ML.clean, ML.gMod, ML.gAdd, ML.gDiv, ML.gSub, ML.g2I, ML.gB2, ML.gGe, ML.gLt, ML.gLe, ML.gGt, ML.e1, ML.gNeg, ML.oLst, ML.eTup, ML.datas, ML.o2, ML.gCat, ML.slL, ML.sIf, ML.sRet, ML.sRetO, ML.sRetV, ML.eIf, ML.tB_, ML.dB, ML.tNot_, ML.eIsi, ML.isTy, ML.tyName, ML.eRv, ML.oRv, ML.callM, ML.ios, ML.argOf, ML.backs, ML.rvD, ML.rvO, ML.obD, ML.eO, ML.runBody, ML.ioOk, ML.sNil, ML.gIsN, ML.isNone, ML.eNot, ML.eAnd, ML.eOr, F_number_octets, m_number_octets, w, nI, sev, l2]
/-! ## plain_octets -/
theorem isint_ok (d : D) : ∃ o, F_is_integer [.d d] = .ok (.d (.bool (isTy "int" d && !isTy "bool" d))) o := by
  refine ⟨[.d d], ?_⟩
  cases d <;> simp [ML.LIM, ML.bind, ML.ret, ML.lift, ML.xS, ML.sSeq, ML.sDrop, ML.eMt, ML.okL, ML.mutL, ML.fApp, ML.fExt, ML.fPop, ML.aD, ML.aR, ML.aF, ML.aNil, ML.e2, ML.b2, ML.qR, ML.qD, ML.qF, ML.eBlt, ML.oBlt, ML.bInt, ML.bLen, ML.bOrd, ML.eC, ML.eV, ML.sSet, ML.sSetO, ML.okR, ML.content, ML.contents, ML.clean, ML.gMod, ML.gAdd, ML.gDiv, ML.gSub, ML.g2I, ML.gB2, ML.gGe, ML.gLt, ML.gLe, ML.gGt, ML.e1, ML.gNeg, ML.oLst, ML.eTup, ML.datas, ML.o2, ML.gCat, ML.slL, ML.sIf, ML.sRet, ML.sRetO, ML.sRetV, ML.eIf, ML.tB_, ML.dB, ML.tNot_, ML.eIsi, ML.isTy, ML.tyName, ML.eRv, ML.oRv, ML.callM, ML.ios, ML.argOf, ML.backs, ML.rvD, ML.rvO, ML.obD, ML.eO, ML.runBody, ML.ioOk, ML.sNil, ML.gIsN, ML.isNone, ML.eNot, ML.eAnd, ML.eOr, F_is_integer, m_is_integer] <;> decide
def zig (i : Int) : Nat := (if i ≥ 0 then 2 * i else -2 * i - 1).toNat
theorem zig_cast (i : Int) : ((zig i : Nat) : Int) = if i ≥ 0 then 2 * i else -2 * i - 1 := by
  unfold zig
  split <;> omega
def SG : List Nat := (Str.ofString " !\"#$&'()*+,-./0123456789:;<=>?@ABCDEFGHIJKLMNOPQRSTUVWXYZ[\\]^_`abcdefghijklmnopqrstuvwxyz{|}~").cps.toList
theorem SG_lt : ∀ c ∈ SG, c < 128 := by decide +kernel
def okS (z : Str) : Bool := z.cps.toList.all fun c => decide (c ∈ SG)
theorem po_none : ∃ o, F_plain_octets [.d .none] = .ok (.o (.lst [nI 5])) o := ⟨[.d .none], by simp [ML.LIM, ML.bind, ML.ret, ML.lift, ML.xS, ML.sSeq, ML.sDrop, ML.eMt, ML.okL, ML.mutL, ML.fApp, ML.fExt, ML.fPop, ML.aD, ML.aR, ML.aF, ML.aNil, ML.e2, ML.b2, ML.qR, ML.qD, ML.qF, ML.eBlt, ML.oBlt, ML.bInt, ML.bLen, ML.bOrd, ML.eC, ML.eV, ML.sSet, ML.sSetO, ML.okR, ML.content, ML.contents, ML.clean, ML.gMod, ML.gAdd, ML.gDiv, ML.gSub, ML.g2I, ML.gB2, ML.gGe, ML.gLt, ML.gLe, ML.gGt, ML.e1, ML.gNeg, ML.oLst, ML.eTup, ML.datas, ML.o2, ML.gCat, ML.slL, ML.sIf, ML.sRet, ML.sRetO, ML.sRetV, ML.eIf, ML.tB_, ML.dB, ML.tNot_, ML.eIsi, ML.isTy, ML.tyName, ML.eRv, ML.oRv, ML.callM, ML.ios, ML.argOf, ML.backs, ML.rvD, ML.rvO, ML.obD, ML.eO, ML.runBody, ML.ioOk, ML.sNil, ML.gIsN, ML.isNone, ML.eNot, ML.eAnd, ML.eOr, F_plain_octets, m_plain_octets, nI]⟩
theorem po_bool (b : Bool) : ∃ o, F_plain_octets [.d (.bool b)] = .ok (.o (.lst [nI (if b then 2 else 1)])) o := ⟨[.d (.bool b)], by cases b <;> simp [ML.LIM, ML.bind, ML.ret, ML.lift, ML.xS, ML.sSeq, ML.sDrop, ML.eMt, ML.okL, ML.mutL, ML.fApp, ML.fExt, ML.fPop, ML.aD, ML.aR, ML.aF, ML.aNil, ML.e2, ML.b2, ML.qR, ML.qD, ML.qF, ML.eBlt, ML.oBlt, ML.bInt, ML.bLen, ML.bOrd, ML.eC, ML.eV, ML.sSet, ML.sSetO, ML.okR, ML.content, ML.contents, ML.clean, ML.gMod, ML.gAdd, ML.gDiv, ML.gSub, ML.g2I, ML.gB2, ML.gGe, ML.gLt, ML.gLe, ML.gGt, ML.e1, ML.gNeg, ML.oLst, ML.eTup, ML.datas, ML.o2, ML.gCat, ML.slL, ML.sIf, ML.sRet, ML.sRetO, ML.sRetV, ML.eIf, ML.tB_, ML.dB, ML.tNot_, ML.eIsi, ML.isTy, ML.tyName, ML.eRv, ML.oRv, ML.callM, ML.ios, ML.argOf, ML.backs, ML.rvD, ML.rvO, ML.obD, ML.eO, ML.runBody, ML.ioOk, ML.sNil, ML.gIsN, ML.isNone, ML.eNot, ML.eAnd, ML.eOr, F_plain_octets, m_plain_octets, nI]⟩
theorem sev_len {n : Nat} (h : n < BIG) : (sev n).length ≤ 62 := by
  have l := sevI_len 59 n h
  unfold sev; simp [ML.LIM, ML.bind, ML.ret, ML.lift, ML.xS, ML.sSeq, ML.sDrop, ML.eMt, ML.okL, ML.mutL, ML.fApp, ML.fExt, ML.fPop, ML.aD, ML.aR, ML.aF, ML.aNil, ML.e2, ML.b2, ML.qR, ML.qD, ML.qF, ML.eBlt, ML.oBlt, ML.bInt, ML.bLen, ML.bOrd, ML.eC, ML.eV, ML.sSet, ML.sSetO, ML.okR, ML.content, ML.contents, ML.clean, ML.gMod, ML.gAdd, ML.gDiv, ML.gSub, ML.g2I, ML.gB2, ML.gGe, ML.gLt, ML.gLe, ML.gGt, ML.e1, ML.gNeg, ML.oLst, ML.eTup, ML.datas, ML.o2, ML.gCat, ML.slL, ML.sIf, ML.sRet, ML.sRetO, ML.sRetV, ML.eIf, ML.tB_, ML.dB, ML.tNot_, ML.eIsi, ML.isTy, ML.tyName, ML.eRv, ML.oRv, ML.callM, ML.ios, ML.argOf, ML.backs, ML.rvD, ML.rvO, ML.obD, ML.eO, ML.runBody, ML.ioOk, ML.sNil, ML.gIsN, ML.isNone, ML.eNot, ML.eAnd, ML.eOr]; omega
theorem po_int (i : Int) (h : zig i < BIG) : ∃ o, F_plain_octets [.d (.int i)] = .ok (.o (.lst ((0 :: sev (zig i)).map nI))) o := by
  obtain ⟨o, hi⟩ := isint_ok (.int i)
  have hz := no_ok (zig i) h
  have l := sev_len h
  refine ⟨[.d (.int i)], ?_⟩
  have hz' := zig_cast i
  have l2 : 1 + (sev (zig i)).length ≤ 10000000 := by omega
  by_cases hp : i ≥ 0
  · rw [if_pos hp] at hz'
    have e : PySem.PyData.int (2 * i) = nI (zig i) := by rw [nI, hz']
    simp [ML.LIM, ML.bind, ML.ret, ML.lift, ML.xS, ML.sSeq, ML.sDrop, ML.eMt, ML.okL, ML.mutL, ML.fApp, ML.fExt, ML.fPop, ML.aD, ML.aR, ML.aF, ML.aNil, ML.e2, ML.b2, ML.qR, ML.qD, ML.qF, ML.eBlt, ML.oBlt, ML.bInt, ML.bLen, ML.bOrd, ML.eC, ML.eV, ML.sSet, ML.sSetO, ML.okR, ML.content, ML.contents, ML.clean, ML.gMod, ML.gAdd, ML.gDiv, ML.gSub, ML.g2I, ML.gB2, ML.gGe, ML.gLt, ML.gLe, ML.gGt, ML.e1, ML.gNeg, ML.oLst, ML.eTup, ML.datas, ML.o2, ML.gCat, ML.slL, ML.sIf, ML.sRet, ML.sRetO, ML.sRetV, ML.eIf, ML.tB_, ML.dB, ML.tNot_, ML.eIsi, ML.isTy, ML.tyName, ML.eRv, ML.oRv, ML.callM, ML.ios, ML.argOf, ML.backs, ML.rvD, ML.rvO, ML.obD, ML.eO, ML.runBody, ML.ioOk, ML.sNil, ML.gIsN, ML.isNone, ML.eNot, ML.eAnd, ML.eOr, F_plain_octets, m_plain_octets, hi, hp, gMul, small, e, hz, l2]
    simp [ML.LIM, ML.bind, ML.ret, ML.lift, ML.xS, ML.sSeq, ML.sDrop, ML.eMt, ML.okL, ML.mutL, ML.fApp, ML.fExt, ML.fPop, ML.aD, ML.aR, ML.aF, ML.aNil, ML.e2, ML.b2, ML.qR, ML.qD, ML.qF, ML.eBlt, ML.oBlt, ML.bInt, ML.bLen, ML.bOrd, ML.eC, ML.eV, ML.sSet, ML.sSetO, ML.okR, ML.content, ML.contents, ML.clean, ML.gMod, ML.gAdd, ML.gDiv, ML.gSub, ML.g2I, ML.gB2, ML.gGe, ML.gLt, ML.gLe, ML.gGt, ML.e1, ML.gNeg, ML.oLst, ML.eTup, ML.datas, ML.o2, ML.gCat, ML.slL, ML.sIf, ML.sRet, ML.sRetO, ML.sRetV, ML.eIf, ML.tB_, ML.dB, ML.tNot_, ML.eIsi, ML.isTy, ML.tyName, ML.eRv, ML.oRv, ML.callM, ML.ios, ML.argOf, ML.backs, ML.rvD, ML.rvO, ML.obD, ML.eO, ML.runBody, ML.ioOk, ML.sNil, ML.gIsN, ML.isNone, ML.eNot, ML.eAnd, ML.eOr, nI]
  · rw [if_neg hp] at hz'
    have hp' : ¬ 0 ≤ i := hp
    have e : PySem.PyData.int (-2 * i - 1) = nI (zig i) := by rw [nI, hz']
    simp [ML.LIM, ML.bind, ML.ret, ML.lift, ML.xS, ML.sSeq, ML.sDrop, ML.eMt, ML.okL, ML.mutL, ML.fApp, ML.fExt, ML.fPop, ML.aD, ML.aR, ML.aF, ML.aNil, ML.e2, ML.b2, ML.qR, ML.qD, ML.qF, ML.eBlt, ML.oBlt, ML.bInt, ML.bLen, ML.bOrd, ML.eC, ML.eV, ML.sSet, ML.sSetO, ML.okR, ML.content, ML.contents, ML.clean, ML.gMod, ML.gAdd, ML.gDiv, ML.gSub, ML.g2I, ML.gB2, ML.gGe, ML.gLt, ML.gLe, ML.gGt, ML.e1, ML.gNeg, ML.oLst, ML.eTup, ML.datas, ML.o2, ML.gCat, ML.slL, ML.sIf, ML.sRet, ML.sRetO, ML.sRetV, ML.eIf, ML.tB_, ML.dB, ML.tNot_, ML.eIsi, ML.isTy, ML.tyName, ML.eRv, ML.oRv, ML.callM, ML.ios, ML.argOf, ML.backs, ML.rvD, ML.rvO, ML.obD, ML.eO, ML.runBody, ML.ioOk, ML.sNil, ML.gIsN, ML.isNone, ML.eNot, ML.eAnd, ML.eOr, F_plain_octets, m_plain_octets, hi, hp', gMul, small, e, hz, l2]
    simp [ML.LIM, ML.bind, ML.ret, ML.lift, ML.xS, ML.sSeq, ML.sDrop, ML.eMt, ML.okL, ML.mutL, ML.fApp, ML.fExt, ML.fPop, ML.aD, ML.aR, ML.aF, ML.aNil, ML.e2, ML.b2, ML.qR, ML.qD, ML.qF, ML.eBlt, ML.oBlt, ML.bInt, ML.bLen, ML.bOrd, ML.eC, ML.eV, ML.sSet, ML.sSetO, ML.okR, ML.content, ML.contents, ML.clean, ML.gMod, ML.gAdd, ML.gDiv, ML.gSub, ML.g2I, ML.gB2, ML.gGe, ML.gLt, ML.gLe, ML.gGt, ML.e1, ML.gNeg, ML.oLst, ML.eTup, ML.datas, ML.o2, ML.gCat, ML.slL, ML.sIf, ML.sRet, ML.sRetO, ML.sRetV, ML.eIf, ML.tB_, ML.dB, ML.tNot_, ML.eIsi, ML.isTy, ML.tyName, ML.eRv, ML.oRv, ML.callM, ML.ios, ML.argOf, ML.backs, ML.rvD, ML.rvO, ML.obD, ML.eO, ML.runBody, ML.ioOk, ML.sNil, ML.gIsN, ML.isNone, ML.eNot, ML.eAnd, ML.eOr, nI]
theorem po_tup (xs : List D) (h : xs.length < BIG) : ∃ o, F_plain_octets [.d (.tuple xs)] = .ok (.d (.list ((4 :: sev xs.length).map nI))) o := by
  obtain ⟨o, hi⟩ := isint_ok (.tuple xs)
  have hz := no_ok xs.length h
  have l := sev_len h
  have l2 : 1 + (sev xs.length).length ≤ 10000000 := by omega
  have e : PySem.PyData.int (xs.length : Int) = nI xs.length := rfl
  refine ⟨[.d (.tuple xs)], ?_⟩
  have bl : bLen [.d (.tuple xs)] = some (nI xs.length) := rfl
  have bl2 : 4 = 4 := rfl
  simp [ML.LIM, ML.bind, ML.ret, ML.lift, ML.xS, ML.sSeq, ML.sDrop, ML.eMt, ML.okL, ML.mutL, ML.fApp, ML.fExt, ML.fPop, ML.aD, ML.aR, ML.aF, ML.aNil, ML.e2, ML.b2, ML.qR, ML.qD, ML.qF, ML.eBlt, ML.oBlt, ML.bInt, ML.bOrd, ML.eC, ML.eV, ML.sSet, ML.sSetO, ML.okR, ML.content, ML.contents, ML.clean, ML.gMod, ML.gAdd, ML.gDiv, ML.gSub, ML.g2I, ML.gB2, ML.gGe, ML.gLt, ML.gLe, ML.gGt, ML.e1, ML.gNeg, ML.oLst, ML.eTup, ML.datas, ML.o2, ML.gCat, ML.slL, ML.sIf, ML.sRet, ML.sRetO, ML.sRetV, ML.eIf, ML.tB_, ML.dB, ML.tNot_, ML.eIsi, ML.isTy, ML.tyName, ML.eRv, ML.oRv, ML.callM, ML.ios, ML.argOf, ML.backs, ML.rvD, ML.rvO, ML.obD, ML.eO, ML.runBody, ML.ioOk, ML.sNil, ML.gIsN, ML.isNone, ML.eNot, ML.eAnd, ML.eOr, F_plain_octets, m_plain_octets, hi, hz, bl, l2, -ML.bLen]
  rfl
theorem po_list (xs : List D) : ∃ o, F_plain_octets [.d (.list xs)] = .ok (.d .none) o := by
  obtain ⟨o, hi⟩ := isint_ok (.list xs)
  refine ⟨[.d (.list xs)], ?_⟩
  simp [ML.LIM, ML.bind, ML.ret, ML.lift, ML.xS, ML.sSeq, ML.sDrop, ML.eMt, ML.okL, ML.mutL, ML.fApp, ML.fExt, ML.fPop, ML.aD, ML.aR, ML.aF, ML.aNil, ML.e2, ML.b2, ML.qR, ML.qD, ML.qF, ML.eBlt, ML.oBlt, ML.bInt, ML.bLen, ML.bOrd, ML.eC, ML.eV, ML.sSet, ML.sSetO, ML.okR, ML.content, ML.contents, ML.clean, ML.gMod, ML.gAdd, ML.gDiv, ML.gSub, ML.g2I, ML.gB2, ML.gGe, ML.gLt, ML.gLe, ML.gGt, ML.e1, ML.gNeg, ML.oLst, ML.eTup, ML.datas, ML.o2, ML.gCat, ML.slL, ML.sIf, ML.sRet, ML.sRetO, ML.sRetV, ML.eIf, ML.tB_, ML.dB, ML.tNot_, ML.eIsi, ML.isTy, ML.tyName, ML.eRv, ML.oRv, ML.callM, ML.ios, ML.argOf, ML.backs, ML.rvD, ML.rvO, ML.obD, ML.eO, ML.runBody, ML.ioOk, ML.sNil, ML.gIsN, ML.isNone, ML.eNot, ML.eAnd, ML.eOr, F_plain_octets, m_plain_octets, hi]
theorem po_dict (xs : List (D × D)) : ∃ o, F_plain_octets [.d (.dict xs)] = .ok (.d .none) o := by
  obtain ⟨o, hi⟩ := isint_ok (.dict xs)
  refine ⟨[.d (.dict xs)], ?_⟩
  simp [ML.LIM, ML.bind, ML.ret, ML.lift, ML.xS, ML.sSeq, ML.sDrop, ML.eMt, ML.okL, ML.mutL, ML.fApp, ML.fExt, ML.fPop, ML.aD, ML.aR, ML.aF, ML.aNil, ML.e2, ML.b2, ML.qR, ML.qD, ML.qF, ML.eBlt, ML.oBlt, ML.bInt, ML.bLen, ML.bOrd, ML.eC, ML.eV, ML.sSet, ML.sSetO, ML.okR, ML.content, ML.contents, ML.clean, ML.gMod, ML.gAdd, ML.gDiv, ML.gSub, ML.g2I, ML.gB2, ML.gGe, ML.gLt, ML.gLe, ML.gGt, ML.e1, ML.gNeg, ML.oLst, ML.eTup, ML.datas, ML.o2, ML.gCat, ML.slL, ML.sIf, ML.sRet, ML.sRetO, ML.sRetV, ML.eIf, ML.tB_, ML.dB, ML.tNot_, ML.eIsi, ML.isTy, ML.tyName, ML.eRv, ML.oRv, ML.callM, ML.ios, ML.argOf, ML.backs, ML.rvD, ML.rvO, ML.obD, ML.eO, ML.runBody, ML.ioOk, ML.sNil, ML.gIsN, ML.isNone, ML.eNot, ML.eAnd, ML.eOr, F_plain_octets, m_plain_octets, hi]
def sg (c : Nat) : D := .str (sign c)
def inS : D → Bool
  | .str x => match x.cps.toList with
    | [c] => decide (c ∈ SG)
    | _ => false
  | _ => false
theorem inS_sg (c : Nat) : inS (sg c) = decide (c ∈ SG) := by simp [ML.LIM, ML.bind, ML.ret, ML.lift, ML.xS, ML.sSeq, ML.sDrop, ML.eMt, ML.okL, ML.mutL, ML.fApp, ML.fExt, ML.fPop, ML.aD, ML.aR, ML.aF, ML.aNil, ML.e2, ML.b2, ML.qR, ML.qD, ML.qF, ML.eBlt, ML.oBlt, ML.bInt, ML.bLen, ML.bOrd, ML.eC, ML.eV, ML.sSet, ML.sSetO, ML.okR, ML.content, ML.contents, ML.clean, ML.gMod, ML.gAdd, ML.gDiv, ML.gSub, ML.g2I, ML.gB2, ML.gGe, ML.gLt, ML.gLe, ML.gGt, ML.e1, ML.gNeg, ML.oLst, ML.eTup, ML.datas, ML.o2, ML.gCat, ML.slL, ML.sIf, ML.sRet, ML.sRetO, ML.sRetV, ML.eIf, ML.tB_, ML.dB, ML.tNot_, ML.eIsi, ML.isTy, ML.tyName, ML.eRv, ML.oRv, ML.callM, ML.ios, ML.argOf, ML.backs, ML.rvD, ML.rvO, ML.obD, ML.eO, ML.runBody, ML.ioOk, ML.sNil, ML.gIsN, ML.isNone, ML.eNot, ML.eAnd, ML.eOr, inS, sg, sign]
theorem c_SIGNS_eq : c_SIGNS = .str ⟨SG.toArray⟩ := by rfl
theorem comp_str (z : Str) (h : z.length ≤ 1000) : o_plain_octets_3 [.d (.str z), .un, .un] = .ok (.lst (z.cps.toList.map fun c => .bool (decide (c ∈ SG)))) [.d (.str z), .un, .un] := by
  have hl : z.cps.toList.length = z.length := by simp [ML.LIM, ML.bind, ML.ret, ML.lift, ML.xS, ML.sSeq, ML.sDrop, ML.eMt, ML.okL, ML.mutL, ML.fApp, ML.fExt, ML.fPop, ML.aD, ML.aR, ML.aF, ML.aNil, ML.e2, ML.b2, ML.qR, ML.qD, ML.qF, ML.eBlt, ML.oBlt, ML.bInt, ML.bLen, ML.bOrd, ML.eC, ML.eV, ML.sSet, ML.sSetO, ML.okR, ML.content, ML.contents, ML.clean, ML.gMod, ML.gAdd, ML.gDiv, ML.gSub, ML.g2I, ML.gB2, ML.gGe, ML.gLt, ML.gLe, ML.gGt, ML.e1, ML.gNeg, ML.oLst, ML.eTup, ML.datas, ML.o2, ML.gCat, ML.slL, ML.sIf, ML.sRet, ML.sRetO, ML.sRetV, ML.eIf, ML.tB_, ML.dB, ML.tNot_, ML.eIsi, ML.isTy, ML.tyName, ML.eRv, ML.oRv, ML.callM, ML.ios, ML.argOf, ML.backs, ML.rvD, ML.rvO, ML.obD, ML.eO, ML.runBody, ML.ioOk, ML.sNil, ML.gIsN, ML.isNone, ML.eNot, ML.eAnd, ML.eOr, Str.length]
  have e := compL_map (g := gN 2) (tt := ret true) (te := m_plain_octets_c3) (vs := [2]) (e0 := [.d (.str z), .un, .un]) (p := fun _ => true) (f := fun d => .bool (inS d)) (z.cps.toList.map sg) [] (by
    intro d hd
    obtain ⟨c, _, rfl⟩ := List.mem_map.mp hd
    refine ⟨[.d (.str z), .un, .d (sg c)], by simp [ML.LIM, ML.bind, ML.ret, ML.lift, ML.xS, ML.sSeq, ML.sDrop, ML.eMt, ML.okL, ML.mutL, ML.fApp, ML.fExt, ML.fPop, ML.aD, ML.aR, ML.aF, ML.aNil, ML.e2, ML.b2, ML.qR, ML.qD, ML.qF, ML.eBlt, ML.oBlt, ML.bInt, ML.bLen, ML.bOrd, ML.eC, ML.eV, ML.sSet, ML.sSetO, ML.okR, ML.content, ML.contents, ML.clean, ML.gMod, ML.gAdd, ML.gDiv, ML.gSub, ML.g2I, ML.gB2, ML.gGe, ML.gLt, ML.gLe, ML.gGt, ML.e1, ML.gNeg, ML.oLst, ML.eTup, ML.datas, ML.o2, ML.gCat, ML.slL, ML.sIf, ML.sRet, ML.sRetO, ML.sRetV, ML.eIf, ML.tB_, ML.dB, ML.tNot_, ML.eIsi, ML.isTy, ML.tyName, ML.eRv, ML.oRv, ML.callM, ML.ios, ML.argOf, ML.backs, ML.rvD, ML.rvO, ML.obD, ML.eO, ML.runBody, ML.ioOk, ML.sNil, ML.gIsN, ML.isNone, ML.eNot, ML.eAnd, ML.eOr, gN], by simp [ML.LIM, ML.bind, ML.ret, ML.lift, ML.xS, ML.sSeq, ML.sDrop, ML.eMt, ML.okL, ML.mutL, ML.fApp, ML.fExt, ML.fPop, ML.aD, ML.aR, ML.aF, ML.aNil, ML.e2, ML.b2, ML.qR, ML.qD, ML.qF, ML.eBlt, ML.oBlt, ML.bInt, ML.bLen, ML.bOrd, ML.eC, ML.eV, ML.sSet, ML.sSetO, ML.okR, ML.content, ML.contents, ML.clean, ML.gMod, ML.gAdd, ML.gDiv, ML.gSub, ML.g2I, ML.gB2, ML.gGe, ML.gLt, ML.gLe, ML.gGt, ML.e1, ML.gNeg, ML.oLst, ML.eTup, ML.datas, ML.o2, ML.gCat, ML.slL, ML.sIf, ML.sRet, ML.sRetO, ML.sRetV, ML.eIf, ML.tB_, ML.dB, ML.tNot_, ML.eIsi, ML.isTy, ML.tyName, ML.eRv, ML.oRv, ML.callM, ML.ios, ML.argOf, ML.backs, ML.rvD, ML.rvO, ML.obD, ML.eO, ML.runBody, ML.ioOk, ML.sNil, ML.gIsN, ML.isNone, ML.eNot, ML.eAnd, ML.eOr], fun _ => ?_, by simp [ML.LIM, ML.bind, ML.ret, ML.lift, ML.xS, ML.sSeq, ML.sDrop, ML.eMt, ML.okL, ML.mutL, ML.fApp, ML.fExt, ML.fPop, ML.aD, ML.aR, ML.aF, ML.aNil, ML.e2, ML.b2, ML.qR, ML.qD, ML.qF, ML.eBlt, ML.oBlt, ML.bInt, ML.bLen, ML.bOrd, ML.eC, ML.eV, ML.sSet, ML.sSetO, ML.okR, ML.content, ML.contents, ML.clean, ML.gMod, ML.gAdd, ML.gDiv, ML.gSub, ML.g2I, ML.gB2, ML.gGe, ML.gLt, ML.gLe, ML.gGt, ML.e1, ML.gNeg, ML.oLst, ML.eTup, ML.datas, ML.o2, ML.gCat, ML.slL, ML.sIf, ML.sRet, ML.sRetO, ML.sRetV, ML.eIf, ML.tB_, ML.dB, ML.tNot_, ML.eIsi, ML.isTy, ML.tyName, ML.eRv, ML.oRv, ML.callM, ML.ios, ML.argOf, ML.backs, ML.rvD, ML.rvO, ML.obD, ML.eO, ML.runBody, ML.ioOk, ML.sNil, ML.gIsN, ML.isNone, ML.eNot, ML.eAnd, ML.eOr, wipeE]⟩
    rw [m_plain_octets_c3, c_SIGNS_eq, inS_sg]
    simp [ML.LIM, ML.bind, ML.ret, ML.lift, ML.xS, ML.sSeq, ML.sDrop, ML.eMt, ML.okL, ML.mutL, ML.fApp, ML.fExt, ML.fPop, ML.aD, ML.aR, ML.aF, ML.aNil, ML.e2, ML.b2, ML.qR, ML.qD, ML.qF, ML.eBlt, ML.oBlt, ML.bInt, ML.bLen, ML.bOrd, ML.eC, ML.eV, ML.sSet, ML.sSetO, ML.okR, ML.content, ML.contents, ML.clean, ML.gMod, ML.gAdd, ML.gDiv, ML.gSub, ML.g2I, ML.gB2, ML.gGe, ML.gLt, ML.gLe, ML.gGt, ML.e1, ML.gNeg, ML.oLst, ML.eTup, ML.datas, ML.o2, ML.gCat, ML.slL, ML.sIf, ML.sRet, ML.sRetO, ML.sRetV, ML.eIf, ML.tB_, ML.dB, ML.tNot_, ML.eIsi, ML.isTy, ML.tyName, ML.eRv, ML.oRv, ML.callM, ML.ios, ML.argOf, ML.backs, ML.rvD, ML.rvO, ML.obD, ML.eO, ML.runBody, ML.ioOk, ML.sNil, ML.gIsN, ML.isNone, ML.eNot, ML.eAnd, ML.eOr, gIn, sg, sign]) (by simp [ML.LIM, ML.bind, ML.ret, ML.lift, ML.xS, ML.sSeq, ML.sDrop, ML.eMt, ML.okL, ML.mutL, ML.fApp, ML.fExt, ML.fPop, ML.aD, ML.aR, ML.aF, ML.aNil, ML.e2, ML.b2, ML.qR, ML.qD, ML.qF, ML.eBlt, ML.oBlt, ML.bInt, ML.bLen, ML.bOrd, ML.eC, ML.eV, ML.sSet, ML.sSetO, ML.okR, ML.content, ML.contents, ML.clean, ML.gMod, ML.gAdd, ML.gDiv, ML.gSub, ML.g2I, ML.gB2, ML.gGe, ML.gLt, ML.gLe, ML.gGt, ML.e1, ML.gNeg, ML.oLst, ML.eTup, ML.datas, ML.o2, ML.gCat, ML.slL, ML.sIf, ML.sRet, ML.sRetO, ML.sRetV, ML.eIf, ML.tB_, ML.dB, ML.tNot_, ML.eIsi, ML.isTy, ML.tyName, ML.eRv, ML.oRv, ML.callM, ML.ios, ML.argOf, ML.backs, ML.rvD, ML.rvO, ML.obD, ML.eO, ML.runBody, ML.ioOk, ML.sNil, ML.gIsN, ML.isNone, ML.eNot, ML.eAnd, ML.eOr, hl]; omega)
  simp [ML.LIM, ML.bind, ML.ret, ML.lift, ML.xS, ML.sSeq, ML.sDrop, ML.eMt, ML.okL, ML.mutL, ML.fApp, ML.fExt, ML.fPop, ML.aD, ML.aR, ML.aF, ML.aNil, ML.e2, ML.b2, ML.qR, ML.qD, ML.qF, ML.eBlt, ML.oBlt, ML.bInt, ML.bLen, ML.bOrd, ML.eC, ML.eV, ML.sSet, ML.sSetO, ML.okR, ML.content, ML.contents, ML.clean, ML.gMod, ML.gAdd, ML.gDiv, ML.gSub, ML.g2I, ML.gB2, ML.gGe, ML.gLt, ML.gLe, ML.gGt, ML.e1, ML.gNeg, ML.oLst, ML.eTup, ML.datas, ML.o2, ML.gCat, ML.slL, ML.sIf, ML.sRet, ML.sRetO, ML.sRetV, ML.eIf, ML.tB_, ML.dB, ML.tNot_, ML.eIsi, ML.isTy, ML.tyName, ML.eRv, ML.oRv, ML.callM, ML.ios, ML.argOf, ML.backs, ML.rvD, ML.rvO, ML.obD, ML.eO, ML.runBody, ML.ioOk, ML.sNil, ML.gIsN, ML.isNone, ML.eNot, ML.eAnd, ML.eOr, o_plain_octets_3, oComp, iD, dItems, wipeE]
  rw [show (fun c => PySem.PyData.str (sign c)) = sg from rfl, e]
  rw [List.filter_eq_self.mpr (fun _ _ => rfl)]
  simp [ML.LIM, ML.bind, ML.ret, ML.lift, ML.xS, ML.sSeq, ML.sDrop, ML.eMt, ML.okL, ML.mutL, ML.fApp, ML.fExt, ML.fPop, ML.aD, ML.aR, ML.aF, ML.aNil, ML.e2, ML.b2, ML.qR, ML.qD, ML.qF, ML.eBlt, ML.oBlt, ML.bInt, ML.bLen, ML.bOrd, ML.eC, ML.eV, ML.sSet, ML.sSetO, ML.okR, ML.content, ML.contents, ML.clean, ML.gMod, ML.gAdd, ML.gDiv, ML.gSub, ML.g2I, ML.gB2, ML.gGe, ML.gLt, ML.gLe, ML.gGt, ML.e1, ML.gNeg, ML.oLst, ML.eTup, ML.datas, ML.o2, ML.gCat, ML.slL, ML.sIf, ML.sRet, ML.sRetO, ML.sRetV, ML.eIf, ML.tB_, ML.dB, ML.tNot_, ML.eIsi, ML.isTy, ML.tyName, ML.eRv, ML.oRv, ML.callM, ML.ios, ML.argOf, ML.backs, ML.rvD, ML.rvO, ML.obD, ML.eO, ML.runBody, ML.ioOk, ML.sNil, ML.gIsN, ML.isNone, ML.eNot, ML.eAnd, ML.eOr, restE, dataAt, inS_sg, Function.comp_def]
theorem dBools_map {α : Type} (p : α → Bool) : ∀ (l : List α), dBools (l.map fun c => PySem.PyData.bool (p c)) = some (l.map p)
  | [] => rfl
  | a :: l => by rw [List.map_cons, dBools, dBools_map p l]; rfl
theorem sev_small {n : Nat} (h : n < 128) : sev n = [n] := by unfold sev; rw [sevI_lt h, sevL_lt h]; rfl
theorem str_loop (a : Sl) : ∀ (cs : List Nat) (xs : List D) (s2 : Sl), (∀ c ∈ cs, c < 128) → xs.length + cs.length ≤ LIM →
    ∃ s2', forL (gN 2) m_plain_octets_b1 (cs.map sg) [a, .o true (.lst xs), s2] = .nx [a, .o true (.lst (xs ++ cs.map nI)), s2'] := by
  intro cs
  induction cs with
  | nil => intro xs s2 _ _; exact ⟨s2, by simp [ML.LIM, ML.bind, ML.ret, ML.lift, ML.xS, ML.sSeq, ML.sDrop, ML.eMt, ML.okL, ML.mutL, ML.fApp, ML.fExt, ML.fPop, ML.aD, ML.aR, ML.aF, ML.aNil, ML.e2, ML.b2, ML.qR, ML.qD, ML.qF, ML.eBlt, ML.oBlt, ML.bInt, ML.bLen, ML.bOrd, ML.eC, ML.eV, ML.sSet, ML.sSetO, ML.okR, ML.content, ML.contents, ML.clean, ML.gMod, ML.gAdd, ML.gDiv, ML.gSub, ML.g2I, ML.gB2, ML.gGe, ML.gLt, ML.gLe, ML.gGt, ML.e1, ML.gNeg, ML.oLst, ML.eTup, ML.datas, ML.o2, ML.gCat, ML.slL, ML.sIf, ML.sRet, ML.sRetO, ML.sRetV, ML.eIf, ML.tB_, ML.dB, ML.tNot_, ML.eIsi, ML.isTy, ML.tyName, ML.eRv, ML.oRv, ML.callM, ML.ios, ML.argOf, ML.backs, ML.rvD, ML.rvO, ML.obD, ML.eO, ML.runBody, ML.ioOk, ML.sNil, ML.gIsN, ML.isNone, ML.eNot, ML.eAnd, ML.eOr, forL]⟩
  | cons c cs ih =>
    intro xs s2 h hl
    rw [List.length_cons] at hl
    have hc : c < 128 := h c List.mem_cons_self
    have hz := no_ok c (Nat.lt_trans hc (by decide))
    rw [sev_small hc] at hz
    obtain ⟨s2', e⟩ := ih (xs ++ [nI c]) (.d (sg c)) (fun x hx => h x (List.mem_cons_of_mem _ hx)) (by rw [List.length_append, List.length_singleton]; omega)
    refine ⟨s2', ?_⟩
    have hl2 : xs.length + 1 ≤ 10000000 := by have : xs.length + (cs.length + 1) ≤ 10000000 := hl; omega
    have b : m_plain_octets_b1 [a, .o true (.lst xs), .d (sg c)] = .nx [a, .o true (.lst (xs ++ [nI c])), .d (sg c)] := by
      have l1 : (sign c).length = 1 := rfl
      have g0 : (sign c).cps.getD 0 0 = c := rfl
      have e0 : PySem.PyData.int (c : Int) = nI c := rfl
      simp [ML.LIM, ML.bind, ML.ret, ML.lift, ML.xS, ML.sSeq, ML.sDrop, ML.eMt, ML.okL, ML.mutL, ML.fApp, ML.fExt, ML.fPop, ML.aD, ML.aR, ML.aF, ML.aNil, ML.e2, ML.b2, ML.qR, ML.qD, ML.qF, ML.eBlt, ML.oBlt, ML.bInt, ML.bLen, ML.bOrd, ML.eC, ML.eV, ML.sSet, ML.sSetO, ML.okR, ML.content, ML.contents, ML.clean, ML.gMod, ML.gAdd, ML.gDiv, ML.gSub, ML.g2I, ML.gB2, ML.gGe, ML.gLt, ML.gLe, ML.gGt, ML.e1, ML.gNeg, ML.oLst, ML.eTup, ML.datas, ML.o2, ML.gCat, ML.slL, ML.sIf, ML.sRet, ML.sRetO, ML.sRetV, ML.eIf, ML.tB_, ML.dB, ML.tNot_, ML.eIsi, ML.isTy, ML.tyName, ML.eRv, ML.oRv, ML.callM, ML.ios, ML.argOf, ML.backs, ML.rvD, ML.rvO, ML.obD, ML.eO, ML.runBody, ML.ioOk, ML.sNil, ML.gIsN, ML.isNone, ML.eNot, ML.eAnd, ML.eOr, m_plain_octets_b1, sg, l1, g0, e0, hz, hl2]
    rw [List.map_cons, forL, show gN 2 (sg c) [a, .o true (.lst xs), s2] = some [a, .o true (.lst xs), .d (sg c)] from rfl]
    dsimp only
    rw [b]
    dsimp only
    rw [e]
    simp [ML.LIM, ML.bind, ML.ret, ML.lift, ML.xS, ML.sSeq, ML.sDrop, ML.eMt, ML.okL, ML.mutL, ML.fApp, ML.fExt, ML.fPop, ML.aD, ML.aR, ML.aF, ML.aNil, ML.e2, ML.b2, ML.qR, ML.qD, ML.qF, ML.eBlt, ML.oBlt, ML.bInt, ML.bLen, ML.bOrd, ML.eC, ML.eV, ML.sSet, ML.sSetO, ML.okR, ML.content, ML.contents, ML.clean, ML.gMod, ML.gAdd, ML.gDiv, ML.gSub, ML.g2I, ML.gB2, ML.gGe, ML.gLt, ML.gLe, ML.gGt, ML.e1, ML.gNeg, ML.oLst, ML.eTup, ML.datas, ML.o2, ML.gCat, ML.slL, ML.sIf, ML.sRet, ML.sRetO, ML.sRetV, ML.eIf, ML.tB_, ML.dB, ML.tNot_, ML.eIsi, ML.isTy, ML.tyName, ML.eRv, ML.oRv, ML.callM, ML.ios, ML.argOf, ML.backs, ML.rvD, ML.rvO, ML.obD, ML.eO, ML.runBody, ML.ioOk, ML.sNil, ML.gIsN, ML.isNone, ML.eNot, ML.eAnd, ML.eOr]
theorem po_str (z : Str) (h : z.length ≤ 1000) : ∃ o, F_plain_octets [.d (.str z)] = .ok (if okS z = true then .o (.lst ((3 :: (sev z.length ++ z.cps.toList)).map nI)) else .d .none) o := by
  obtain ⟨o, hi⟩ := isint_ok (.str z)
  have hb : z.length < BIG := Nat.lt_of_le_of_lt h (by decide)
  have hz := no_ok z.length hb
  have l := sev_len hb
  have hl : z.cps.toList.length = z.length := by simp [ML.LIM, ML.bind, ML.ret, ML.lift, ML.xS, ML.sSeq, ML.sDrop, ML.eMt, ML.okL, ML.mutL, ML.fApp, ML.fExt, ML.fPop, ML.aD, ML.aR, ML.aF, ML.aNil, ML.e2, ML.b2, ML.qR, ML.qD, ML.qF, ML.eBlt, ML.oBlt, ML.bInt, ML.bLen, ML.bOrd, ML.eC, ML.eV, ML.sSet, ML.sSetO, ML.okR, ML.content, ML.contents, ML.clean, ML.gMod, ML.gAdd, ML.gDiv, ML.gSub, ML.g2I, ML.gB2, ML.gGe, ML.gLt, ML.gLe, ML.gGt, ML.e1, ML.gNeg, ML.oLst, ML.eTup, ML.datas, ML.o2, ML.gCat, ML.slL, ML.sIf, ML.sRet, ML.sRetO, ML.sRetV, ML.eIf, ML.tB_, ML.dB, ML.tNot_, ML.eIsi, ML.isTy, ML.tyName, ML.eRv, ML.oRv, ML.callM, ML.ios, ML.argOf, ML.backs, ML.rvD, ML.rvO, ML.obD, ML.eO, ML.runBody, ML.ioOk, ML.sNil, ML.gIsN, ML.isNone, ML.eNot, ML.eAnd, ML.eOr, Str.length]
  have bl : bLen [.d (.str z)] = some (nI z.length) := by
    have : z.length ≤ 10000000 := by omega
    simp [ML.LIM, ML.bind, ML.ret, ML.lift, ML.xS, ML.sSeq, ML.sDrop, ML.eMt, ML.okL, ML.mutL, ML.fApp, ML.fExt, ML.fPop, ML.aD, ML.aR, ML.aF, ML.aNil, ML.e2, ML.b2, ML.qR, ML.qD, ML.qF, ML.eBlt, ML.oBlt, ML.bInt, ML.bLen, ML.bOrd, ML.eC, ML.eV, ML.sSet, ML.sSetO, ML.okR, ML.content, ML.contents, ML.clean, ML.gMod, ML.gAdd, ML.gDiv, ML.gSub, ML.g2I, ML.gB2, ML.gGe, ML.gLt, ML.gLe, ML.gGt, ML.e1, ML.gNeg, ML.oLst, ML.eTup, ML.datas, ML.o2, ML.gCat, ML.slL, ML.sIf, ML.sRet, ML.sRetO, ML.sRetV, ML.eIf, ML.tB_, ML.dB, ML.tNot_, ML.eIsi, ML.isTy, ML.tyName, ML.eRv, ML.oRv, ML.callM, ML.ios, ML.argOf, ML.backs, ML.rvD, ML.rvO, ML.obD, ML.eO, ML.runBody, ML.ioOk, ML.sNil, ML.gIsN, ML.isNone, ML.eNot, ML.eAnd, ML.eOr, this, nI]
  have hc := comp_str z h
  have hall : (z.cps.toList.map fun c => decide (c ∈ SG)).all id = okS z := by
    unfold okS; rw [List.all_map]; rfl
  refine ⟨[.d (.str z)], ?_⟩
  by_cases hk : okS z = true
  · rw [if_pos hk]
    have hcs : ∀ c ∈ z.cps.toList, c < 128 := fun c hc => SG_lt c (of_decide_eq_true (List.all_eq_true.mp hk c hc))
    obtain ⟨s2', e⟩ := str_loop (.d (.str z)) z.cps.toList (nI 3 :: (sev z.length).map nI) .un hcs (by show _ ≤ 10000000; rw [hl, List.length_cons, List.length_map]; omega)
    have l2 : 1 + (sev z.length).length ≤ 10000000 := by omega
    have w : m_plain_octets_w2 [.d (.str z), .o true (.lst (nI 3 :: (sev z.length).map nI)), .un] = .nx [.d (.str z), .o true (.lst (nI 3 :: ((sev z.length).map nI ++ z.cps.toList.map nI))), s2'] := by
      simp [ML.LIM, ML.bind, ML.ret, ML.lift, ML.xS, ML.sSeq, ML.sDrop, ML.eMt, ML.okL, ML.mutL, ML.fApp, ML.fExt, ML.fPop, ML.aD, ML.aR, ML.aF, ML.aNil, ML.e2, ML.b2, ML.qR, ML.qD, ML.qF, ML.eBlt, ML.oBlt, ML.bInt, ML.bLen, ML.bOrd, ML.eC, ML.eV, ML.sSet, ML.sSetO, ML.okR, ML.content, ML.contents, ML.clean, ML.gMod, ML.gAdd, ML.gDiv, ML.gSub, ML.g2I, ML.gB2, ML.gGe, ML.gLt, ML.gLe, ML.gGt, ML.e1, ML.gNeg, ML.oLst, ML.eTup, ML.datas, ML.o2, ML.gCat, ML.slL, ML.sIf, ML.sRet, ML.sRetO, ML.sRetV, ML.eIf, ML.tB_, ML.dB, ML.tNot_, ML.eIsi, ML.isTy, ML.tyName, ML.eRv, ML.oRv, ML.callM, ML.ios, ML.argOf, ML.backs, ML.rvD, ML.rvO, ML.obD, ML.eO, ML.runBody, ML.ioOk, ML.sNil, ML.gIsN, ML.isNone, ML.eNot, ML.eAnd, ML.eOr, m_plain_octets_w2, sFor, iD, dItems]
      exact e
    simp [ML.LIM, ML.bind, ML.ret, ML.lift, ML.xS, ML.sSeq, ML.sDrop, ML.eMt, ML.okL, ML.mutL, ML.fApp, ML.fExt, ML.fPop, ML.aD, ML.aR, ML.aF, ML.aNil, ML.e2, ML.b2, ML.qR, ML.qD, ML.qF, ML.eBlt, ML.oBlt, ML.bInt, ML.bOrd, ML.eC, ML.eV, ML.sSet, ML.sSetO, ML.okR, ML.content, ML.contents, ML.clean, ML.gMod, ML.gAdd, ML.gDiv, ML.gSub, ML.g2I, ML.gB2, ML.gGe, ML.gLt, ML.gLe, ML.gGt, ML.e1, ML.gNeg, ML.oLst, ML.eTup, ML.datas, ML.o2, ML.gCat, ML.slL, ML.sIf, ML.sRet, ML.sRetO, ML.sRetV, ML.eIf, ML.tB_, ML.dB, ML.tNot_, ML.eIsi, ML.isTy, ML.tyName, ML.eRv, ML.oRv, ML.callM, ML.ios, ML.argOf, ML.backs, ML.rvD, ML.rvO, ML.obD, ML.eO, ML.runBody, ML.ioOk, ML.sNil, ML.gIsN, ML.isNone, ML.eNot, ML.eAnd, ML.eOr, F_plain_octets, m_plain_octets, hi, hz, bl, l2, hc, bAll, dBools_map, hall, hk, -ML.bLen]
    rw [show c_OF_STRING = nI 3 from rfl, w]
    simp [ML.LIM, ML.bind, ML.ret, ML.lift, ML.xS, ML.sSeq, ML.sDrop, ML.eMt, ML.okL, ML.mutL, ML.fApp, ML.fExt, ML.fPop, ML.aD, ML.aR, ML.aF, ML.aNil, ML.e2, ML.b2, ML.qR, ML.qD, ML.qF, ML.eBlt, ML.oBlt, ML.bInt, ML.bLen, ML.bOrd, ML.eC, ML.eV, ML.sSet, ML.sSetO, ML.okR, ML.content, ML.contents, ML.clean, ML.gMod, ML.gAdd, ML.gDiv, ML.gSub, ML.g2I, ML.gB2, ML.gGe, ML.gLt, ML.gLe, ML.gGt, ML.e1, ML.gNeg, ML.oLst, ML.eTup, ML.datas, ML.o2, ML.gCat, ML.slL, ML.sIf, ML.sRet, ML.sRetO, ML.sRetV, ML.eIf, ML.tB_, ML.dB, ML.tNot_, ML.eIsi, ML.isTy, ML.tyName, ML.eRv, ML.oRv, ML.callM, ML.ios, ML.argOf, ML.backs, ML.rvD, ML.rvO, ML.obD, ML.eO, ML.runBody, ML.ioOk, ML.sNil, ML.gIsN, ML.isNone, ML.eNot, ML.eAnd, ML.eOr]
  · rw [if_neg hk]
    have hk' : okS z = false := by simpa [ML.LIM, ML.bind, ML.ret, ML.lift, ML.xS, ML.sSeq, ML.sDrop, ML.eMt, ML.okL, ML.mutL, ML.fApp, ML.fExt, ML.fPop, ML.aD, ML.aR, ML.aF, ML.aNil, ML.e2, ML.b2, ML.qR, ML.qD, ML.qF, ML.eBlt, ML.oBlt, ML.bInt, ML.bLen, ML.bOrd, ML.eC, ML.eV, ML.sSet, ML.sSetO, ML.okR, ML.content, ML.contents, ML.clean, ML.gMod, ML.gAdd, ML.gDiv, ML.gSub, ML.g2I, ML.gB2, ML.gGe, ML.gLt, ML.gLe, ML.gGt, ML.e1, ML.gNeg, ML.oLst, ML.eTup, ML.datas, ML.o2, ML.gCat, ML.slL, ML.sIf, ML.sRet, ML.sRetO, ML.sRetV, ML.eIf, ML.tB_, ML.dB, ML.tNot_, ML.eIsi, ML.isTy, ML.tyName, ML.eRv, ML.oRv, ML.callM, ML.ios, ML.argOf, ML.backs, ML.rvD, ML.rvO, ML.obD, ML.eO, ML.runBody, ML.ioOk, ML.sNil, ML.gIsN, ML.isNone, ML.eNot, ML.eAnd, ML.eOr] using hk
    simp [ML.LIM, ML.bind, ML.ret, ML.lift, ML.xS, ML.sSeq, ML.sDrop, ML.eMt, ML.okL, ML.mutL, ML.fApp, ML.fExt, ML.fPop, ML.aD, ML.aR, ML.aF, ML.aNil, ML.e2, ML.b2, ML.qR, ML.qD, ML.qF, ML.eBlt, ML.oBlt, ML.bInt, ML.bLen, ML.bOrd, ML.eC, ML.eV, ML.sSet, ML.sSetO, ML.okR, ML.content, ML.contents, ML.clean, ML.gMod, ML.gAdd, ML.gDiv, ML.gSub, ML.g2I, ML.gB2, ML.gGe, ML.gLt, ML.gLe, ML.gGt, ML.e1, ML.gNeg, ML.oLst, ML.eTup, ML.datas, ML.o2, ML.gCat, ML.slL, ML.sIf, ML.sRet, ML.sRetO, ML.sRetV, ML.eIf, ML.tB_, ML.dB, ML.tNot_, ML.eIsi, ML.isTy, ML.tyName, ML.eRv, ML.oRv, ML.callM, ML.ios, ML.argOf, ML.backs, ML.rvD, ML.rvO, ML.obD, ML.eO, ML.runBody, ML.ioOk, ML.sNil, ML.gIsN, ML.isNone, ML.eNot, ML.eAnd, ML.eOr, F_plain_octets, m_plain_octets, hi, hc, bAll, dBools_map, hall, hk']
end K62
end

section
set_option Elab.async false
set_option linter.all false
set_option maxRecDepth 100000
set_option maxHeartbeats 2000000
namespace K62
open PySem (Str)
open L2 (atI ixN)
open ML
/-- what a thing's own octets are, without its items -/
def nodeE : D → Option (List Nat)
  | .none => some [5]
  | .bool b => some [if b then 2 else 1]
  | .int i => some (0 :: sev (zig i))
  | .str z => if okS z = true then some (3 :: (sev z.length ++ z.cps.toList)) else none
  | .tuple xs => some (4 :: sev xs.length)
  | _ => none
def fine : D → Prop
  | .int i => zig i < BIG
  | .str z => z.length ≤ 1000
  | .tuple xs => xs.length ≤ 1000
  | _ => True
def nodeD (d : D) : D := match nodeE d with
  | some ns => .list (ns.map nI)
  | none => .none
theorem po_all (d : D) (h : fine d) : ∃ r o, F_plain_octets [.d d] = .ok r o ∧ rvD r = some (nodeD d) := by
  cases d with
  | none => obtain ⟨o, e⟩ := po_none; exact ⟨_, o, e, rfl⟩
  | bool b => obtain ⟨o, e⟩ := po_bool b; exact ⟨_, o, e, rfl⟩
  | int i => obtain ⟨o, e⟩ := po_int i h; exact ⟨_, o, e, rfl⟩
  | str z =>
    obtain ⟨o, e⟩ := po_str z h
    refine ⟨_, o, e, ?_⟩
    by_cases hk : okS z = true
    · rw [if_pos hk]; simp [ML.LIM, ML.bind, ML.ret, ML.lift, ML.xS, ML.sSeq, ML.sDrop, ML.eMt, ML.okL, ML.mutL, ML.fApp, ML.fExt, ML.fPop, ML.aD, ML.aR, ML.aF, ML.aNil, ML.e2, ML.b2, ML.qR, ML.qD, ML.qF, ML.eBlt, ML.oBlt, ML.bInt, ML.bLen, ML.bOrd, ML.eC, ML.eV, ML.sSet, ML.sSetO, ML.okR, ML.content, ML.contents, ML.clean, ML.gMod, ML.gAdd, ML.gDiv, ML.gSub, ML.g2I, ML.gB2, ML.gGe, ML.gLt, ML.gLe, ML.gGt, ML.e1, ML.gNeg, ML.oLst, ML.eTup, ML.datas, ML.o2, ML.gCat, ML.slL, ML.sIf, ML.sRet, ML.sRetO, ML.sRetV, ML.eIf, ML.tB_, ML.dB, ML.tNot_, ML.eIsi, ML.isTy, ML.tyName, ML.eRv, ML.oRv, ML.callM, ML.ios, ML.argOf, ML.backs, ML.rvD, ML.rvO, ML.obD, ML.eO, ML.runBody, ML.ioOk, ML.sNil, ML.gIsN, ML.isNone, ML.eNot, ML.eAnd, ML.eOr, nodeD, nodeE, hk]
    · rw [if_neg hk]; simp [ML.LIM, ML.bind, ML.ret, ML.lift, ML.xS, ML.sSeq, ML.sDrop, ML.eMt, ML.okL, ML.mutL, ML.fApp, ML.fExt, ML.fPop, ML.aD, ML.aR, ML.aF, ML.aNil, ML.e2, ML.b2, ML.qR, ML.qD, ML.qF, ML.eBlt, ML.oBlt, ML.bInt, ML.bLen, ML.bOrd, ML.eC, ML.eV, ML.sSet, ML.sSetO, ML.okR, ML.content, ML.contents, ML.clean, ML.gMod, ML.gAdd, ML.gDiv, ML.gSub, ML.g2I, ML.gB2, ML.gGe, ML.gLt, ML.gLe, ML.gGt, ML.e1, ML.gNeg, ML.oLst, ML.eTup, ML.datas, ML.o2, ML.gCat, ML.slL, ML.sIf, ML.sRet, ML.sRetO, ML.sRetV, ML.eIf, ML.tB_, ML.dB, ML.tNot_, ML.eIsi, ML.isTy, ML.tyName, ML.eRv, ML.oRv, ML.callM, ML.ios, ML.argOf, ML.backs, ML.rvD, ML.rvO, ML.obD, ML.eO, ML.runBody, ML.ioOk, ML.sNil, ML.gIsN, ML.isNone, ML.eNot, ML.eAnd, ML.eOr, nodeD, nodeE, hk]
  | list xs => obtain ⟨o, e⟩ := po_list xs; exact ⟨_, o, e, rfl⟩
  | tuple xs => obtain ⟨o, e⟩ := po_tup xs (Nat.lt_of_le_of_lt h (by decide)); exact ⟨_, o, e, rfl⟩
  | dict xs => obtain ⟨o, e⟩ := po_dict xs; exact ⟨_, o, e, rfl⟩
theorem nodeE_len {d : D} (h : fine d) {ns : List Nat} (e : nodeE d = some ns) : ns.length ≤ 1100 := by
  cases d with
  | none => cases e; simp [ML.LIM, ML.bind, ML.ret, ML.lift, ML.xS, ML.sSeq, ML.sDrop, ML.eMt, ML.okL, ML.mutL, ML.fApp, ML.fExt, ML.fPop, ML.aD, ML.aR, ML.aF, ML.aNil, ML.e2, ML.b2, ML.qR, ML.qD, ML.qF, ML.eBlt, ML.oBlt, ML.bInt, ML.bLen, ML.bOrd, ML.eC, ML.eV, ML.sSet, ML.sSetO, ML.okR, ML.content, ML.contents, ML.clean, ML.gMod, ML.gAdd, ML.gDiv, ML.gSub, ML.g2I, ML.gB2, ML.gGe, ML.gLt, ML.gLe, ML.gGt, ML.e1, ML.gNeg, ML.oLst, ML.eTup, ML.datas, ML.o2, ML.gCat, ML.slL, ML.sIf, ML.sRet, ML.sRetO, ML.sRetV, ML.eIf, ML.tB_, ML.dB, ML.tNot_, ML.eIsi, ML.isTy, ML.tyName, ML.eRv, ML.oRv, ML.callM, ML.ios, ML.argOf, ML.backs, ML.rvD, ML.rvO, ML.obD, ML.eO, ML.runBody, ML.ioOk, ML.sNil, ML.gIsN, ML.isNone, ML.eNot, ML.eAnd, ML.eOr]
  | bool b => cases e; simp [ML.LIM, ML.bind, ML.ret, ML.lift, ML.xS, ML.sSeq, ML.sDrop, ML.eMt, ML.okL, ML.mutL, ML.fApp, ML.fExt, ML.fPop, ML.aD, ML.aR, ML.aF, ML.aNil, ML.e2, ML.b2, ML.qR, ML.qD, ML.qF, ML.eBlt, ML.oBlt, ML.bInt, ML.bLen, ML.bOrd, ML.eC, ML.eV, ML.sSet, ML.sSetO, ML.okR, ML.content, ML.contents, ML.clean, ML.gMod, ML.gAdd, ML.gDiv, ML.gSub, ML.g2I, ML.gB2, ML.gGe, ML.gLt, ML.gLe, ML.gGt, ML.e1, ML.gNeg, ML.oLst, ML.eTup, ML.datas, ML.o2, ML.gCat, ML.slL, ML.sIf, ML.sRet, ML.sRetO, ML.sRetV, ML.eIf, ML.tB_, ML.dB, ML.tNot_, ML.eIsi, ML.isTy, ML.tyName, ML.eRv, ML.oRv, ML.callM, ML.ios, ML.argOf, ML.backs, ML.rvD, ML.rvO, ML.obD, ML.eO, ML.runBody, ML.ioOk, ML.sNil, ML.gIsN, ML.isNone, ML.eNot, ML.eAnd, ML.eOr]
  | int i =>
    cases e
    have := sev_len (n := zig i) h
    simp [ML.LIM, ML.bind, ML.ret, ML.lift, ML.xS, ML.sSeq, ML.sDrop, ML.eMt, ML.okL, ML.mutL, ML.fApp, ML.fExt, ML.fPop, ML.aD, ML.aR, ML.aF, ML.aNil, ML.e2, ML.b2, ML.qR, ML.qD, ML.qF, ML.eBlt, ML.oBlt, ML.bInt, ML.bLen, ML.bOrd, ML.eC, ML.eV, ML.sSet, ML.sSetO, ML.okR, ML.content, ML.contents, ML.clean, ML.gMod, ML.gAdd, ML.gDiv, ML.gSub, ML.g2I, ML.gB2, ML.gGe, ML.gLt, ML.gLe, ML.gGt, ML.e1, ML.gNeg, ML.oLst, ML.eTup, ML.datas, ML.o2, ML.gCat, ML.slL, ML.sIf, ML.sRet, ML.sRetO, ML.sRetV, ML.eIf, ML.tB_, ML.dB, ML.tNot_, ML.eIsi, ML.isTy, ML.tyName, ML.eRv, ML.oRv, ML.callM, ML.ios, ML.argOf, ML.backs, ML.rvD, ML.rvO, ML.obD, ML.eO, ML.runBody, ML.ioOk, ML.sNil, ML.gIsN, ML.isNone, ML.eNot, ML.eAnd, ML.eOr]; omega
  | str z =>
    have h' : z.length ≤ 1000 := h
    have hb : z.length < BIG := Nat.lt_of_le_of_lt h' (by decide)
    have l := sev_len hb
    have hl : z.cps.toList.length = z.length := by simp [ML.LIM, ML.bind, ML.ret, ML.lift, ML.xS, ML.sSeq, ML.sDrop, ML.eMt, ML.okL, ML.mutL, ML.fApp, ML.fExt, ML.fPop, ML.aD, ML.aR, ML.aF, ML.aNil, ML.e2, ML.b2, ML.qR, ML.qD, ML.qF, ML.eBlt, ML.oBlt, ML.bInt, ML.bLen, ML.bOrd, ML.eC, ML.eV, ML.sSet, ML.sSetO, ML.okR, ML.content, ML.contents, ML.clean, ML.gMod, ML.gAdd, ML.gDiv, ML.gSub, ML.g2I, ML.gB2, ML.gGe, ML.gLt, ML.gLe, ML.gGt, ML.e1, ML.gNeg, ML.oLst, ML.eTup, ML.datas, ML.o2, ML.gCat, ML.slL, ML.sIf, ML.sRet, ML.sRetO, ML.sRetV, ML.eIf, ML.tB_, ML.dB, ML.tNot_, ML.eIsi, ML.isTy, ML.tyName, ML.eRv, ML.oRv, ML.callM, ML.ios, ML.argOf, ML.backs, ML.rvD, ML.rvO, ML.obD, ML.eO, ML.runBody, ML.ioOk, ML.sNil, ML.gIsN, ML.isNone, ML.eNot, ML.eAnd, ML.eOr, Str.length]
    have e' : (if okS z = true then some (3 :: (sev z.length ++ z.cps.toList)) else none) = some ns := e
    obtain ⟨_, rfl⟩ := ite_some e'
    rw [List.length_cons, List.length_append, hl]; omega
  | list xs => cases e
  | tuple xs =>
    cases e
    have h' : xs.length ≤ 1000 := h
    have hb : xs.length < BIG := Nat.lt_of_le_of_lt h' (by decide)
    have l := sev_len hb
    simp [ML.LIM, ML.bind, ML.ret, ML.lift, ML.xS, ML.sSeq, ML.sDrop, ML.eMt, ML.okL, ML.mutL, ML.fApp, ML.fExt, ML.fPop, ML.aD, ML.aR, ML.aF, ML.aNil, ML.e2, ML.b2, ML.qR, ML.qD, ML.qF, ML.eBlt, ML.oBlt, ML.bInt, ML.bLen, ML.bOrd, ML.eC, ML.eV, ML.sSet, ML.sSetO, ML.okR, ML.content, ML.contents, ML.clean, ML.gMod, ML.gAdd, ML.gDiv, ML.gSub, ML.g2I, ML.gB2, ML.gGe, ML.gLt, ML.gLe, ML.gGt, ML.e1, ML.gNeg, ML.oLst, ML.eTup, ML.datas, ML.o2, ML.gCat, ML.slL, ML.sIf, ML.sRet, ML.sRetO, ML.sRetV, ML.eIf, ML.tB_, ML.dB, ML.tNot_, ML.eIsi, ML.isTy, ML.tyName, ML.eRv, ML.oRv, ML.callM, ML.ios, ML.argOf, ML.backs, ML.rvD, ML.rvO, ML.obD, ML.eO, ML.runBody, ML.ioOk, ML.sNil, ML.gIsN, ML.isNone, ML.eNot, ML.eAnd, ML.eOr]; omega
  | dict xs => cases e
/-! ## the check sum -/
def cs : Nat → List Nat → Nat
  | _, [] => 0
  | k, x :: r => (k + 1) * x + cs (k + 1) r
def csf : D → D
  | .tuple [.int i, .int x] => .int ((i + 1) * x)
  | _ => .none
theorem cs_ints : ∀ (xs : List Nat) (k : Nat), ∃ is, dInts ((enumD k (xs.map nI)).map csf) = some is ∧ is.sum = (cs k xs : Int)
  | [], k => ⟨[], rfl, rfl⟩
  | x :: r, k => by
    obtain ⟨is, h1, h2⟩ := cs_ints r (k + 1)
    refine ⟨((k : Int) + 1) * (x : Int) :: is, ?_, ?_⟩
    · show dInts (csf (.tuple [.int (k : Nat), nI x]) :: (enumD (k + 1) (r.map nI)).map csf) = _
      show (dInts ((enumD (k + 1) (r.map nI)).map csf)).map _ = _
      rw [h1]; rfl
    · rw [List.sum_cons, h2, cs]; push_cast; rfl
theorem enumD_mem : ∀ (xs : List Nat) (k : Nat) (d : D), d ∈ enumD k (xs.map nI) → ∃ (i x : Nat), d = .tuple [.int (i : Int), nI x] ∧ x ∈ xs
  | [], k, d, h => by cases h
  | x :: r, k, d, h => by
    have h' : d ∈ (.tuple [.int (k : Nat), nI x] :: enumD (k + 1) (r.map nI)) := h
    rcases List.mem_cons.mp h' with e | h2
    · exact ⟨k, x, e, List.mem_cons_self⟩
    · obtain ⟨i, y, e, hy⟩ := enumD_mem r (k + 1) d h2
      exact ⟨i, y, e, List.mem_cons_of_mem _ hy⟩
theorem sm_ok (x : Nat) (h : x < 1000) : small (x : Int) = true := by
  unfold small
  simp [ML.LIM, ML.bind, ML.ret, ML.lift, ML.xS, ML.sSeq, ML.sDrop, ML.eMt, ML.okL, ML.mutL, ML.fApp, ML.fExt, ML.fPop, ML.aD, ML.aR, ML.aF, ML.aNil, ML.e2, ML.b2, ML.qR, ML.qD, ML.qF, ML.eBlt, ML.oBlt, ML.bInt, ML.bLen, ML.bOrd, ML.eC, ML.eV, ML.sSet, ML.sSetO, ML.okR, ML.content, ML.contents, ML.clean, ML.gMod, ML.gAdd, ML.gDiv, ML.gSub, ML.g2I, ML.gB2, ML.gGe, ML.gLt, ML.gLe, ML.gGt, ML.e1, ML.gNeg, ML.oLst, ML.eTup, ML.datas, ML.o2, ML.gCat, ML.slL, ML.sIf, ML.sRet, ML.sRetO, ML.sRetV, ML.eIf, ML.tB_, ML.dB, ML.tNot_, ML.eIsi, ML.isTy, ML.tyName, ML.eRv, ML.oRv, ML.callM, ML.ios, ML.argOf, ML.backs, ML.rvD, ML.rvO, ML.obD, ML.eO, ML.runBody, ML.ioOk, ML.sNil, ML.gIsN, ML.isNone, ML.eNot, ML.eAnd, ML.eOr]; omega
theorem lim_ok {n : Nat} (h : n ≤ 1000000) : n ≤ LIM := by show n ≤ 10000000; omega
theorem gm (i x : Int) (h : small x = true) : gMul (.d (.int i)) (.d (.int x)) = some (.int (i * x)) := by
  show ((if small i = true ∨ small x = true then some (i * x) else none) : Option Int).map PySem.PyData.int = _
  rw [if_pos (Or.inr h)]; rfl
theorem gm1 (i x : Int) (h : small i = true) : gMul (.d (.int i)) (.d (.int x)) = some (.int (i * x)) := by
  show ((if small i = true ∨ small x = true then some (i * x) else none) : Option Int).map PySem.PyData.int = _
  rw [if_pos (Or.inl h)]; rfl
theorem c1_ok (a : Sl) (i x : Int) (h : small x = true) : m_check_octet_c1 [a, .d (.int i), .d (.int x)] = .ok (.int ((i + 1) * x)) [a, .d (.int i), .d (.int x)] := by
  show (lift (gMul (.d (.int (i + 1))) (.d (.int x))) : M D) _ = _
  rw [gm _ _ h]; rfl
theorem cf_ok (a : Sl) (xs : List Nat) (hx : ∀ x ∈ xs, x < 1000) (d : D) (hd : d ∈ enumD 0 (xs.map nI)) : ∃ e1, gT (gCons (gN 1) (gCons (gN 2) gNil)) d [a, .un, .un] = some e1 ∧ (ret true : M Bool) e1 = .ok true e1 ∧ (true = true → m_check_octet_c1 e1 = .ok (csf d) e1) ∧ wipeE e1 [1, 2] = [a, .un, .un] := by
  obtain ⟨i, x, rfl, hxm⟩ := enumD_mem xs 0 d hd
  refine ⟨[a, .d (.int (i : Int)), .d (nI x)], by simp [ML.LIM, ML.bind, ML.ret, ML.lift, ML.xS, ML.sSeq, ML.sDrop, ML.eMt, ML.okL, ML.mutL, ML.fApp, ML.fExt, ML.fPop, ML.aD, ML.aR, ML.aF, ML.aNil, ML.e2, ML.b2, ML.qR, ML.qD, ML.qF, ML.eBlt, ML.oBlt, ML.bInt, ML.bLen, ML.bOrd, ML.eC, ML.eV, ML.sSet, ML.sSetO, ML.okR, ML.content, ML.contents, ML.clean, ML.gMod, ML.gAdd, ML.gDiv, ML.gSub, ML.g2I, ML.gB2, ML.gGe, ML.gLt, ML.gLe, ML.gGt, ML.e1, ML.gNeg, ML.oLst, ML.eTup, ML.datas, ML.o2, ML.gCat, ML.slL, ML.sIf, ML.sRet, ML.sRetO, ML.sRetV, ML.eIf, ML.tB_, ML.dB, ML.tNot_, ML.eIsi, ML.isTy, ML.tyName, ML.eRv, ML.oRv, ML.callM, ML.ios, ML.argOf, ML.backs, ML.rvD, ML.rvO, ML.obD, ML.eO, ML.runBody, ML.ioOk, ML.sNil, ML.gIsN, ML.isNone, ML.eNot, ML.eAnd, ML.eOr, gT, gCons, gN, gNil], by simp [ML.LIM, ML.bind, ML.ret, ML.lift, ML.xS, ML.sSeq, ML.sDrop, ML.eMt, ML.okL, ML.mutL, ML.fApp, ML.fExt, ML.fPop, ML.aD, ML.aR, ML.aF, ML.aNil, ML.e2, ML.b2, ML.qR, ML.qD, ML.qF, ML.eBlt, ML.oBlt, ML.bInt, ML.bLen, ML.bOrd, ML.eC, ML.eV, ML.sSet, ML.sSetO, ML.okR, ML.content, ML.contents, ML.clean, ML.gMod, ML.gAdd, ML.gDiv, ML.gSub, ML.g2I, ML.gB2, ML.gGe, ML.gLt, ML.gLe, ML.gGt, ML.e1, ML.gNeg, ML.oLst, ML.eTup, ML.datas, ML.o2, ML.gCat, ML.slL, ML.sIf, ML.sRet, ML.sRetO, ML.sRetV, ML.eIf, ML.tB_, ML.dB, ML.tNot_, ML.eIsi, ML.isTy, ML.tyName, ML.eRv, ML.oRv, ML.callM, ML.ios, ML.argOf, ML.backs, ML.rvD, ML.rvO, ML.obD, ML.eO, ML.runBody, ML.ioOk, ML.sNil, ML.gIsN, ML.isNone, ML.eNot, ML.eAnd, ML.eOr], fun _ => ?_, by simp [ML.LIM, ML.bind, ML.ret, ML.lift, ML.xS, ML.sSeq, ML.sDrop, ML.eMt, ML.okL, ML.mutL, ML.fApp, ML.fExt, ML.fPop, ML.aD, ML.aR, ML.aF, ML.aNil, ML.e2, ML.b2, ML.qR, ML.qD, ML.qF, ML.eBlt, ML.oBlt, ML.bInt, ML.bLen, ML.bOrd, ML.eC, ML.eV, ML.sSet, ML.sSetO, ML.okR, ML.content, ML.contents, ML.clean, ML.gMod, ML.gAdd, ML.gDiv, ML.gSub, ML.g2I, ML.gB2, ML.gGe, ML.gLt, ML.gLe, ML.gGt, ML.e1, ML.gNeg, ML.oLst, ML.eTup, ML.datas, ML.o2, ML.gCat, ML.slL, ML.sIf, ML.sRet, ML.sRetO, ML.sRetV, ML.eIf, ML.tB_, ML.dB, ML.tNot_, ML.eIsi, ML.isTy, ML.tyName, ML.eRv, ML.oRv, ML.callM, ML.ios, ML.argOf, ML.backs, ML.rvD, ML.rvO, ML.obD, ML.eO, ML.runBody, ML.ioOk, ML.sNil, ML.gIsN, ML.isNone, ML.eNot, ML.eAnd, ML.eOr, wipeE]⟩
  exact c1_ok a i x (sm_ok x (hx x hxm))
theorem check_ok (xs : List Nat) (hx : ∀ x ∈ xs, x < 1000) (hl : xs.length ≤ 1000000) : ∃ o, F_check_octet [.d (.list (xs.map nI))] = .ok (.d (nI (cs 0 xs % 251))) o := by
  obtain ⟨is, h1, h2⟩ := cs_ints xs 0
  have e := compL_map (g := gT (gCons (gN 1) (gCons (gN 2) gNil))) (tt := ret true) (te := m_check_octet_c1) (vs := [1, 2]) (e0 := [.d (.list (xs.map nI)), .un, .un]) (p := fun _ => true) (f := csf) (enumD 0 (xs.map nI)) [] (cf_ok _ xs hx) (by
    rw [enumD_len, List.length_map, List.length_nil, Nat.zero_add]; exact lim_ok hl)
  rw [List.filter_eq_self.mpr (fun _ _ => rfl), List.nil_append] at e
  have oc : o_check_octet_1 [.d (.list (xs.map nI)), .un, .un] = .ok (.lst ((enumD 0 (xs.map nI)).map csf)) [.d (.list (xs.map nI)), .un, .un] := by
    simp only [o_check_octet_1, oComp, iEn, ML.bind, ML.eV, ML.lift, dLst, List.getElem?_cons_zero, Option.map_some, wipeE, List.set]
    rw [e]
    simp [ML.LIM, ML.bind, ML.ret, ML.lift, ML.xS, ML.sSeq, ML.sDrop, ML.eMt, ML.okL, ML.mutL, ML.fApp, ML.fExt, ML.fPop, ML.aD, ML.aR, ML.aF, ML.aNil, ML.e2, ML.b2, ML.qR, ML.qD, ML.qF, ML.eBlt, ML.oBlt, ML.bInt, ML.bLen, ML.bOrd, ML.eC, ML.eV, ML.sSet, ML.sSetO, ML.okR, ML.content, ML.contents, ML.clean, ML.gMod, ML.gAdd, ML.gDiv, ML.gSub, ML.g2I, ML.gB2, ML.gGe, ML.gLt, ML.gLe, ML.gGt, ML.e1, ML.gNeg, ML.oLst, ML.eTup, ML.datas, ML.o2, ML.gCat, ML.slL, ML.sIf, ML.sRet, ML.sRetO, ML.sRetV, ML.eIf, ML.tB_, ML.dB, ML.tNot_, ML.eIsi, ML.isTy, ML.tyName, ML.eRv, ML.oRv, ML.callM, ML.ios, ML.argOf, ML.backs, ML.rvD, ML.rvO, ML.obD, ML.eO, ML.runBody, ML.ioOk, ML.sNil, ML.gIsN, ML.isNone, ML.eNot, ML.eAnd, ML.eOr, restE, dataAt]
  refine ⟨[.d (.list (xs.map nI))], ?_⟩
  simp [ML.LIM, ML.bind, ML.ret, ML.lift, ML.xS, ML.sSeq, ML.sDrop, ML.eMt, ML.okL, ML.mutL, ML.fApp, ML.fExt, ML.fPop, ML.aD, ML.aR, ML.aF, ML.aNil, ML.e2, ML.b2, ML.qR, ML.qD, ML.qF, ML.eBlt, ML.oBlt, ML.bInt, ML.bLen, ML.bOrd, ML.eC, ML.eV, ML.sSet, ML.sSetO, ML.okR, ML.content, ML.contents, ML.clean, ML.gMod, ML.gAdd, ML.gDiv, ML.gSub, ML.g2I, ML.gB2, ML.gGe, ML.gLt, ML.gLe, ML.gGt, ML.e1, ML.gNeg, ML.oLst, ML.eTup, ML.datas, ML.o2, ML.gCat, ML.slL, ML.sIf, ML.sRet, ML.sRetO, ML.sRetV, ML.eIf, ML.tB_, ML.dB, ML.tNot_, ML.eIsi, ML.isTy, ML.tyName, ML.eRv, ML.oRv, ML.callM, ML.ios, ML.argOf, ML.backs, ML.rvD, ML.rvO, ML.obD, ML.eO, ML.runBody, ML.ioOk, ML.sNil, ML.gIsN, ML.isNone, ML.eNot, ML.eAnd, ML.eOr, F_check_octet, m_check_octet, oc, bSum, h1, h2]
  rfl
end K62
end

section
set_option Elab.async false
set_option linter.all false
set_option maxRecDepth 100000
set_option maxHeartbeats 2000000
/-! # Mirrors, applied to slots -/
namespace ML
open PySem (Str)
open L2 (Key)
section
variable {α β : Type} {e : List Sl}
@[simp] theorem bind_e {m : M α} {f : α → M β} : ML.bind m f e = (match m e with
  | .ok a e' => f a e'
  | .ex c e' => .ex c e'
  | .bad => .bad) := rfl
@[simp] theorem ret_e {a : α} : ML.ret a e = .ok a e := rfl
@[simp] theorem lift_some {a : α} : ML.lift (some a) e = .ok a e := rfl
@[simp] theorem lift_none : ML.lift (none : Option α) e = .bad := rfl
@[simp] theorem bindO_some {a : α} {f : α → M β} : bindO (some a) f e = f a e := rfl
@[simp] theorem bindO_none {f : α → M β} : bindO none f e = .bad := rfl
@[simp] theorem eC_e {d : D} : eC d e = .ok d e := rfl
@[simp] theorem eV_e {i : Nat} : eV i e = (match e[i]? with
  | some (.d x) => .ok x e
  | some (.o true (.lst xs)) => .ok (.list xs) (e.set i (.d (.list xs)))
  | _ => .bad) := rfl
@[simp] theorem okR_e {i : Nat} : okR i e = (match e[i]? with
  | some .un => .bad
  | some _ => .ok () e
  | none => .bad) := rfl
@[simp] theorem qD_e {m : M D} : qD m e = ML.bind m (fun x => ML.ret (.d x)) e := rfl
@[simp] theorem qR_e {i : Nat} : qR i e = ML.bind (okR i) (fun _ => ML.ret (.ref i)) e := rfl
@[simp] theorem qF_e {m : M Ob} : qF m e = ML.bind m (fun x => ML.ret (.fr x)) e := rfl
@[simp] theorem e2_e {g : Sl → Sl → Option D} {a b : M AV} : e2 g a b e = ML.bind a (fun a => ML.bind b fun b => fun e => ML.lift (g (content e a) (content e b)) e) e := rfl
@[simp] theorem b2_e {g : Sl → Sl → Option D} {a b : M AV} : b2 g a b e = ML.bind a (fun a => ML.bind b fun b => fun e => ML.lift ((g (content e a) (content e b)).bind dB) e) e := rfl
@[simp] theorem o2_e {g : Sl → Sl → Option (List D)} {a b : M AV} : o2 g a b e = ML.bind a (fun a => ML.bind b fun b => fun e => ML.lift ((g (content e a) (content e b)).map Ob.lst) e) e := rfl
@[simp] theorem aNil_e : aNil e = .ok [] e := rfl
@[simp] theorem aD_e {m : M D} {r : M (List AV)} : aD m r e = ML.bind m (fun x => ML.bind r fun xs => ML.ret (.d x :: xs)) e := rfl
@[simp] theorem aR_e {i : Nat} {r : M (List AV)} : aR i r e = ML.bind (okR i) (fun _ => ML.bind r fun xs => ML.ret (.ref i :: xs)) e := rfl
@[simp] theorem aF_e {m : M Ob} {r : M (List AV)} : aF m r e = ML.bind m (fun x => ML.bind r fun xs => ML.ret (.fr x :: xs)) e := rfl
@[simp] theorem eO_e {m : M Ob} : eO m e = ML.bind m (fun k => ML.lift (obD k)) e := rfl
@[simp] theorem eBlt_e {g : List Sl → Option D} {m : M (List AV)} : eBlt g m e = ML.bind m (fun as => fun e => ML.lift (g (contents e as)) e) e := rfl
@[simp] theorem oBlt_e {g : List Sl → Option (List D)} {m : M (List AV)} : oBlt g m e = ML.bind m (fun as => fun e => ML.lift ((g (contents e as)).map Ob.lst) e) e := rfl
@[simp] theorem eTup_e {m : M (List AV)} : eTup m e = ML.bind m (fun as => ML.lift ((datas as).bind fun xs => if xs.length ≤ LIM then some (.tuple xs) else none)) e := rfl
@[simp] theorem oLst_e {m : M (List AV)} : oLst m e = ML.bind m (fun as => ML.lift ((datas as).bind fun xs => if xs.length ≤ LIM then some (.lst xs) else none)) e := rfl
@[simp] theorem eNot_e {m : M D} : eNot m e = ML.bind m (fun x => ML.lift ((dB x).map fun b => .bool (!b))) e := rfl
@[simp] theorem eIf_e {t : M Bool} {m n : M D} : eIf t m n e = ML.bind t (fun b => if b = true then m else n) e := rfl
@[simp] theorem oIf_e {t : M Bool} {m n : M Ob} : oIf t m n e = ML.bind t (fun b => if b = true then m else n) e := rfl
@[simp] theorem eAnd_e {m n : M D} : eAnd m n e = ML.bind m (fun x => fun e => match x with
  | .bool true => n e
  | .bool false => .ok (.bool false) e
  | _ => .bad) e := rfl
@[simp] theorem eOr_e {m n : M D} : eOr m n e = ML.bind m (fun x => fun e => match x with
  | .bool true => .ok (.bool true) e
  | .bool false => n e
  | _ => .bad) e := rfl
@[simp] theorem tB_e {m : M D} : tB_ m e = ML.bind m (fun x => ML.lift (dB x)) e := rfl
@[simp] theorem tNot_e {m : M Bool} : tNot_ m e = ML.bind m (fun b => ML.ret (!b)) e := rfl
@[simp] theorem tAnd_e {m n : M Bool} : tAnd_ m n e = ML.bind m (fun b => if b = true then n else ML.ret false) e := rfl
@[simp] theorem tOr_e {m n : M Bool} : tOr_ m n e = ML.bind m (fun b => if b = true then ML.ret true else n) e := rfl
@[simp] theorem e1_e {g : Sl → Option D} {m : M D} : e1 g m e = ML.bind m (fun x => ML.lift (g (.d x))) e := rfl
@[simp] theorem eIsi_e {T : String} {m : M D} : eIsi T m e = ML.bind m (fun x => ML.ret (.bool (isTy T x))) e := rfl
@[simp] theorem okL_e {i : Nat} : okL i e = (match e[i]? with
  | some (.o _ (.lst _)) => .ok () e
  | _ => .bad) := rfl
@[simp] theorem mutL_e {i : Nat} {f : List D → Option (D × List D)} : mutL i f e = (match e[i]? with
  | some (.o l (.lst xs)) => match f xs with
    | some (z, ys) => .ok z (e.set i (.o l (.lst ys)))
    | none => .bad
  | _ => .bad) := rfl
@[simp] theorem eMt_e {i : Nat} {f : List D → List Sl → Option (D × List D)} {m : M (List AV)} : eMt i f m e = ML.bind (okL i) (fun _ => ML.bind m fun as => fun e => mutL i (fun xs => f xs (contents e as)) e) e := rfl
@[simp] theorem iD_e {m : M D} : iD m e = ML.bind m (fun x => ML.lift (dItems x)) e := rfl
@[simp] theorem iRg_e {f : List AV → Option (List D)} {m : M (List AV)} : iRg f m e = ML.bind m (fun as => ML.lift (f as)) e := rfl
@[simp] theorem iEn_e {m : M D} : iEn m e = ML.bind m (fun x => ML.lift ((dLst x).map (enumD 0))) e := rfl
@[simp] theorem ptI_e {m : M D} : ptI m e = ML.bind m (fun x => ML.lift ((dI x).map some)) e := rfl
@[simp] theorem eSl_e {g : Sl → Option Int → Option Int → Option D} {m : M AV} {ml mh : M (Option Int)} : eSl g m ml mh e = ML.bind m (fun a => ML.bind ml fun lo => ML.bind mh fun hi => fun e => ML.lift (g (content e a) lo hi) e) e := rfl
@[simp] theorem oSl_e {g : Sl → Option Int → Option Int → Option (List D)} {m : M AV} {ml mh : M (Option Int)} : oSl g m ml mh e = ML.bind m (fun a => ML.bind ml fun lo => ML.bind mh fun hi => fun e => ML.lift ((g (content e a) lo hi).map Ob.lst) e) e := rfl
@[simp] theorem eIndex_e {mo m : M D} : eIndex mo m e = ML.bind mo (fun x => bindO (dStr x) fun a => ML.bind m fun y => bindO (dStr y) fun b => ML.lift ((PySem.Txt.index0 a b).map fun k => .int (k : Nat))) e := rfl
@[simp] theorem eJoin_e {mo : M D} {m : M AV} : eJoin mo m e = ML.bind mo (fun x => bindO (dStr x) fun a => ML.bind m fun v => fun e => ML.lift ((slL (content e v)).bind fun xs => (dStrs xs).bind fun ys => if joinOk a ys = true then some (.str (PySem.Txt.join a ys)) else none) e) e := rfl
@[simp] theorem eRevT_e {m : M D} : eRevT m e = ML.bind m (fun x => ML.lift ((dTup x).map fun xs => .tuple xs.reverse)) e := rfl
@[simp] theorem oRevL_e {m : M D} : oRevL m e = ML.bind m (fun x => ML.lift ((dTup x).map fun xs => .lst xs.reverse)) e := rfl
@[simp] theorem oDct_e {m : M (List (Key × D))} : oDct m e = ML.bind m (fun kvs => ML.lift (if nodupK kvs = true ∧ kvs.length ≤ 15 then some (.dct kvs) else none)) e := rfl
@[simp] theorem kNil_e : kNil e = .ok [] e := rfl
@[simp] theorem kCons_e {mk mv : M D} {r : M (List (Key × D))} : kCons mk mv r e = ML.bind mk (fun x => bindO (keyOf x) fun k => ML.bind mv fun y => ML.bind r fun kvs => ML.ret ((k, y) :: kvs)) e := rfl
@[simp] theorem eDGet_e {mo : M Ob} {my : M D} : eDGet mo my e = ML.bind mo (fun k => bindO (obK k) fun kvs => ML.bind my fun y => bindO (keyOf y) fun ky => ML.lift (valD kvs ky)) e := rfl
@[simp] theorem eFld_e {i : Nat} {c f : Str} : eFld i c f e = (match e[i]? with
  | some (.o _ (.ins c' fs)) => if c' = c then ML.lift (fs.lookup f) e else .bad
  | _ => .bad) := rfl
@[simp] theorem eChain_e {g g' : Sl → Sl → Option D} {ma mb mc : M AV} : eChain g g' ma mb mc e = ML.bind ma (fun a => ML.bind mb fun b => fun e => match (g (content e a) (content e b)).bind dB with
  | some true => ML.bind mc (fun c => fun e => ML.lift (g' (content e b) (content e c)) e) e
  | some false => .ok (.bool false) e
  | none => .bad) e := rfl
@[simp] theorem xS_e {m : M α} {f : α → MStm} : xS m f e = (match m e with
  | .ok a e' => f a e'
  | .ex c e' => .ex c e'
  | .bad => .bad) := rfl
@[simp] theorem sNil_e : sNil e = .nx e := rfl
@[simp] theorem sBk_e : sBk e = .bk e := rfl
@[simp] theorem sCt_e : sCt e = .ct e := rfl
@[simp] theorem sSeq_e {m n : MStm} : sSeq m n e = (match m e with
  | .nx e' => n e'
  | r => r) := rfl
@[simp] theorem sSet_e {i : Nat} {m : M D} : sSet i m e = xS m (fun x e => .nx (e.set i (.d x))) e := rfl
@[simp] theorem sSetO_e {i : Nat} {m : M Ob} : sSetO i m e = xS m (fun k e => .nx (e.set i (.o true k))) e := rfl
@[simp] theorem sDrop_e {m : M D} : sDrop m e = xS m (fun _ e => .nx e) e := rfl
@[simp] theorem sIf_e {t : M Bool} {m n : MStm} : sIf t m n e = xS t (fun b => if b = true then m else n) e := rfl
@[simp] theorem sRet_e {m : M D} : sRet m e = xS m (fun x e => .rt (.d x) e) e := rfl
@[simp] theorem sRetO_e {m : M Ob} : sRetO m e = xS m (fun k e => .rt (.o k) e) e := rfl
@[simp] theorem sRetV_e {i : Nat} : sRetV i e = (match e[i]? with
  | some (.d x) => .rt (.d x) e
  | some (.o true k) => .rt (.o k) (e.set i .un)
  | _ => .bad) := rfl
@[simp] theorem sRaise_e {c : Str} : sRaise c e = .ex c e := rfl
@[simp] theorem sAsg_e {g : GF} {m : M D} : sAsg g m e = xS m (fun x => fun e => match g x e with
  | some e' => .nx e'
  | none => .bad) e := rfl
@[simp] theorem sAug_e {i : Nat} {g : Sl → Sl → Option D} {m : M D} : sAug i g m e = (match e[i]? with
  | some (.d x) => xS m (fun y e2 => match g (.d x) (.d y) with
    | some z => .nx (e2.set i (.d z))
    | none => .bad) e
  | _ => .bad) := rfl
@[simp] theorem setF_e {i : Nat} {c f : Str} {v : D} : setF i c f v e = (match e[i]? with
  | some (.o l (.ins c' fs)) => if c' = c ∧ fs.length < 1000 then .nx (e.set i (.o l (.ins c (putFD f v fs)))) else .bad
  | _ => .bad) := rfl
@[simp] theorem sFld_e {i : Nat} {c f : Str} {m : M D} : sFld_ i c f m e = xS m (fun v => setF i c f v) e := rfl
@[simp] theorem sAugF_e {i : Nat} {c f : Str} {g : Sl → Sl → Option D} {m : M D} : sAugF i c f g m e = xS (eFld i c f) (fun x => xS m fun y => fun e => match g (.d x) (.d y) with
  | some z => setF i c f z e
  | none => .bad) e := rfl
@[simp] theorem sFor_e {mi : M (List D)} {g : GF} {mb : MStm} : sFor mi g mb e = xS mi (fun ds => forL g mb ds) e := rfl
@[simp] theorem sPar_e {i j : Nat} {m : M (List AV)} : sPar i j m e = xS m (fun as => fun e => match as with
  | [a, b] => match avSl a, avSl b with
    | some s, some t => .nx ((e.set i s).set j t)
    | _, _ => .bad
  | _ => .bad) e := rfl
@[simp] theorem gGe_e {i j : Int} : gGe (.d (.int i)) (.d (.int j)) = some (.bool (decide (j ≤ i))) := rfl
@[simp] theorem gGt_e {i j : Int} : gGt (.d (.int i)) (.d (.int j)) = some (.bool (decide (j < i))) := rfl
@[simp] theorem gLe_e {i j : Int} : gLe (.d (.int i)) (.d (.int j)) = some (.bool (decide (i ≤ j))) := rfl
@[simp] theorem gLt_e {i j : Int} : gLt (.d (.int i)) (.d (.int j)) = some (.bool (decide (i < j))) := rfl
@[simp] theorem gSub_e {i j : Int} : gSub (.d (.int i)) (.d (.int j)) = some (.int (i - j)) := rfl
@[simp] theorem gMod_e {i j : Int} : gMod (.d (.int i)) (.d (.int j)) = if 0 < j then some (.int (i % j)) else none := by
  show (if 0 < j then some (i % j) else none : Option Int).map PySem.PyData.int = _
  split <;> rfl
@[simp] theorem gDiv_e {i j : Int} : gDiv (.d (.int i)) (.d (.int j)) = if 0 < j ∧ j.natAbs < 1073741824 then some (.int (i / j)) else none := by
  show (if 0 < j ∧ j.natAbs < 1073741824 then some (i / j) else none : Option Int).map PySem.PyData.int = _
  split <;> rfl
@[simp] theorem gN_e {i : Nat} {d : D} : gN i d e = some (e.set i (.d d)) := rfl
/-- a call with data alone -/
theorem call1 {F : List Sl → CR} {m : M D} {x v : D} {e e' : List Sl} {r : RV} {o : List Sl} (h : m e = .ok x e') (hF : F [.d x] = .ok r o) (hv : rvD r = some v) : eRv (callM F (aD m aNil)) e = .ok v e' := by
  simp [ML.LIM, ML.content, ML.contents, ML.clean, ML.avSl, ML.datas, ML.obD, ML.slL, ML.seqOf, ML.dB, ML.dI, ML.dItems, ML.dTup, ML.dLst, ML.dStr, ML.isNone, ML.gIsN, ML.gNeg, ML.gAdd, ML.bInt, ML.tyName, ML.isTy, ML.ioOk, ML.gT, ML.gCons, ML.gNil, ML.fApp, ML.fExt, ML.fPop, eRv, h, callM, ios, contents, content, argOf, hF, backs, hv]
theorem call1x {F : List Sl → CR} {m : M D} {x : D} {e e' : List Sl} {c : Str} {o : List Sl} (h : m e = .ok x e') (hF : F [.d x] = .ex c o) : eRv (callM F (aD m aNil)) e = .ex c e' := by
  simp [ML.LIM, ML.content, ML.contents, ML.clean, ML.avSl, ML.datas, ML.obD, ML.slL, ML.seqOf, ML.dB, ML.dI, ML.dItems, ML.dTup, ML.dLst, ML.dStr, ML.isNone, ML.gIsN, ML.gNeg, ML.gAdd, ML.bInt, ML.tyName, ML.isTy, ML.ioOk, ML.gT, ML.gCons, ML.gNil, ML.fApp, ML.fExt, ML.fPop, eRv, h, callM, ios, contents, content, argOf, hF, backs]
theorem call2 {F : List Sl → CR} {m m2 : M D} {x y v : D} {e e' e'' : List Sl} {r : RV} {o : List Sl} (h : m e = .ok x e') (h2 : m2 e' = .ok y e'') (hF : F [.d x, .d y] = .ok r o) (hv : rvD r = some v) : eRv (callM F (aD m (aD m2 aNil))) e = .ok v e'' := by
  simp [ML.LIM, ML.content, ML.contents, ML.clean, ML.avSl, ML.datas, ML.obD, ML.slL, ML.seqOf, ML.dB, ML.dI, ML.dItems, ML.dTup, ML.dLst, ML.dStr, ML.isNone, ML.gIsN, ML.gNeg, ML.gAdd, ML.bInt, ML.tyName, ML.isTy, ML.ioOk, ML.gT, ML.gCons, ML.gNil, ML.fApp, ML.fExt, ML.fPop, eRv, h, h2, callM, ios, contents, content, argOf, hF, backs, hv]
theorem call3 {F : List Sl → CR} {m m2 m3 : M D} {x y z v : D} {e e' e'' e3 : List Sl} {r : RV} {o : List Sl} (h : m e = .ok x e') (h2 : m2 e' = .ok y e'') (h3 : m3 e'' = .ok z e3) (hF : F [.d x, .d y, .d z] = .ok r o) (hv : rvD r = some v) : eRv (callM F (aD m (aD m2 (aD m3 aNil)))) e = .ok v e3 := by
  simp [ML.LIM, ML.content, ML.contents, ML.clean, ML.avSl, ML.datas, ML.obD, ML.slL, ML.seqOf, ML.dB, ML.dI, ML.dItems, ML.dTup, ML.dLst, ML.dStr, ML.isNone, ML.gIsN, ML.gNeg, ML.gAdd, ML.bInt, ML.tyName, ML.isTy, ML.ioOk, ML.gT, ML.gCons, ML.gNil, ML.fApp, ML.fExt, ML.fPop, eRv, h, h2, h3, callM, ios, contents, content, argOf, hF, backs, hv]
end
end ML
end

section
set_option Elab.async false
set_option linter.all false
set_option maxRecDepth 100000
set_option maxHeartbeats 2000000
namespace K62
open PySem (Str)
open L2 (atI ixN)
open ML
mutual
/-- all of a thing's octets, if it is one that can be told -/
def encO : D → Option (List Nat)
  | .none => some [5]
  | .bool b => some [if b then 2 else 1]
  | .int i => some (0 :: sev (zig i))
  | .str z => if okS z = true then some (3 :: (sev z.length ++ z.cps.toList)) else none
  | .tuple xs => (encOs xs).map fun r => 4 :: sev xs.length ++ r
  | .list _ => none
  | .dict _ => none
def encOs : List D → Option (List Nat)
  | [] => some []
  | x :: xs => (encO x).bind fun a => (encOs xs).map fun r => a ++ r
end
mutual
def allF : D → Prop
  | .none => True
  | .bool _ => True
  | .int i => zig i < BIG
  | .str z => z.length ≤ 1000
  | .tuple xs => xs.length ≤ 1000 ∧ allFs xs
  | .list _ => True
  | .dict _ => True
def allFs : List D → Prop
  | [] => True
  | x :: xs => allF x ∧ allFs xs
end
mutual
def nod : D → Nat
  | .tuple xs => 1 + nods xs
  | .none => 1
  | .bool _ => 1
  | .int _ => 1
  | .str _ => 1
  | .list _ => 1
  | .dict _ => 1
def nods : List D → Nat
  | [] => 0
  | x :: xs => nod x + nods xs
end
theorem nod_pos (d : D) : 1 ≤ nod d := by cases d <;> simp [ML.LIM, ML.content, ML.contents, ML.clean, ML.avSl, ML.datas, ML.obD, ML.slL, ML.seqOf, ML.dB, ML.dI, ML.dItems, ML.dTup, ML.dLst, ML.dStr, ML.isNone, ML.gIsN, ML.gNeg, ML.gAdd, ML.bInt, ML.tyName, ML.isTy, ML.ioOk, ML.gT, ML.gCons, ML.gNil, ML.fApp, ML.fExt, ML.fPop, nod]
theorem nods_append (xs ys : List D) : nods (xs ++ ys) = nods xs + nods ys := by
  induction xs with
  | nil => simp [ML.LIM, ML.content, ML.contents, ML.clean, ML.avSl, ML.datas, ML.obD, ML.slL, ML.seqOf, ML.dB, ML.dI, ML.dItems, ML.dTup, ML.dLst, ML.dStr, ML.isNone, ML.gIsN, ML.gNeg, ML.gAdd, ML.bInt, ML.tyName, ML.isTy, ML.ioOk, ML.gT, ML.gCons, ML.gNil, ML.fApp, ML.fExt, ML.fPop, nods]
  | cons x xs ih => rw [List.cons_append, nods, nods, ih]; omega
theorem nods_len (xs : List D) : xs.length ≤ nods xs := by
  induction xs with
  | nil => simp [ML.LIM, ML.content, ML.contents, ML.clean, ML.avSl, ML.datas, ML.obD, ML.slL, ML.seqOf, ML.dB, ML.dI, ML.dItems, ML.dTup, ML.dLst, ML.dStr, ML.isNone, ML.gIsN, ML.gNeg, ML.gAdd, ML.bInt, ML.tyName, ML.isTy, ML.ioOk, ML.gT, ML.gCons, ML.gNil, ML.fApp, ML.fExt, ML.fPop]
  | cons x xs ih => rw [List.length_cons, nods]; have := nod_pos x; omega
theorem allFs_append {xs ys : List D} : allFs (xs ++ ys) ↔ allFs xs ∧ allFs ys := by
  induction xs with
  | nil => simp [ML.LIM, ML.content, ML.contents, ML.clean, ML.avSl, ML.datas, ML.obD, ML.slL, ML.seqOf, ML.dB, ML.dI, ML.dItems, ML.dTup, ML.dLst, ML.dStr, ML.isNone, ML.gIsN, ML.gNeg, ML.gAdd, ML.bInt, ML.tyName, ML.isTy, ML.ioOk, ML.gT, ML.gCons, ML.gNil, ML.fApp, ML.fExt, ML.fPop, allFs]
  | cons x xs ih => rw [List.cons_append, allFs, allFs, ih, and_assoc]
theorem encOs_append (xs ys : List D) : encOs (xs ++ ys) = (encOs xs).bind fun a => (encOs ys).map fun r => a ++ r := by
  induction xs with
  | nil => simp [ML.LIM, ML.content, ML.contents, ML.clean, ML.avSl, ML.datas, ML.obD, ML.slL, ML.seqOf, ML.dB, ML.dI, ML.dItems, ML.dTup, ML.dLst, ML.dStr, ML.isNone, ML.gIsN, ML.gNeg, ML.gAdd, ML.bInt, ML.tyName, ML.isTy, ML.ioOk, ML.gT, ML.gCons, ML.gNil, ML.fApp, ML.fExt, ML.fPop, encOs]
  | cons x xs ih =>
    rw [List.cons_append, encOs, encOs, ih]
    cases encO x with
    | none => rfl
    | some a =>
      cases encOs xs with
      | none => rfl
      | some b =>
        cases encOs ys with
        | none => rfl
        | some c => simp [ML.LIM, ML.content, ML.contents, ML.clean, ML.avSl, ML.datas, ML.obD, ML.slL, ML.seqOf, ML.dB, ML.dI, ML.dItems, ML.dTup, ML.dLst, ML.dStr, ML.isNone, ML.gIsN, ML.gNeg, ML.gAdd, ML.bInt, ML.tyName, ML.isTy, ML.ioOk, ML.gT, ML.gCons, ML.gNil, ML.fApp, ML.fExt, ML.fPop]
theorem fine_of {d : D} (h : allF d) : fine d := by
  cases d with
  | tuple xs => exact h.1
  | int i => exact h
  | str z => exact h
  | _ => trivial
/-! ## raw_octets -/
theorem tupNot {d : D} (h : ∀ xs, d ≠ .tuple xs) : isTy "tuple" d = false := by
  cases d with
  | tuple xs => exact absurd rfl (h xs)
  | _ => rfl
theorem po_call (e : List Sl) (d : D) (hf : fine d) (h : eV 3 e = .ok d e) : eRv (callM F_plain_octets (aD (eV 3) aNil)) e = .ok (nodeD d) e := by
  obtain ⟨r, o, h1, h2⟩ := po_all d hf
  exact call1 h h1 h2
theorem ro_none (t : Sl) (found R : List D) (d : D) (s3 s4 : Sl) (hf : fine d) (hn : nodeE d = none) :
    m_raw_octets_b1 [t, .o true (.lst found), .o true (.lst (R ++ [d])), s3, s4] = .rt (.d .none) [t, .o true (.lst found), .o true (.lst R), .d d, .d .none] := by
  have hc := po_call [t, .o true (.lst found), .o true (.lst R), .d d, s4] d hf (by simp [ML.LIM, ML.content, ML.contents, ML.clean, ML.avSl, ML.datas, ML.obD, ML.slL, ML.seqOf, ML.dB, ML.dI, ML.dItems, ML.dTup, ML.dLst, ML.dStr, ML.isNone, ML.gIsN, ML.gNeg, ML.gAdd, ML.bInt, ML.tyName, ML.isTy, ML.ioOk, ML.gT, ML.gCons, ML.gNil, ML.fApp, ML.fExt, ML.fPop])
  have h3 : nodeD d = .none := by unfold nodeD; rw [hn]
  rw [h3] at hc
  simp [ML.LIM, ML.content, ML.contents, ML.clean, ML.avSl, ML.datas, ML.obD, ML.slL, ML.seqOf, ML.dB, ML.dI, ML.dItems, ML.dTup, ML.dLst, ML.dStr, ML.isNone, ML.gIsN, ML.gNeg, ML.gAdd, ML.bInt, ML.tyName, ML.isTy, ML.ioOk, ML.gT, ML.gCons, ML.gNil, ML.fApp, ML.fExt, ML.fPop, m_raw_octets_b1, hc]
theorem ro_some (t : Sl) (found R : List D) (d : D) (s3 s4 : Sl) (ns : List Nat) (hf : fine d) (hn : nodeE d = some ns) (ht : ∀ xs, d ≠ .tuple xs) (hl : found.length + ns.length ≤ 10000000) :
    m_raw_octets_b1 [t, .o true (.lst found), .o true (.lst (R ++ [d])), s3, s4] = .nx [t, .o true (.lst (found ++ ns.map nI)), .o true (.lst R), .d d, .d (.list (ns.map nI))] := by
  have hc := po_call [t, .o true (.lst found), .o true (.lst R), .d d, s4] d hf (by simp [ML.LIM, ML.content, ML.contents, ML.clean, ML.avSl, ML.datas, ML.obD, ML.slL, ML.seqOf, ML.dB, ML.dI, ML.dItems, ML.dTup, ML.dLst, ML.dStr, ML.isNone, ML.gIsN, ML.gNeg, ML.gAdd, ML.bInt, ML.tyName, ML.isTy, ML.ioOk, ML.gT, ML.gCons, ML.gNil, ML.fApp, ML.fExt, ML.fPop])
  have h3 : nodeD d = .list (ns.map nI) := by unfold nodeD; rw [hn]
  rw [h3] at hc
  have hx := tupNot ht
  simp [ML.LIM, ML.content, ML.contents, ML.clean, ML.avSl, ML.datas, ML.obD, ML.slL, ML.seqOf, ML.dB, ML.dI, ML.dItems, ML.dTup, ML.dLst, ML.dStr, ML.isNone, ML.gIsN, ML.gNeg, ML.gAdd, ML.bInt, ML.ioOk, ML.gT, ML.gCons, ML.gNil, ML.fApp, ML.fExt, ML.fPop, m_raw_octets_b1, hc, hl, hx, -ML.isTy, -ML.tyName]
theorem ro_tup (t : Sl) (found R : List D) (xs : List D) (s3 s4 : Sl) (hf : xs.length ≤ 1000) (hl : found.length + 63 ≤ 10000000) (hl2 : R.length + xs.length ≤ 10000000) :
    m_raw_octets_b1 [t, .o true (.lst found), .o true (.lst (R ++ [.tuple xs])), s3, s4] = .nx [t, .o true (.lst (found ++ (4 :: sev xs.length).map nI)), .o true (.lst (R ++ xs.reverse)), .d (.tuple xs), .d (.list ((4 :: sev xs.length).map nI))] := by
  have hc := po_call [t, .o true (.lst found), .o true (.lst R), .d (.tuple xs), s4] (.tuple xs) hf (by simp [ML.LIM, ML.content, ML.contents, ML.clean, ML.avSl, ML.datas, ML.obD, ML.slL, ML.seqOf, ML.dB, ML.dI, ML.dItems, ML.dTup, ML.dLst, ML.dStr, ML.isNone, ML.gIsN, ML.gNeg, ML.gAdd, ML.bInt, ML.tyName, ML.isTy, ML.ioOk, ML.gT, ML.gCons, ML.gNil, ML.fApp, ML.fExt, ML.fPop])
  have h3 : nodeD (.tuple xs) = .list ((4 :: sev xs.length).map nI) := rfl
  rw [h3] at hc
  have l := sev_len (n := xs.length) (Nat.lt_of_le_of_lt hf (by decide))
  have hl3 : found.length + ((sev xs.length).length + 1) ≤ 10000000 := by omega
  simp only [List.map_cons] at hc
  simp [ML.LIM, ML.content, ML.contents, ML.clean, ML.avSl, ML.datas, ML.obD, ML.slL, ML.seqOf, ML.dB, ML.dI, ML.dItems, ML.dTup, ML.dLst, ML.dStr, ML.isNone, ML.gIsN, ML.gNeg, ML.gAdd, ML.bInt, ML.tyName, ML.isTy, ML.ioOk, ML.gT, ML.gCons, ML.gNil, ML.fApp, ML.fExt, ML.fPop, m_raw_octets_b1, hc, hl3, bListOf, seqOf, hl2]
abbrev roC : M Bool := b2 gGt (qD (eBlt bLen (aR 2 (aNil)))) (qD (eC (.int 0)))
theorem roC_nil (t f s3 s4 : Sl) : roC [t, f, .o true (.lst []), s3, s4] = .ok false [t, f, .o true (.lst []), s3, s4] := by
  simp [ML.LIM, ML.content, ML.contents, ML.clean, ML.avSl, ML.datas, ML.obD, ML.slL, ML.seqOf, ML.dB, ML.dI, ML.dItems, ML.dTup, ML.dLst, ML.dStr, ML.isNone, ML.gIsN, ML.gNeg, ML.gAdd, ML.bInt, ML.tyName, ML.isTy, ML.ioOk, ML.gT, ML.gCons, ML.gNil, ML.fApp, ML.fExt, ML.fPop, roC, bLen, seqOf]
theorem roC_cons (t f s3 s4 : Sl) (R : List D) (d : D) : roC [t, f, .o true (.lst (R ++ [d])), s3, s4] = .ok true [t, f, .o true (.lst (R ++ [d])), s3, s4] := by
  simp [ML.LIM, ML.content, ML.contents, ML.clean, ML.avSl, ML.datas, ML.obD, ML.slL, ML.seqOf, ML.dB, ML.dI, ML.dItems, ML.dTup, ML.dLst, ML.dStr, ML.isNone, ML.gIsN, ML.gNeg, ML.gAdd, ML.bInt, ML.tyName, ML.isTy, ML.ioOk, ML.gT, ML.gCons, ML.gNil, ML.fApp, ML.fExt, ML.fPop, roC, bLen, seqOf]
theorem ro_loop (t : Sl) : ∀ (f : Nat) (ws found : List D) (s3 s4 : Sl), nods ws < f → allFs ws → found.length + 1100 * nods ws ≤ 1000000 →
    (∀ ns, encOs ws = some ns → ∃ s3' s4', whileL roC m_raw_octets_b1 f [t, .o true (.lst found), .o true (.lst ws.reverse), s3, s4] = .nx [t, .o true (.lst (found ++ ns.map nI)), .o true (.lst []), s3', s4'] ∧ ns.length ≤ 1100 * nods ws) ∧
    (encOs ws = none → ∃ s1 s2 s3' s4', whileL roC m_raw_octets_b1 f [t, .o true (.lst found), .o true (.lst ws.reverse), s3, s4] = .rt (.d .none) [t, s1, s2, s3', s4']) := by
  intro f
  induction f with
  | zero => intro ws found s3 s4 h; omega
  | succ f ih =>
    intro ws found s3 s4 h1 h2 h3
    cases ws with
    | nil =>
      refine ⟨fun ns e => ?_, fun e => by cases e⟩
      cases e
      exact ⟨s3, s4, by rw [List.reverse_nil, whileL, roC_nil]; simp [ML.LIM, ML.content, ML.contents, ML.clean, ML.avSl, ML.datas, ML.obD, ML.slL, ML.seqOf, ML.dB, ML.dI, ML.dItems, ML.dTup, ML.dLst, ML.dStr, ML.isNone, ML.gIsN, ML.gNeg, ML.gAdd, ML.bInt, ML.tyName, ML.isTy, ML.ioOk, ML.gT, ML.gCons, ML.gNil, ML.fApp, ML.fExt, ML.fPop], by simp [ML.LIM, ML.content, ML.contents, ML.clean, ML.avSl, ML.datas, ML.obD, ML.slL, ML.seqOf, ML.dB, ML.dI, ML.dItems, ML.dTup, ML.dLst, ML.dStr, ML.isNone, ML.gIsN, ML.gNeg, ML.gAdd, ML.bInt, ML.tyName, ML.isTy, ML.ioOk, ML.gT, ML.gCons, ML.gNil, ML.fApp, ML.fExt, ML.fPop]⟩
    | cons d r =>
      have hd : fine d := fine_of h2.1
      have np := nod_pos d
      rw [nods] at h1 h3
      have lr := nods_len r
      rw [List.reverse_cons, whileL, roC_cons]
      dsimp only
      cases hn : nodeE d with
      | none =>
        rw [ro_none t found r.reverse d s3 s4 hd hn]
        have en : encOs (d :: r) = none := by
          rw [encOs]
          have : encO d = none := by
            cases d with
            | str z =>
              have hn' : (if okS z = true then some (3 :: (sev z.length ++ z.cps.toList)) else none) = none := hn
              rw [encO]; exact hn'
            | list xs => rfl
            | dict xs => rfl
            | _ => cases hn
          rw [this]; rfl
        rw [en]
        exact ⟨fun ns e => (by cases e), fun _ => ⟨_, _, _, _, rfl⟩⟩
      | some ns0 =>
        have l0 := nodeE_len hd hn
        by_cases ht : ∃ xs, d = .tuple xs
        · obtain ⟨xs, rfl⟩ := ht
          have hx : xs.length ≤ 1000 := hd
          have e0 : ns0 = 4 :: sev xs.length := by cases hn; rfl
          subst e0
          have hnod : nod (.tuple xs) = 1 + nods xs := by rw [nod]
          have lx := nods_len xs
          rw [hnod] at h1 h3
          rw [ro_tup t found r.reverse xs s3 s4 hx (by omega) (by rw [List.length_reverse]; omega)]
          dsimp only
          rw [← List.reverse_append]
          have q := ih (xs ++ r) (found ++ (4 :: sev xs.length).map nI) (.d (.tuple xs)) (.d (.list ((4 :: sev xs.length).map nI))) (by rw [nods_append]; omega) (allFs_append.mpr ⟨h2.1.2, h2.2⟩) (by
            rw [nods_append, List.length_append, List.length_map]; omega)
          have ee : encOs (.tuple xs :: r) = (encOs (xs ++ r)).map fun z => (4 :: sev xs.length) ++ z := by
            rw [encOs, encO, encOs_append]
            cases encOs xs with
            | none => rfl
            | some a =>
              cases encOs r with
              | none => rfl
              | some b => simp [ML.LIM, ML.content, ML.contents, ML.clean, ML.avSl, ML.datas, ML.obD, ML.slL, ML.seqOf, ML.dB, ML.dI, ML.dItems, ML.dTup, ML.dLst, ML.dStr, ML.isNone, ML.gIsN, ML.gNeg, ML.gAdd, ML.bInt, ML.tyName, ML.isTy, ML.ioOk, ML.gT, ML.gCons, ML.gNil, ML.fApp, ML.fExt, ML.fPop]
          rw [ee]
          refine ⟨fun ns e => ?_, fun e => ?_⟩
          · obtain ⟨z, ez, rfl⟩ := Option.map_eq_some_iff.mp e
            obtain ⟨a, b, e1, e2⟩ := q.1 z ez
            rw [nods_append] at e2
            refine ⟨a, b, ?_, ?_⟩
            · rw [e1]; simp [ML.LIM, ML.content, ML.contents, ML.clean, ML.avSl, ML.datas, ML.obD, ML.slL, ML.seqOf, ML.dB, ML.dI, ML.dItems, ML.dTup, ML.dLst, ML.dStr, ML.isNone, ML.gIsN, ML.gNeg, ML.gAdd, ML.bInt, ML.tyName, ML.isTy, ML.ioOk, ML.gT, ML.gCons, ML.gNil, ML.fApp, ML.fExt, ML.fPop]
            · rw [nods, hnod, List.length_append]; omega
          · exact q.2 (Option.map_eq_none_iff.mp e)
        · have ht' : ∀ xs, d ≠ .tuple xs := fun xs z => ht ⟨xs, z⟩
          rw [ro_some t found r.reverse d s3 s4 ns0 hd hn ht' (by omega)]
          dsimp only
          have q := ih r (found ++ ns0.map nI) (.d d) (.d (.list (ns0.map nI))) (by omega) h2.2 (by rw [List.length_append, List.length_map]; omega)
          have ed : encO d = some ns0 := by
            cases d with
            | tuple xs => exact absurd rfl (ht' xs)
            | str z => rw [encO]; exact hn
            | list xs => cases hn
            | dict xs => cases hn
            | none => exact hn
            | bool b => exact hn
            | int i => exact hn
          have ee : encOs (d :: r) = (encOs r).map fun z => ns0 ++ z := by rw [encOs, ed]; rfl
          rw [ee]
          refine ⟨fun ns e => ?_, fun e => ?_⟩
          · obtain ⟨z, ez, rfl⟩ := Option.map_eq_some_iff.mp e
            obtain ⟨a, b, e1, e2⟩ := q.1 z ez
            refine ⟨a, b, ?_, ?_⟩
            · rw [e1]; simp [ML.LIM, ML.content, ML.contents, ML.clean, ML.avSl, ML.datas, ML.obD, ML.slL, ML.seqOf, ML.dB, ML.dI, ML.dItems, ML.dTup, ML.dLst, ML.dStr, ML.isNone, ML.gIsN, ML.gNeg, ML.gAdd, ML.bInt, ML.tyName, ML.isTy, ML.ioOk, ML.gT, ML.gCons, ML.gNil, ML.fApp, ML.fExt, ML.fPop]
            · rw [nods, List.length_append]; omega
          · exact q.2 (Option.map_eq_none_iff.mp e)
theorem enc_le {d : D} (hd : allF d) (hn : nod d ≤ 800) {ns : List Nat} (e : encO d = some ns) : ns.length ≤ 880000 := by
  obtain ⟨_, _, _, h⟩ := (ro_loop .un 1000 [d] [] .un .un (by rw [nods, nods]; omega) ⟨hd, trivial⟩ (by rw [nods, nods]; simp [ML.LIM, ML.content, ML.contents, ML.clean, ML.avSl, ML.datas, ML.obD, ML.slL, ML.seqOf, ML.dB, ML.dI, ML.dItems, ML.dTup, ML.dLst, ML.dStr, ML.isNone, ML.gIsN, ML.gNeg, ML.gAdd, ML.bInt, ML.tyName, ML.isTy, ML.ioOk, ML.gT, ML.gCons, ML.gNil, ML.fApp, ML.fExt, ML.fPop]; omega)).1 ns (by rw [encOs, e, encOs]; simp [ML.LIM, ML.content, ML.contents, ML.clean, ML.avSl, ML.datas, ML.obD, ML.slL, ML.seqOf, ML.dB, ML.dI, ML.dItems, ML.dTup, ML.dLst, ML.dStr, ML.isNone, ML.gIsN, ML.gNeg, ML.gAdd, ML.bInt, ML.tyName, ML.isTy, ML.ioOk, ML.gT, ML.gCons, ML.gNil, ML.fApp, ML.fExt, ML.fPop])
  rw [nods, nods] at h
  omega
/-- octets of a thing: head, body, sum -/
def octs (ns : List Nat) : List Nat := [83, 82, 1] ++ ns ++ [cs 0 ([83, 82, 1] ++ ns) % 251]
def octD (ns : List Nat) : D := .tuple ((octs ns).map nI)
theorem raw_ok (d : D) (hd : allF d) (hn : nod d ≤ 800) (hb : ∀ ns, encO d = some ns → ∀ x ∈ ns, x < 1000) :
    ∃ o, F_raw_octets [.d d] = .ok (.d (match encO d with | some ns => octD ns | none => .none)) o := by
  have q := ro_loop (.d d) 20000 [d] ([83, 82, 1].map nI) .un .un (by rw [nods, nods]; omega) ⟨hd, trivial⟩ (by rw [nods, nods]; simp [ML.LIM, ML.content, ML.contents, ML.clean, ML.avSl, ML.datas, ML.obD, ML.slL, ML.seqOf, ML.dB, ML.dI, ML.dItems, ML.dTup, ML.dLst, ML.dStr, ML.isNone, ML.gIsN, ML.gNeg, ML.gAdd, ML.bInt, ML.tyName, ML.isTy, ML.ioOk, ML.gT, ML.gCons, ML.gNil, ML.fApp, ML.fExt, ML.fPop]; omega)
  have e1 : encOs [d] = encO d := by
    rw [encOs, encOs]
    cases encO d with
    | none => rfl
    | some a => simp [ML.LIM, ML.content, ML.contents, ML.clean, ML.avSl, ML.datas, ML.obD, ML.slL, ML.seqOf, ML.dB, ML.dI, ML.dItems, ML.dTup, ML.dLst, ML.dStr, ML.isNone, ML.gIsN, ML.gNeg, ML.gAdd, ML.bInt, ML.tyName, ML.isTy, ML.ioOk, ML.gT, ML.gCons, ML.gNil, ML.fApp, ML.fExt, ML.fPop]
  rw [e1] at q
  have hp : sPar 1 2 (aF (oBlt bListOf (aD (eC c_FIRST_OCTETS) (aNil))) (aF (oLst (aD (eV 0) (aNil))) (aNil))) [.d d, .un, .un, .un, .un] = .nx [.d d, .o true (.lst ([83, 82, 1].map nI)), .o true (.lst [d]), .un, .un] := by
    simp [ML.LIM, ML.content, ML.contents, ML.clean, ML.avSl, ML.datas, ML.obD, ML.slL, ML.seqOf, ML.dB, ML.dI, ML.dItems, ML.dTup, ML.dLst, ML.dStr, ML.isNone, ML.gIsN, ML.gNeg, ML.gAdd, ML.bInt, ML.tyName, ML.isTy, ML.ioOk, ML.gT, ML.gCons, ML.gNil, ML.fApp, ML.fExt, ML.fPop, bListOf, seqOf, c_FIRST_OCTETS, nI]
  cases he : encO d with
  | none =>
    obtain ⟨s1, s2, s3, s4, w⟩ := q.2 he
    refine ⟨[.d d], ?_⟩
    have w' : m_raw_octets_w2 [.d d, .o true (.lst ([83, 82, 1].map nI)), .o true (.lst [d]), .un, .un] = .rt (.d .none) [.d d, s1, s2, s3, s4] := w
    simp only [F_raw_octets, runBody, m_raw_octets, List.length_cons, List.length_nil, Nat.zero_add, if_true, List.replicate, List.cons_append, List.nil_append, Nat.sub_self]
    show (match (sSeq _ _ [.d d, .un, .un, .un, .un]) with | .nx e => _ | .rt r e => _ | .ex c e => _ | _ => _) = _
    rw [sSeq_e, hp]
    dsimp only
    rw [sSeq_e, w']
    simp [ML.LIM, ML.content, ML.contents, ML.clean, ML.avSl, ML.datas, ML.obD, ML.slL, ML.seqOf, ML.dB, ML.dI, ML.dItems, ML.dTup, ML.dLst, ML.dStr, ML.isNone, ML.gIsN, ML.gNeg, ML.gAdd, ML.bInt, ML.tyName, ML.isTy, ML.ioOk, ML.gT, ML.gCons, ML.gNil, ML.fApp, ML.fExt, ML.fPop]
  | some ns =>
    obtain ⟨s3, s4, w, wl⟩ := q.1 ns he
    have ln := enc_le hd hn he
    have w' : m_raw_octets_w2 [.d d, .o true (.lst ([83, 82, 1].map nI)), .o true (.lst [d]), .un, .un] = .nx [.d d, .o true (.lst (([83, 82, 1] ++ ns).map nI)), .o true (.lst []), s3, s4] := by
      rw [List.map_append]; exact w
    obtain ⟨o, hck⟩ := check_ok ([83, 82, 1] ++ ns) (fun x hx => by
      rcases List.mem_append.mp hx with h | h
      · simp [ML.LIM, ML.content, ML.contents, ML.clean, ML.avSl, ML.datas, ML.obD, ML.slL, ML.seqOf, ML.dB, ML.dI, ML.dItems, ML.dTup, ML.dLst, ML.dStr, ML.isNone, ML.gIsN, ML.gNeg, ML.gAdd, ML.bInt, ML.tyName, ML.isTy, ML.ioOk, ML.gT, ML.gCons, ML.gNil, ML.fApp, ML.fExt, ML.fPop] at h; omega
      · exact hb ns he x h) (by simp [ML.LIM, ML.content, ML.contents, ML.clean, ML.avSl, ML.datas, ML.obD, ML.slL, ML.seqOf, ML.dB, ML.dI, ML.dItems, ML.dTup, ML.dLst, ML.dStr, ML.isNone, ML.gIsN, ML.gNeg, ML.gAdd, ML.bInt, ML.tyName, ML.isTy, ML.ioOk, ML.gT, ML.gCons, ML.gNil, ML.fApp, ML.fExt, ML.fPop]; omega)
    have hcall : eRv (callM F_check_octet (aD (eV 1) aNil)) [.d d, .o true (.lst (([83, 82, 1] ++ ns).map nI)), .o true (.lst []), s3, s4] = .ok (nI (cs 0 ([83, 82, 1] ++ ns) % 251)) [.d d, .d (.list (([83, 82, 1] ++ ns).map nI)), .o true (.lst []), s3, s4] := call1 (by simp [ML.LIM, ML.content, ML.contents, ML.clean, ML.avSl, ML.datas, ML.obD, ML.slL, ML.seqOf, ML.dB, ML.dI, ML.dItems, ML.dTup, ML.dLst, ML.dStr, ML.isNone, ML.gIsN, ML.gNeg, ML.gAdd, ML.bInt, ML.tyName, ML.isTy, ML.ioOk, ML.gT, ML.gCons, ML.gNil, ML.fApp, ML.fExt, ML.fPop]) hck rfl
    have lz : (([83, 82, 1] ++ ns).map nI).length + 1 ≤ 10000000 := by simp [ML.LIM, ML.content, ML.contents, ML.clean, ML.avSl, ML.datas, ML.obD, ML.slL, ML.seqOf, ML.dB, ML.dI, ML.dItems, ML.dTup, ML.dLst, ML.dStr, ML.isNone, ML.gIsN, ML.gNeg, ML.gAdd, ML.bInt, ML.tyName, ML.isTy, ML.ioOk, ML.gT, ML.gCons, ML.gNil, ML.fApp, ML.fExt, ML.fPop]; omega
    have fin : (sRet (eBlt bTupOf (aF (o2 gCat (qR 1) (qF (oLst (aD (eRv (callM F_check_octet (aD (eV 1) (aNil)))) (aNil))))) (aNil)))) [.d d, .o true (.lst (([83, 82, 1] ++ ns).map nI)), .o true (.lst []), s3, s4] = .rt (.d (octD ns)) [.d d, .d (.list (([83, 82, 1] ++ ns).map nI)), .o true (.lst []), s3, s4] := by
      generalize hL : ([83, 82, 1] ++ ns).map nI = L at hcall lz ⊢
      generalize hC : nI (cs 0 ([83, 82, 1] ++ ns) % 251) = C at hcall
      have : octD ns = .tuple (L ++ [C]) := by
        rw [octD, octs, List.map_append, hL, List.map_singleton, hC]
      rw [this]
      have lz2 : L.length ≤ 9999999 := by omega
      simp [ML.LIM, ML.content, ML.contents, ML.clean, ML.avSl, ML.datas, ML.obD, ML.slL, ML.seqOf, ML.dB, ML.dI, ML.dItems, ML.dTup, ML.dLst, ML.dStr, ML.isNone, ML.gIsN, ML.gNeg, ML.gAdd, ML.bInt, ML.tyName, ML.isTy, ML.ioOk, ML.gT, ML.gCons, ML.gNil, ML.fApp, ML.fExt, ML.fPop, hcall, gCat, bTupOf, seqOf, lz2]
    refine ⟨[.d d], ?_⟩
    simp only [F_raw_octets, runBody, m_raw_octets, List.length_cons, List.length_nil, Nat.zero_add, if_true, List.replicate, List.cons_append, List.nil_append, Nat.sub_self]
    show (match (sSeq _ _ [.d d, .un, .un, .un, .un]) with | .nx e => _ | .rt r e => _ | .ex c e => _ | _ => _) = _
    rw [sSeq_e, hp]
    dsimp only
    rw [sSeq_e, w']
    dsimp only
    rw [fin]
    simp [ML.LIM, ML.content, ML.contents, ML.clean, ML.avSl, ML.datas, ML.obD, ML.slL, ML.seqOf, ML.dB, ML.dI, ML.dItems, ML.dTup, ML.dLst, ML.dStr, ML.isNone, ML.gIsN, ML.gNeg, ML.gAdd, ML.bInt, ML.tyName, ML.isTy, ML.ioOk, ML.gT, ML.gCons, ML.gNil, ML.fApp, ML.fExt, ML.fPop]
end K62
end

section
set_option Elab.async false
set_option linter.all false
set_option maxRecDepth 100000
set_option maxHeartbeats 2000000
namespace K62
open PySem (Str)
open L2 (atI ixN)
open ML
/-! ## octets_of -/
theorem octets_some (d : D) (hd : allF d) (hn : nod d ≤ 800) (hb : ∀ ns, encO d = some ns → ∀ x ∈ ns, x < 1000) (ns : List Nat) (he : encO d = some ns) : ∃ o, F_octets_of [.d d] = .ok (.d (octD ns)) o := by
  obtain ⟨o, h⟩ := raw_ok d hd hn hb
  rw [he] at h
  have hc : eRv (callM F_raw_octets (aD (eV 0) aNil)) [.d d, .un] = .ok (octD ns) [.d d, .un] := call1 (by simp [ML.LIM, ML.content, ML.contents, ML.clean, ML.avSl, ML.datas, ML.obD, ML.slL, ML.seqOf, ML.dB, ML.dI, ML.dItems, ML.dTup, ML.dLst, ML.dStr, ML.isNone, ML.gIsN, ML.gNeg, ML.gAdd, ML.bInt, ML.tyName, ML.isTy, ML.ioOk, ML.gT, ML.gCons, ML.gNil, ML.fApp, ML.fExt, ML.fPop]) h rfl
  refine ⟨[.d d], ?_⟩
  simp [ML.LIM, ML.content, ML.contents, ML.clean, ML.avSl, ML.datas, ML.obD, ML.slL, ML.seqOf, ML.dB, ML.dI, ML.dItems, ML.dTup, ML.dLst, ML.dStr, ML.isNone, ML.gIsN, ML.gNeg, ML.gAdd, ML.bInt, ML.tyName, ML.isTy, ML.ioOk, ML.gT, ML.gCons, ML.gNil, ML.fApp, ML.fExt, ML.fPop, F_octets_of, runBody, m_octets_of, hc, octD]
theorem octets_none (d : D) (hd : allF d) (hn : nod d ≤ 800) (he : encO d = none) : ∃ o, F_octets_of [.d d] = .ex "NoThing" o := by
  obtain ⟨o, h⟩ := raw_ok d hd hn (fun ns e => by rw [he] at e; cases e)
  rw [he] at h
  have hc : eRv (callM F_raw_octets (aD (eV 0) aNil)) [.d d, .un] = .ok .none [.d d, .un] := call1 (by simp [ML.LIM, ML.content, ML.contents, ML.clean, ML.avSl, ML.datas, ML.obD, ML.slL, ML.seqOf, ML.dB, ML.dI, ML.dItems, ML.dTup, ML.dLst, ML.dStr, ML.isNone, ML.gIsN, ML.gNeg, ML.gAdd, ML.bInt, ML.tyName, ML.isTy, ML.ioOk, ML.gT, ML.gCons, ML.gNil, ML.fApp, ML.fExt, ML.fPop]) h rfl
  refine ⟨[.d d], ?_⟩
  simp [ML.LIM, ML.content, ML.contents, ML.clean, ML.avSl, ML.datas, ML.obD, ML.slL, ML.seqOf, ML.dB, ML.dI, ML.dItems, ML.dTup, ML.dLst, ML.dStr, ML.isNone, ML.gIsN, ML.gNeg, ML.gAdd, ML.bInt, ML.tyName, ML.isTy, ML.ioOk, ML.gT, ML.gCons, ML.gNil, ML.fApp, ML.fExt, ML.fPop, F_octets_of, runBody, m_octets_of, hc]
/-! ## the law's own writing -/
theorem rng_map (n : Nat) : (List.range n).map (fun (i : Nat) => PySem.PyData.int (0 + (i : Nat))) = (List.range n).map nI := by
  apply List.map_congr_left
  intro i _
  simp [ML.LIM, ML.content, ML.contents, ML.clean, ML.avSl, ML.datas, ML.obD, ML.slL, ML.seqOf, ML.dB, ML.dI, ML.dItems, ML.dTup, ML.dLst, ML.dStr, ML.isNone, ML.gIsN, ML.gNeg, ML.gAdd, ML.bInt, ML.tyName, ML.isTy, ML.ioOk, ML.gT, ML.gCons, ML.gNil, ML.fApp, ML.fExt, ML.fPop, nI]
theorem sv_step (a : Sl) (n : Nat) (xs : List D) (s3 : Sl) (hn : 128 ≤ n) (hx : xs.length + 1 ≤ 10000000) : m__law_sevens_b1 [a, .o true (.lst xs), .d (nI n), s3] = .nx [a, .o true (.lst (xs ++ [nI (n % 128 + 128)])), .d (nI (n / 128)), s3] := by
  have h1 : ¬ (n : Int) < 128 := by omega
  have h2 : xs.length < 10000000 := by omega
  simp [ML.LIM, ML.content, ML.contents, ML.clean, ML.avSl, ML.datas, ML.obD, ML.slL, ML.seqOf, ML.dB, ML.dI, ML.dItems, ML.dTup, ML.dLst, ML.dStr, ML.isNone, ML.gIsN, ML.gNeg, ML.gAdd, ML.bInt, ML.tyName, ML.isTy, ML.ioOk, ML.gT, ML.gCons, ML.gNil, ML.fApp, ML.fExt, ML.fPop, m__law_sevens_b1, nI, h1, h2, contents, content]
theorem sv_stop (a : Sl) (n : Nat) (xs : List D) (s3 : Sl) (hn : n < 128) : m__law_sevens_b1 [a, .o true (.lst xs), .d (nI n), s3] = .bk [a, .o true (.lst xs), .d (nI n), s3] := by
  have h1 : (n : Int) < 128 := by omega
  simp [ML.LIM, ML.content, ML.contents, ML.clean, ML.avSl, ML.datas, ML.obD, ML.slL, ML.seqOf, ML.dB, ML.dI, ML.dItems, ML.dTup, ML.dLst, ML.dStr, ML.isNone, ML.gIsN, ML.gNeg, ML.gAdd, ML.bInt, ML.tyName, ML.isTy, ML.ioOk, ML.gT, ML.gCons, ML.gNil, ML.fApp, ML.fExt, ML.fPop, m__law_sevens_b1, nI, h1]
theorem sv_loop (a : Sl) : ∀ (ds : List D) (n : Nat) (xs : List D) (s3 : Sl), n < 128 ^ (ds.length) → xs.length + ds.length ≤ 1000 →
    ∃ s3', forL (gN 3) m__law_sevens_b1 ds [a, .o true (.lst xs), .d (nI n), s3] = .nx [a, .o true (.lst (xs ++ (sevI n).map nI)), .d (nI (sevL n)), s3'] := by
  intro ds
  induction ds with
  | nil =>
    intro n xs s3 h _
    have : n = 0 := by simpa [ML.LIM, ML.content, ML.contents, ML.clean, ML.avSl, ML.datas, ML.obD, ML.slL, ML.seqOf, ML.dB, ML.dI, ML.dItems, ML.dTup, ML.dLst, ML.dStr, ML.isNone, ML.gIsN, ML.gNeg, ML.gAdd, ML.bInt, ML.tyName, ML.isTy, ML.ioOk, ML.gT, ML.gCons, ML.gNil, ML.fApp, ML.fExt, ML.fPop] using h
    subst this
    exact ⟨s3, by simp [ML.LIM, ML.content, ML.contents, ML.clean, ML.avSl, ML.datas, ML.obD, ML.slL, ML.seqOf, ML.dB, ML.dI, ML.dItems, ML.dTup, ML.dLst, ML.dStr, ML.isNone, ML.gIsN, ML.gNeg, ML.gAdd, ML.bInt, ML.tyName, ML.isTy, ML.ioOk, ML.gT, ML.gCons, ML.gNil, ML.fApp, ML.fExt, ML.fPop, forL, sevI_lt, sevL_lt]⟩
  | cons d ds ih =>
    intro n xs s3 h hl
    rw [List.length_cons] at h hl
    rw [forL, gN_e]
    simp only [List.set]
    by_cases hn : n < 128
    · rw [sv_stop a n xs _ hn, sevI_lt hn, sevL_lt hn]
      exact ⟨.d d, by simp [ML.LIM, ML.content, ML.contents, ML.clean, ML.avSl, ML.datas, ML.obD, ML.slL, ML.seqOf, ML.dB, ML.dI, ML.dItems, ML.dTup, ML.dLst, ML.dStr, ML.isNone, ML.gIsN, ML.gNeg, ML.gAdd, ML.bInt, ML.tyName, ML.isTy, ML.ioOk, ML.gT, ML.gCons, ML.gNil, ML.fApp, ML.fExt, ML.fPop]⟩
    · rw [sv_step a n xs _ (by omega) (by omega)]
      dsimp only
      obtain ⟨s3', e⟩ := ih (n / 128) (xs ++ [nI (n % 128 + 128)]) (.d d) (by rw [Nat.pow_succ] at h; omega) (by rw [List.length_append, List.length_singleton]; omega)
      exact ⟨s3', by rw [e, sevI_ge hn, sevL_ge hn]; simp [ML.LIM, ML.content, ML.contents, ML.clean, ML.avSl, ML.datas, ML.obD, ML.slL, ML.seqOf, ML.dB, ML.dI, ML.dItems, ML.dTup, ML.dLst, ML.dStr, ML.isNone, ML.gIsN, ML.gNeg, ML.gAdd, ML.bInt, ML.tyName, ML.isTy, ML.ioOk, ML.gT, ML.gCons, ML.gNil, ML.fApp, ML.fExt, ML.fPop]⟩
theorem sevens_ok (n : Nat) (h : n < 128 ^ 60) : ∃ o, F__law_sevens [.d (nI n)] = .ok (.o (.lst ((sev n).map nI))) o := by
  obtain ⟨s3', e⟩ := sv_loop (.d (nI n)) ((List.range 60).map nI) n [] .un (by simpa [ML.LIM, ML.content, ML.contents, ML.clean, ML.avSl, ML.datas, ML.obD, ML.slL, ML.seqOf, ML.dB, ML.dI, ML.dItems, ML.dTup, ML.dLst, ML.dStr, ML.isNone, ML.gIsN, ML.gNeg, ML.gAdd, ML.bInt, ML.tyName, ML.isTy, ML.ioOk, ML.gT, ML.gCons, ML.gNil, ML.fApp, ML.fExt, ML.fPop] using h) (by simp [ML.LIM, ML.content, ML.contents, ML.clean, ML.avSl, ML.datas, ML.obD, ML.slL, ML.seqOf, ML.dB, ML.dI, ML.dItems, ML.dTup, ML.dLst, ML.dStr, ML.isNone, ML.gIsN, ML.gNeg, ML.gAdd, ML.bInt, ML.tyName, ML.isTy, ML.ioOk, ML.gT, ML.gCons, ML.gNil, ML.fApp, ML.fExt, ML.fPop])
  have hb : n < BIG := Nat.lt_of_lt_of_le h (Nat.pow_le_pow_right (by decide) (by decide))
  have l := sevI_len 59 n hb
  have w : m__law_sevens_w2 [.d (nI n), .o true (.lst []), .d (nI n), .un] = .nx [.d (nI n), .o true (.lst ((sevI n).map nI)), .d (nI (sevL n)), s3'] := by
    rw [m__law_sevens_w2, sFor_e, xS_e, iRg_e, bind_e, aD_e, bind_e, eC_e]
    simp only [bind_e, aNil_e, ret_e, rng1]
    rw [if_pos (by decide)]
    simp only [lift_some]
    rw [show ((60 : Int).toNat) = 60 from rfl, rng_map, e]
    simp [ML.LIM, ML.content, ML.contents, ML.clean, ML.avSl, ML.datas, ML.obD, ML.slL, ML.seqOf, ML.dB, ML.dI, ML.dItems, ML.dTup, ML.dLst, ML.dStr, ML.isNone, ML.gIsN, ML.gNeg, ML.gAdd, ML.bInt, ML.tyName, ML.isTy, ML.ioOk, ML.gT, ML.gCons, ML.gNil, ML.fApp, ML.fExt, ML.fPop]
  have l2 : (sevI n).length ≤ 9999999 := by omega
  refine ⟨[.d (nI n)], ?_⟩
  simp [ML.LIM, ML.content, ML.contents, ML.clean, ML.avSl, ML.datas, ML.obD, ML.slL, ML.seqOf, ML.dB, ML.dI, ML.dItems, ML.dTup, ML.dLst, ML.dStr, ML.isNone, ML.gIsN, ML.gNeg, ML.gAdd, ML.bInt, ML.tyName, ML.isTy, ML.ioOk, ML.gT, ML.gCons, ML.gNil, ML.fApp, ML.fExt, ML.fPop, F__law_sevens, runBody, m__law_sevens, w, gCat, l2, sev]
/-- the sign's number, told by its place -/
def signB (c : Nat) : Bool := match F__law_sign [.d (.str (sign c))] with
  | .ok (.d (.int i)) _ => decide (i = (c : Int))
  | _ => false
theorem sign_all : SG.all signB = true := by decide +kernel
theorem sign_ok (c : Nat) (h : c ∈ SG) : ∃ o, F__law_sign [.d (.str (sign c))] = .ok (.d (nI c)) o := by
  have q := List.all_eq_true.mp sign_all c h
  unfold signB at q
  split at q
  · rename_i i o e
    rw [of_decide_eq_true q] at e
    exact ⟨o, e⟩
  · cases q
end K62
end

section
set_option Elab.async false
set_option linter.all false
set_option maxRecDepth 100000
set_option maxHeartbeats 2000000
namespace K62
open PySem (Str)
open L2 (atI ixN)
open ML
mutual
/-- as data that can be compared -/
theorem enc_eq : ∀ (d : D) (ns : List Nat), encO d = some ns → noDct d = true ∧ PySem.PyData.canLay0 d = true
  | .none, _, _ => ⟨rfl, rfl⟩
  | .bool _, _, _ => ⟨rfl, rfl⟩
  | .int _, _, _ => ⟨rfl, rfl⟩
  | .str z, ns, h => by
    refine ⟨rfl, ?_⟩
    have h' : (if okS z = true then some (3 :: (sev z.length ++ z.cps.toList)) else none) = some ns := h
    obtain ⟨hk, _⟩ := ite_some h'
    show PySem.PyData.strOk z = true
    unfold PySem.PyData.strOk
    rw [Array.all_eq_true_iff_forall_mem]
    intro c hc
    have hs := List.all_eq_true.mp hk c (by simpa [ML.LIM, ML.content, ML.contents, ML.clean, ML.avSl, ML.datas, ML.obD, ML.slL, ML.seqOf, ML.dB, ML.dI, ML.dItems, ML.dTup, ML.dLst, ML.dStr, ML.isNone, ML.gIsN, ML.gNeg, ML.gAdd, ML.bInt, ML.tyName, ML.isTy, ML.ioOk, ML.gT, ML.gCons, ML.gNil, ML.fApp, ML.fExt, ML.fPop] using hc)
    have := SG_lt c (of_decide_eq_true hs)
    exact decide_eq_true (by omega)
  | .tuple xs, ns, h => by
    rw [encO] at h
    obtain ⟨r, hr, _⟩ := Option.map_eq_some_iff.mp h
    obtain ⟨h1, h2⟩ := encs_eq xs r hr
    exact ⟨h1, h2⟩
  | .list _, _, h => by rw [encO] at h; cases h
  | .dict _, _, h => by rw [encO] at h; cases h
theorem encs_eq : ∀ (xs : List D) (ns : List Nat), encOs xs = some ns → noDctA xs = true ∧ PySem.PyData.canLayAll0 xs = true
  | [], _, _ => ⟨rfl, rfl⟩
  | x :: xs, ns, h => by
    rw [encOs] at h
    obtain ⟨a, ha, h⟩ := Option.bind_eq_some_iff.mp h
    obtain ⟨b, hb, _⟩ := Option.map_eq_some_iff.mp h
    obtain ⟨h1, h2⟩ := enc_eq x a ha
    obtain ⟨h3, h4⟩ := encs_eq xs b hb
    exact ⟨by rw [noDctA, h1, h3]; rfl, by rw [PySem.PyData.canLayAll0, h2, h4]; rfl⟩
end
theorem depthAll_append (xs ys : List D) : PySem.PyData.depthAll (xs ++ ys) = max (PySem.PyData.depthAll xs) (PySem.PyData.depthAll ys) := by
  induction xs with
  | nil => simp [ML.LIM, ML.content, ML.contents, ML.clean, ML.avSl, ML.datas, ML.obD, ML.slL, ML.seqOf, ML.dB, ML.dI, ML.dItems, ML.dTup, ML.dLst, ML.dStr, ML.isNone, ML.gIsN, ML.gNeg, ML.gAdd, ML.bInt, ML.tyName, ML.isTy, ML.ioOk, ML.gT, ML.gCons, ML.gNil, ML.fApp, ML.fExt, ML.fPop, PySem.PyData.depthAll]
  | cons x xs ih => rw [List.cons_append, PySem.PyData.depthAll, PySem.PyData.depthAll, ih, Nat.max_assoc]
theorem depthAll_rev (xs : List D) : PySem.PyData.depthAll xs.reverse = PySem.PyData.depthAll xs := by
  induction xs with
  | nil => rfl
  | cons x xs ih => rw [List.reverse_cons, depthAll_append, ih, PySem.PyData.depthAll, PySem.PyData.depthAll, PySem.PyData.depthAll]; omega
theorem noDctA_append (xs ys : List D) : noDctA (xs ++ ys) = (noDctA xs && noDctA ys) := by
  induction xs with
  | nil => rfl
  | cons x xs ih => rw [List.cons_append, noDctA, noDctA, ih, Bool.and_assoc]
theorem noDctA_rev (xs : List D) : noDctA xs.reverse = noDctA xs := by
  induction xs with
  | nil => rfl
  | cons x xs ih => rw [List.reverse_cons, noDctA_append, ih, noDctA, noDctA, noDctA, Bool.and_true, Bool.and_comm]
theorem canLayAll_append (xs ys : List D) : PySem.PyData.canLayAll0 (xs ++ ys) = (PySem.PyData.canLayAll0 xs && PySem.PyData.canLayAll0 ys) := by
  induction xs with
  | nil => rfl
  | cons x xs ih => rw [List.cons_append, PySem.PyData.canLayAll0, PySem.PyData.canLayAll0, ih, Bool.and_assoc]
theorem canLayAll_rev (xs : List D) : PySem.PyData.canLayAll0 xs.reverse = PySem.PyData.canLayAll0 xs := by
  induction xs with
  | nil => rfl
  | cons x xs ih => rw [List.reverse_cons, canLayAll_append, ih, PySem.PyData.canLayAll0, PySem.PyData.canLayAll0, PySem.PyData.canLayAll0, Bool.and_true, Bool.and_comm]
theorem eqOk_list {ws : List D} {ns : List Nat} (h : encOs ws = some ns) (hd : PySem.PyData.depthAll ws ≤ 60) : eqOk (.list ws.reverse) = true := by
  obtain ⟨h1, h2⟩ := encs_eq ws ns h
  unfold eqOk PySem.SeqAt.shaped
  rw [noDct, noDctA_rev, h1, PySem.PyData.canLay0, canLayAll_rev, h2, PySem.PyData.depth, depthAll_rev]
  simp [ML.LIM, ML.content, ML.contents, ML.clean, ML.avSl, ML.datas, ML.obD, ML.slL, ML.seqOf, ML.dB, ML.dI, ML.dItems, ML.dTup, ML.dLst, ML.dStr, ML.isNone, ML.gIsN, ML.gNeg, ML.gAdd, ML.bInt, ML.tyName, ML.isTy, ML.ioOk, ML.gT, ML.gCons, ML.gNil, ML.fApp, ML.fExt, ML.fPop]; omega
theorem lo_end (t f s3 s4 s5 : Sl) : m__law_octets_b2 [t, f, .o true (.lst []), s3, s4, s5] = .bk [t, f, .o true (.lst []), s3, s4, s5] := by
  have h : gEq false (.o true (.lst [])) (.o true (.lst [])) = some (.bool true) := by
    show (if eqOk (.list []) = true ∧ eqOk (.list []) = true then some (PySem.PyData.bool (false ^^ PySem.PyData.eqv (.list []) (.list []))) else none) = _
    rw [if_pos ⟨by decide +kernel, by decide +kernel⟩]; rfl
  simp [ML.LIM, ML.content, ML.contents, ML.clean, ML.avSl, ML.datas, ML.obD, ML.slL, ML.seqOf, ML.dB, ML.dI, ML.dItems, ML.dTup, ML.dLst, ML.dStr, ML.isNone, ML.gIsN, ML.gNeg, ML.gAdd, ML.bInt, ML.tyName, ML.isTy, ML.ioOk, ML.gT, ML.gCons, ML.gNil, ML.fApp, ML.fExt, ML.fPop, m__law_octets_b2, h]
/-- the test whether nothing waits -/
theorem lo_test (t f s3 s4 s5 : Sl) (R : List D) (d : D) (h : eqOk (.list (R ++ [d])) = true) : gEq false (.o true (.lst (R ++ [d]))) (.o true (.lst [])) = some (.bool false) := by
  show (if eqOk (.list (R ++ [d])) = true ∧ eqOk (.list []) = true then some (PySem.PyData.bool (false ^^ PySem.PyData.eqv (.list (R ++ [d])) (.list []))) else none) = _
  rw [if_pos ⟨h, by decide +kernel⟩]
  have : PySem.PyData.eqv (.list (R ++ [d])) (.list []) = false := by
    rw [PySem.PyData.eqv]
    cases R <;> simp [ML.LIM, ML.content, ML.contents, ML.clean, ML.avSl, ML.datas, ML.obD, ML.slL, ML.seqOf, ML.dB, ML.dI, ML.dItems, ML.dTup, ML.dLst, ML.dStr, ML.isNone, ML.gIsN, ML.gNeg, ML.gAdd, ML.bInt, ML.tyName, ML.isTy, ML.ioOk, ML.gT, ML.gCons, ML.gNil, ML.fApp, ML.fExt, ML.fPop, PySem.PyData.eqvAll]
  rw [this]; rfl
section
variable (t s3 s4 s5 : Sl) (found R : List D)
theorem lo_none (h : eqOk (.list (R ++ [.none])) = true) (hl : found.length + 1 ≤ 10000000) : m__law_octets_b2 [t, .o true (.lst found), .o true (.lst (R ++ [.none])), s3, s4, s5] = .nx [t, .o true (.lst (found ++ [5].map nI)), .o true (.lst R), s3, .d .none, s5] := by
  have ht := lo_test t (.o true (.lst found)) s3 s4 s5 R .none h
  have h2 : found.length < 10000000 := by omega
  simp [ML.LIM, ML.content, ML.contents, ML.clean, ML.avSl, ML.datas, ML.obD, ML.slL, ML.seqOf, ML.dB, ML.dI, ML.dItems, ML.dTup, ML.dLst, ML.dStr, ML.isNone, ML.gIsN, ML.gNeg, ML.gAdd, ML.bInt, ML.tyName, ML.isTy, ML.ioOk, ML.gT, ML.gCons, ML.gNil, ML.fApp, ML.fExt, ML.fPop, m__law_octets_b2, ht, h2, nI]
theorem lo_bool (b : Bool) (h : eqOk (.list (R ++ [.bool b])) = true) (hl : found.length + 1 ≤ 10000000) : m__law_octets_b2 [t, .o true (.lst found), .o true (.lst (R ++ [.bool b])), s3, s4, s5] = .nx [t, .o true (.lst (found ++ [if b then 2 else 1].map nI)), .o true (.lst R), s3, .d (.bool b), s5] := by
  have ht := lo_test t (.o true (.lst found)) s3 s4 s5 R (.bool b) h
  have h2 : found.length < 10000000 := by omega
  have hx : gIx (.o true (.lst [.int 1, .int 2])) (.d (.int (if b = true then 1 else 0))) = some (nI (if b then 2 else 1)) := by cases b <;> rfl
  simp [ML.LIM, ML.content, ML.contents, ML.clean, ML.avSl, ML.datas, ML.obD, ML.slL, ML.seqOf, ML.dB, ML.dI, ML.dItems, ML.dTup, ML.dLst, ML.dStr, ML.isNone, ML.gIsN, ML.gNeg, ML.gAdd, ML.bInt, ML.tyName, ML.isTy, ML.ioOk, ML.gT, ML.gCons, ML.gNil, ML.fApp, ML.fExt, ML.fPop, m__law_octets_b2, ht, h2, hx]
theorem lo_int (i : Int) (h : eqOk (.list (R ++ [.int i])) = true) (hz : zig i < BIG) (hl : found.length + 100 ≤ 10000000) : m__law_octets_b2 [t, .o true (.lst found), .o true (.lst (R ++ [.int i])), s3, s4, s5] = .nx [t, .o true (.lst (found ++ (0 :: sev (zig i)).map nI)), .o true (.lst R), s3, .d (.int i), s5] := by
  have ht := lo_test t (.o true (.lst found)) s3 s4 s5 R (.int i) h
  have l := sev_len hz
  obtain ⟨o, hs⟩ := sevens_ok (zig i) hz
  have hz' := zig_cast i
  have ha : (eIf (b2 gGe (qR 4) (qD (eC (.int 0)))) (e2 gMul (qD (eC (.int 2))) (qR 4)) (e2 gSub (qD (e2 gMul (qD (e1 gNeg (eC (.int 2)))) (qR 4))) (qD (eC (.int 1))))) [t, .o true (.lst found), .o true (.lst R), s3, .d (.int i), s5] = .ok (nI (zig i)) [t, .o true (.lst found), .o true (.lst R), s3, .d (.int i), s5] := by
    have m1 : gMul (.d (.int 2)) (.d (.int i)) = some (.int (2 * i)) := gm1 2 i (by decide +kernel)
    have m2 : gMul (.d (.int (-2))) (.d (.int i)) = some (.int (-2 * i)) := gm1 (-2) i (by decide +kernel)
    by_cases hp : i ≥ 0
    · rw [if_pos hp] at hz'
      have e : PySem.PyData.int (2 * i) = nI (zig i) := by rw [nI, hz']
      simp [ML.LIM, ML.content, ML.contents, ML.clean, ML.avSl, ML.datas, ML.obD, ML.slL, ML.seqOf, ML.dB, ML.dI, ML.dItems, ML.dTup, ML.dLst, ML.dStr, ML.isNone, ML.gIsN, ML.gNeg, ML.gAdd, ML.bInt, ML.tyName, ML.isTy, ML.ioOk, ML.gT, ML.gCons, ML.gNil, ML.fApp, ML.fExt, ML.fPop, hp, m1, e]
    · rw [if_neg hp] at hz'
      have hp' : ¬ 0 ≤ i := hp
      have e : PySem.PyData.int (-2 * i - 1) = nI (zig i) := by rw [nI, hz']
      simp [ML.LIM, ML.content, ML.contents, ML.clean, ML.avSl, ML.datas, ML.obD, ML.slL, ML.seqOf, ML.dB, ML.dI, ML.dItems, ML.dTup, ML.dLst, ML.dStr, ML.isNone, ML.gIsN, ML.gNeg, ML.gAdd, ML.bInt, ML.tyName, ML.isTy, ML.ioOk, ML.gT, ML.gCons, ML.gNil, ML.fApp, ML.fExt, ML.fPop, hp', m2]
      rw [← e]
  have hc := call1 (F := F__law_sevens) ha hs rfl
  have l1 : found.length + 1 ≤ 10000000 := by omega
  have l1' : found.length ≤ 9999999 := by omega
  have l2 : found.length + 1 + (sev (zig i)).length ≤ 10000000 := by omega
  have l2' : found.length + (1 + (sev (zig i)).length) ≤ 10000000 := by omega
  have l2'' : found.length + ((sev (zig i)).length + 1) ≤ 10000000 := by omega
  simp [ML.LIM, ML.content, ML.contents, ML.clean, ML.avSl, ML.datas, ML.obD, ML.slL, ML.seqOf, ML.dB, ML.dI, ML.dItems, ML.dTup, ML.dLst, ML.dStr, ML.isNone, ML.gIsN, ML.gNeg, ML.gAdd, ML.bInt, ML.tyName, ML.isTy, ML.ioOk, ML.gT, ML.gCons, ML.gNil, ML.fApp, ML.fExt, ML.fPop, m__law_octets_b2, ht, hc, gCat, l1', l2, l2', l2'']
  simp [ML.LIM, ML.content, ML.contents, ML.clean, ML.avSl, ML.datas, ML.obD, ML.slL, ML.seqOf, ML.dB, ML.dI, ML.dItems, ML.dTup, ML.dLst, ML.dStr, ML.isNone, ML.gIsN, ML.gNeg, ML.gAdd, ML.bInt, ML.tyName, ML.isTy, ML.ioOk, ML.gT, ML.gCons, ML.gNil, ML.fApp, ML.fExt, ML.fPop, nI]
theorem lo_tup (xs : List D) (h : eqOk (.list (R ++ [.tuple xs])) = true) (hx : xs.length ≤ 1000) (hl : found.length + 100 ≤ 10000000) (hl2 : R.length + xs.length ≤ 10000000) : m__law_octets_b2 [t, .o true (.lst found), .o true (.lst (R ++ [.tuple xs])), s3, s4, s5] = .nx [t, .o true (.lst (found ++ (4 :: sev xs.length).map nI)), .o true (.lst (R ++ xs.reverse)), s3, .d (.tuple xs), s5] := by
  have ht := lo_test t (.o true (.lst found)) s3 s4 s5 R (.tuple xs) h
  have hb : xs.length < BIG := Nat.lt_of_le_of_lt hx (by decide)
  have l := sev_len hb
  obtain ⟨o, hs⟩ := sevens_ok xs.length hb
  have ha : (eBlt bLen (aR 4 (aNil))) [t, .o true (.lst found), .o true (.lst R), s3, .d (.tuple xs), s5] = .ok (nI xs.length) [t, .o true (.lst found), .o true (.lst R), s3, .d (.tuple xs), s5] := by
    simp [ML.LIM, ML.content, ML.contents, ML.clean, ML.avSl, ML.datas, ML.obD, ML.slL, ML.seqOf, ML.dB, ML.dI, ML.dItems, ML.dTup, ML.dLst, ML.dStr, ML.isNone, ML.gIsN, ML.gNeg, ML.gAdd, ML.bInt, ML.tyName, ML.isTy, ML.ioOk, ML.gT, ML.gCons, ML.gNil, ML.fApp, ML.fExt, ML.fPop, bLen, seqOf, nI]
  have hc := call1 (F := F__law_sevens) ha hs rfl
  have l1' : found.length ≤ 9999999 := by omega
  have l2 : found.length + 1 + (sev xs.length).length ≤ 10000000 := by omega
  have l2' : found.length + (1 + (sev xs.length).length) ≤ 10000000 := by omega
  have l2'' : found.length + ((sev xs.length).length + 1) ≤ 10000000 := by omega
  simp [ML.LIM, ML.content, ML.contents, ML.clean, ML.avSl, ML.datas, ML.obD, ML.slL, ML.seqOf, ML.dB, ML.dI, ML.dItems, ML.dTup, ML.dLst, ML.dStr, ML.isNone, ML.gIsN, ML.gNeg, ML.gAdd, ML.bInt, ML.tyName, ML.isTy, ML.ioOk, ML.gT, ML.gCons, ML.gNil, ML.fApp, ML.fExt, ML.fPop, m__law_octets_b2, ht, hc, gCat, l1', l2, l2', l2'', hl2]
  simp [ML.LIM, ML.content, ML.contents, ML.clean, ML.avSl, ML.datas, ML.obD, ML.slL, ML.seqOf, ML.dB, ML.dI, ML.dItems, ML.dTup, ML.dLst, ML.dStr, ML.isNone, ML.gIsN, ML.gNeg, ML.gAdd, ML.bInt, ML.tyName, ML.isTy, ML.ioOk, ML.gT, ML.gCons, ML.gNil, ML.fApp, ML.fExt, ML.fPop, nI]
theorem lo_comp (f w : Sl) (z : Str) (hz : z.length ≤ 1000) (hk : okS z = true) : o__law_octets_1 [t, f, w, s3, .d (.str z), .un] = .ok (.lst (z.cps.toList.map nI)) [t, f, w, s3, .d (.str z), .un] := by
  have hl : z.cps.toList.length = z.length := by simp [ML.LIM, ML.content, ML.contents, ML.clean, ML.avSl, ML.datas, ML.obD, ML.slL, ML.seqOf, ML.dB, ML.dI, ML.dItems, ML.dTup, ML.dLst, ML.dStr, ML.isNone, ML.gIsN, ML.gNeg, ML.gAdd, ML.bInt, ML.tyName, ML.isTy, ML.ioOk, ML.gT, ML.gCons, ML.gNil, ML.fApp, ML.fExt, ML.fPop, Str.length]
  have key : ∀ c : Nat, ∀ d : D, d = sg c → (match d with | .str x => nI (x.cps.toList.headD 0) | _ => .none) = nI c := by
    intro c d e; subst e; rfl
  have e := compL_map (g := gN 5) (tt := ret true) (te := m__law_octets_c1) (vs := [5]) (e0 := [t, f, w, s3, .d (.str z), .un]) (p := fun _ => true) (f := fun d => match d with | .str x => nI (x.cps.toList.headD 0) | _ => .none) (z.cps.toList.map sg) [] (by
    intro d hd
    obtain ⟨c, hc, rfl⟩ := List.mem_map.mp hd
    obtain ⟨o, hs⟩ := sign_ok c (of_decide_eq_true (List.all_eq_true.mp hk c hc))
    refine ⟨[t, f, w, s3, .d (.str z), .d (sg c)], by simp [ML.LIM, ML.content, ML.contents, ML.clean, ML.avSl, ML.datas, ML.obD, ML.slL, ML.seqOf, ML.dB, ML.dI, ML.dItems, ML.dTup, ML.dLst, ML.dStr, ML.isNone, ML.gIsN, ML.gNeg, ML.gAdd, ML.bInt, ML.tyName, ML.isTy, ML.ioOk, ML.gT, ML.gCons, ML.gNil, ML.fApp, ML.fExt, ML.fPop], by simp [ML.LIM, ML.content, ML.contents, ML.clean, ML.avSl, ML.datas, ML.obD, ML.slL, ML.seqOf, ML.dB, ML.dI, ML.dItems, ML.dTup, ML.dLst, ML.dStr, ML.isNone, ML.gIsN, ML.gNeg, ML.gAdd, ML.bInt, ML.tyName, ML.isTy, ML.ioOk, ML.gT, ML.gCons, ML.gNil, ML.fApp, ML.fExt, ML.fPop], fun _ => ?_, by simp [ML.LIM, ML.content, ML.contents, ML.clean, ML.avSl, ML.datas, ML.obD, ML.slL, ML.seqOf, ML.dB, ML.dI, ML.dItems, ML.dTup, ML.dLst, ML.dStr, ML.isNone, ML.gIsN, ML.gNeg, ML.gAdd, ML.bInt, ML.tyName, ML.isTy, ML.ioOk, ML.gT, ML.gCons, ML.gNil, ML.fApp, ML.fExt, ML.fPop, wipeE]⟩
    exact call1 (by simp [ML.LIM, ML.content, ML.contents, ML.clean, ML.avSl, ML.datas, ML.obD, ML.slL, ML.seqOf, ML.dB, ML.dI, ML.dItems, ML.dTup, ML.dLst, ML.dStr, ML.isNone, ML.gIsN, ML.gNeg, ML.gAdd, ML.bInt, ML.tyName, ML.isTy, ML.ioOk, ML.gT, ML.gCons, ML.gNil, ML.fApp, ML.fExt, ML.fPop, sg]) hs rfl) (by simp [ML.LIM, ML.content, ML.contents, ML.clean, ML.avSl, ML.datas, ML.obD, ML.slL, ML.seqOf, ML.dB, ML.dI, ML.dItems, ML.dTup, ML.dLst, ML.dStr, ML.isNone, ML.gIsN, ML.gNeg, ML.gAdd, ML.bInt, ML.tyName, ML.isTy, ML.ioOk, ML.gT, ML.gCons, ML.gNil, ML.fApp, ML.fExt, ML.fPop, hl]; omega)
  rw [List.filter_eq_self.mpr (fun _ _ => rfl), List.nil_append, List.map_map] at e
  have e2 : (z.cps.toList.map ((fun d : D => match d with | .str x => nI (x.cps.toList.headD 0) | _ => .none) ∘ sg)) = z.cps.toList.map nI := List.map_congr_left fun c _ => key c _ rfl
  rw [e2] at e
  show (match compL _ _ _ _ (z.cps.toList.map sg) [] (wipeE [t, f, w, s3, .d (.str z), .un] [5]) with | .ok xs e => _ | _ => _) = _
  rw [show wipeE [t, f, w, s3, .d (.str z), .un] [5] = [t, f, w, s3, .d (.str z), .un] from rfl, e]
  rfl
theorem lo_str (z : Str) (h : eqOk (.list (R ++ [.str z])) = true) (hz : z.length ≤ 1000) (hk : okS z = true) (hl : found.length + 1100 ≤ 10000000) : m__law_octets_b2 [t, .o true (.lst found), .o true (.lst (R ++ [.str z])), s3, s4, .un] = .nx [t, .o true (.lst (found ++ (3 :: (sev z.length ++ z.cps.toList)).map nI)), .o true (.lst R), s3, .d (.str z), .un] := by
  have ht := lo_test t (.o true (.lst found)) s3 s4 .un R (.str z) h
  have hb : z.length < BIG := Nat.lt_of_le_of_lt hz (by decide)
  have l := sev_len hb
  have hl2 : z.cps.toList.length = z.length := by simp [ML.LIM, ML.content, ML.contents, ML.clean, ML.avSl, ML.datas, ML.obD, ML.slL, ML.seqOf, ML.dB, ML.dI, ML.dItems, ML.dTup, ML.dLst, ML.dStr, ML.isNone, ML.gIsN, ML.gNeg, ML.gAdd, ML.bInt, ML.tyName, ML.isTy, ML.ioOk, ML.gT, ML.gCons, ML.gNil, ML.fApp, ML.fExt, ML.fPop, Str.length]
  obtain ⟨o, hs⟩ := sevens_ok z.length hb
  have ha : (eBlt bLen (aR 4 (aNil))) [t, .o true (.lst found), .o true (.lst R), s3, .d (.str z), .un] = .ok (nI z.length) [t, .o true (.lst found), .o true (.lst R), s3, .d (.str z), .un] := by
    have : z.length ≤ 10000000 := by omega
    simp [ML.LIM, ML.content, ML.contents, ML.clean, ML.avSl, ML.datas, ML.obD, ML.slL, ML.seqOf, ML.dB, ML.dI, ML.dItems, ML.dTup, ML.dLst, ML.dStr, ML.isNone, ML.gIsN, ML.gNeg, ML.gAdd, ML.bInt, ML.tyName, ML.isTy, ML.ioOk, ML.gT, ML.gCons, ML.gNil, ML.fApp, ML.fExt, ML.fPop, bLen, this, nI]
  have hc := call1 (F := F__law_sevens) ha hs rfl
  have hcm := lo_comp t s3 (.o true (.lst found)) (.o true (.lst R)) z hz hk
  have l1' : found.length ≤ 9999999 := by omega
  have l2' : found.length + (1 + (sev z.length).length) ≤ 10000000 := by omega
  have l2'' : found.length + ((sev z.length).length + 1) ≤ 10000000 := by omega
  have hs : z.cps.size = z.length := rfl
  have l3 : found.length + ((sev z.length).length + 1) + z.cps.size ≤ 10000000 := by omega
  have l3' : found.length + ((sev z.length).length + z.cps.size + 1) ≤ 10000000 := by omega
  have l3'' : found.length + ((sev z.length).length + (z.cps.size + 1)) ≤ 10000000 := by omega
  have l4 : found.length + 1 + (sev z.length).length ≤ 10000000 := by omega
  have l5 : found.length + 1 + (sev z.length).length + z.cps.size ≤ 10000000 := by omega
  simp [ML.LIM, ML.content, ML.contents, ML.clean, ML.avSl, ML.datas, ML.obD, ML.slL, ML.seqOf, ML.dB, ML.dI, ML.dItems, ML.dTup, ML.dLst, ML.dStr, ML.isNone, ML.gIsN, ML.gNeg, ML.gAdd, ML.bInt, ML.tyName, ML.isTy, ML.ioOk, ML.gT, ML.gCons, ML.gNil, ML.fApp, ML.fExt, ML.fPop, m__law_octets_b2, ht, hc, hcm, gCat, l1', l2', l2'', l3, l3', l3'', l4, l5]
  simp [ML.LIM, ML.content, ML.contents, ML.clean, ML.avSl, ML.datas, ML.obD, ML.slL, ML.seqOf, ML.dB, ML.dI, ML.dItems, ML.dTup, ML.dLst, ML.dStr, ML.isNone, ML.gIsN, ML.gNeg, ML.gAdd, ML.bInt, ML.tyName, ML.isTy, ML.ioOk, ML.gT, ML.gCons, ML.gNil, ML.fApp, ML.fExt, ML.fPop, nI]
end
end K62
end

section
set_option Elab.async false
set_option linter.all false
set_option maxRecDepth 100000
set_option maxHeartbeats 2000000
namespace K62
open PySem (Str)
open L2 (atI ixN)
open ML
theorem lo_loop (t : Sl) : ∀ (ds ws found : List D) (s3 s4 : Sl) (ns : List Nat), nods ws < ds.length → allFs ws → encOs ws = some ns → PySem.PyData.depthAll ws ≤ 50 → found.length + 1100 * nods ws ≤ 1000000 →
    ∃ s3' s4', forL (gN 3) m__law_octets_b2 ds [t, .o true (.lst found), .o true (.lst ws.reverse), s3, s4, .un] = .nx [t, .o true (.lst (found ++ ns.map nI)), .o true (.lst []), s3', s4', .un] := by
  intro ds
  induction ds with
  | nil => intro ws found s3 s4 ns h; simp [ML.LIM, ML.content, ML.contents, ML.clean, ML.avSl, ML.datas, ML.obD, ML.slL, ML.seqOf, ML.dB, ML.dI, ML.dItems, ML.dTup, ML.dLst, ML.dStr, ML.isNone, ML.gIsN, ML.gNeg, ML.gAdd, ML.bInt, ML.tyName, ML.isTy, ML.ioOk, ML.gT, ML.gCons, ML.gNil, ML.fApp, ML.fExt, ML.fPop] at h
  | cons q ds ih =>
    intro ws found s3 s4 ns h1 h2 h3 h4 h5
    rw [List.length_cons] at h1
    rw [forL, gN_e]
    simp only [List.set]
    cases ws with
    | nil =>
      cases h3
      rw [List.reverse_nil, lo_end]
      exact ⟨.d q, s4, by simp [ML.LIM, ML.content, ML.contents, ML.clean, ML.avSl, ML.datas, ML.obD, ML.slL, ML.seqOf, ML.dB, ML.dI, ML.dItems, ML.dTup, ML.dLst, ML.dStr, ML.isNone, ML.gIsN, ML.gNeg, ML.gAdd, ML.bInt, ML.tyName, ML.isTy, ML.ioOk, ML.gT, ML.gCons, ML.gNil, ML.fApp, ML.fExt, ML.fPop]⟩
    | cons d r =>
      have hf : fine d := fine_of h2.1
      have np := nod_pos d
      have heq : eqOk (.list (r.reverse ++ [d])) = true := by rw [← List.reverse_cons]; exact eqOk_list h3 (by omega)
      rw [nods] at h1 h5
      have lr := nods_len r
      rw [encOs] at h3
      obtain ⟨a, ha, h3⟩ := Option.bind_eq_some_iff.mp h3
      obtain ⟨b, hb, rfl⟩ := Option.map_eq_some_iff.mp h3
      rw [PySem.PyData.depthAll] at h4
      rw [List.reverse_cons]
      cases d with
      | none =>
        rw [lo_none t _ s4 .un found r.reverse heq (by omega)]
        dsimp only
        cases ha
        obtain ⟨s3', s4', e⟩ := ih r (found ++ [5].map nI) (.d q) (.d .none) b (by omega) h2.2 hb (by omega) (by simp [ML.LIM, ML.content, ML.contents, ML.clean, ML.avSl, ML.datas, ML.obD, ML.slL, ML.seqOf, ML.dB, ML.dI, ML.dItems, ML.dTup, ML.dLst, ML.dStr, ML.isNone, ML.gIsN, ML.gNeg, ML.gAdd, ML.bInt, ML.tyName, ML.isTy, ML.ioOk, ML.gT, ML.gCons, ML.gNil, ML.fApp, ML.fExt, ML.fPop]; omega)
        exact ⟨s3', s4', by rw [e]; simp [ML.LIM, ML.content, ML.contents, ML.clean, ML.avSl, ML.datas, ML.obD, ML.slL, ML.seqOf, ML.dB, ML.dI, ML.dItems, ML.dTup, ML.dLst, ML.dStr, ML.isNone, ML.gIsN, ML.gNeg, ML.gAdd, ML.bInt, ML.tyName, ML.isTy, ML.ioOk, ML.gT, ML.gCons, ML.gNil, ML.fApp, ML.fExt, ML.fPop]⟩
      | bool x =>
        rw [lo_bool t _ s4 .un found r.reverse x heq (by omega)]
        dsimp only
        cases ha
        obtain ⟨s3', s4', e⟩ := ih r (found ++ [if x then 2 else 1].map nI) (.d q) (.d (.bool x)) b (by omega) h2.2 hb (by omega) (by simp [ML.LIM, ML.content, ML.contents, ML.clean, ML.avSl, ML.datas, ML.obD, ML.slL, ML.seqOf, ML.dB, ML.dI, ML.dItems, ML.dTup, ML.dLst, ML.dStr, ML.isNone, ML.gIsN, ML.gNeg, ML.gAdd, ML.bInt, ML.tyName, ML.isTy, ML.ioOk, ML.gT, ML.gCons, ML.gNil, ML.fApp, ML.fExt, ML.fPop]; omega)
        exact ⟨s3', s4', by rw [e]; simp [ML.LIM, ML.content, ML.contents, ML.clean, ML.avSl, ML.datas, ML.obD, ML.slL, ML.seqOf, ML.dB, ML.dI, ML.dItems, ML.dTup, ML.dLst, ML.dStr, ML.isNone, ML.gIsN, ML.gNeg, ML.gAdd, ML.bInt, ML.tyName, ML.isTy, ML.ioOk, ML.gT, ML.gCons, ML.gNil, ML.fApp, ML.fExt, ML.fPop]⟩
      | int i =>
        have hz : zig i < BIG := hf
        have l := sev_len hz
        rw [lo_int t _ s4 .un found r.reverse i heq hz (by omega)]
        dsimp only
        cases ha
        obtain ⟨s3', s4', e⟩ := ih r (found ++ (0 :: sev (zig i)).map nI) (.d q) (.d (.int i)) b (by omega) h2.2 hb (by omega) (by simp [ML.LIM, ML.content, ML.contents, ML.clean, ML.avSl, ML.datas, ML.obD, ML.slL, ML.seqOf, ML.dB, ML.dI, ML.dItems, ML.dTup, ML.dLst, ML.dStr, ML.isNone, ML.gIsN, ML.gNeg, ML.gAdd, ML.bInt, ML.tyName, ML.isTy, ML.ioOk, ML.gT, ML.gCons, ML.gNil, ML.fApp, ML.fExt, ML.fPop]; omega)
        exact ⟨s3', s4', by rw [e]; simp [ML.LIM, ML.content, ML.contents, ML.clean, ML.avSl, ML.datas, ML.obD, ML.slL, ML.seqOf, ML.dB, ML.dI, ML.dItems, ML.dTup, ML.dLst, ML.dStr, ML.isNone, ML.gIsN, ML.gNeg, ML.gAdd, ML.bInt, ML.tyName, ML.isTy, ML.ioOk, ML.gT, ML.gCons, ML.gNil, ML.fApp, ML.fExt, ML.fPop]⟩
      | str z =>
        have ha' : (if okS z = true then some (3 :: (sev z.length ++ z.cps.toList)) else none) = some a := ha
        obtain ⟨hk, rfl⟩ := ite_some ha'
        have hz : z.length ≤ 1000 := hf
        have l := nodeE_len hf (ns := 3 :: (sev z.length ++ z.cps.toList)) (by show (if okS z = true then _ else none) = _; rw [if_pos hk])
        rw [lo_str t _ s4 found r.reverse z heq hz hk (by omega)]
        dsimp only
        obtain ⟨s3', s4', e⟩ := ih r (found ++ (3 :: (sev z.length ++ z.cps.toList)).map nI) (.d q) (.d (.str z)) b (by omega) h2.2 hb (by omega) (by rw [List.length_append, List.length_map]; omega)
        exact ⟨s3', s4', by rw [e]; simp [ML.LIM, ML.content, ML.contents, ML.clean, ML.avSl, ML.datas, ML.obD, ML.slL, ML.seqOf, ML.dB, ML.dI, ML.dItems, ML.dTup, ML.dLst, ML.dStr, ML.isNone, ML.gIsN, ML.gNeg, ML.gAdd, ML.bInt, ML.tyName, ML.isTy, ML.ioOk, ML.gT, ML.gCons, ML.gNil, ML.fApp, ML.fExt, ML.fPop]⟩
      | tuple xs =>
        have hx : xs.length ≤ 1000 := hf
        rw [encO] at ha
        obtain ⟨c, hc, rfl⟩ := Option.map_eq_some_iff.mp ha
        have hnod : nod (.tuple xs) = 1 + nods xs := by rw [nod]
        have lx := nods_len xs
        rw [hnod] at h1 h5
        have l := sev_len (n := xs.length) (Nat.lt_of_le_of_lt hx (by decide))
        rw [lo_tup t _ s4 .un found r.reverse xs heq hx (by omega) (by rw [List.length_reverse]; omega)]
        dsimp only
        rw [← List.reverse_append]
        rw [PySem.PyData.depth] at h4
        obtain ⟨s3', s4', e⟩ := ih (xs ++ r) (found ++ (4 :: sev xs.length).map nI) (.d q) (.d (.tuple xs)) (c ++ b) (by rw [nods_append]; omega) (allFs_append.mpr ⟨h2.1.2, h2.2⟩) (by rw [encOs_append, hc, hb]; rfl) (by rw [depthAll_append]; omega) (by
          rw [nods_append, List.length_append, List.length_map, List.length_cons]; omega)
        exact ⟨s3', s4', by rw [e]; simp [ML.LIM, ML.content, ML.contents, ML.clean, ML.avSl, ML.datas, ML.obD, ML.slL, ML.seqOf, ML.dB, ML.dI, ML.dItems, ML.dTup, ML.dLst, ML.dStr, ML.isNone, ML.gIsN, ML.gNeg, ML.gAdd, ML.bInt, ML.tyName, ML.isTy, ML.ioOk, ML.gT, ML.gCons, ML.gNil, ML.fApp, ML.fExt, ML.fPop]⟩
      | list xs => cases ha
      | dict xs => cases ha
/-! ## sealed -/
theorem sl_loop (xs : List Nat) (hx : ∀ x ∈ xs, x < 1000) : ∀ (m k tot : Nat) (s2 : Sl), k + m = xs.length →
    ∃ s2', forL (gN 2) m__law_sealed_b1 ((List.range' k m).map nI) [.d (.list (xs.map nI)), .d (nI tot), s2] = .nx [.d (.list (xs.map nI)), .d (nI (tot + cs k (xs.drop k))), s2'] := by
  intro m
  induction m with
  | zero =>
    intro k tot s2 h
    rw [List.drop_of_length_le (by omega)]
    exact ⟨s2, by simp [ML.LIM, ML.content, ML.contents, ML.clean, ML.avSl, ML.datas, ML.obD, ML.slL, ML.seqOf, ML.dB, ML.dI, ML.dItems, ML.dTup, ML.dLst, ML.dStr, ML.isNone, ML.gIsN, ML.gNeg, ML.gAdd, ML.bInt, ML.tyName, ML.isTy, ML.ioOk, ML.gT, ML.gCons, ML.gNil, ML.fApp, ML.fExt, ML.fPop, forL, cs]⟩
  | succ m ih =>
    intro k tot s2 h
    have hk : k < xs.length := by omega
    rw [List.range'_succ, List.map_cons, forL, gN_e]
    simp only [List.set]
    have hm : xs[k] < 1000 := hx _ (List.getElem_mem hk)
    have ix : gIx (.d (.list (xs.map nI))) (.d (nI k)) = some (nI xs[k]) := by
      show (atI (xs.map nI) (k : Int)) = _
      unfold L2.atI L2.ixN
      rw [if_pos (by omega), if_pos (by rw [List.length_map]; omega)]
      simp [ML.LIM, ML.content, ML.contents, ML.clean, ML.avSl, ML.datas, ML.obD, ML.slL, ML.seqOf, ML.dB, ML.dI, ML.dItems, ML.dTup, ML.dLst, ML.dStr, ML.isNone, ML.gIsN, ML.gNeg, ML.gAdd, ML.bInt, ML.tyName, ML.isTy, ML.ioOk, ML.gT, ML.gCons, ML.gNil, ML.fApp, ML.fExt, ML.fPop, hk]
    have gmm : gMul (.d (.int (xs[k] : Int))) (.d (.int ((k : Int) + 1))) = some (.int ((xs[k] : Int) * ((k : Int) + 1))) := gm1 _ _ (sm_ok _ hm)
    have b : m__law_sealed_b1 [.d (.list (xs.map nI)), .d (nI tot), .d (nI k)] = .nx [.d (.list (xs.map nI)), .d (nI (tot + xs[k] * (k + 1))), .d (nI k)] := by
      simp [ML.LIM, ML.content, ML.contents, ML.clean, ML.avSl, ML.datas, ML.obD, ML.slL, ML.seqOf, ML.dB, ML.dI, ML.dItems, ML.dTup, ML.dLst, ML.dStr, ML.isNone, ML.gIsN, ML.gNeg, ML.gAdd, ML.bInt, ML.tyName, ML.isTy, ML.ioOk, ML.gT, ML.gCons, ML.gNil, ML.fApp, ML.fExt, ML.fPop, m__law_sealed_b1, ix, -List.getElem_map]
      simp [ML.LIM, ML.content, ML.contents, ML.clean, ML.avSl, ML.datas, ML.obD, ML.slL, ML.seqOf, ML.dB, ML.dI, ML.dItems, ML.dTup, ML.dLst, ML.dStr, ML.isNone, ML.gIsN, ML.gNeg, ML.gAdd, ML.bInt, ML.tyName, ML.isTy, ML.ioOk, ML.gT, ML.gCons, ML.gNil, ML.fApp, ML.fExt, ML.fPop, nI, gmm]
    rw [b]
    dsimp only
    obtain ⟨s2', e⟩ := ih (k + 1) (tot + xs[k] * (k + 1)) (.d (nI k)) (by omega)
    refine ⟨s2', ?_⟩
    rw [e, List.drop_eq_getElem_cons hk, cs]
    have : tot + xs[k] * (k + 1) + cs (k + 1) (xs.drop (k + 1)) = tot + ((k + 1) * xs[k] + cs (k + 1) (xs.drop (k + 1))) := by rw [Nat.mul_comm]; omega
    rw [this]
theorem sealed_ok (xs : List Nat) (hx : ∀ x ∈ xs, x < 1000) (hl : xs.length ≤ 1000000) : ∃ o, F__law_sealed [.d (.list (xs.map nI))] = .ok (.d (.tuple ((xs ++ [cs 0 xs % 251]).map nI))) o := by
  obtain ⟨s2', e⟩ := sl_loop xs hx xs.length 0 0 .un (by omega)
  have w : m__law_sealed_w2 [.d (.list (xs.map nI)), .d (.int 0), .un] = .nx [.d (.list (xs.map nI)), .d (nI (cs 0 xs)), s2'] := by
    rw [m__law_sealed_w2, sFor_e, xS_e, iRg_e, bind_e, aD_e, bind_e]
    have hb : eBlt bLen (aR 0 aNil) [.d (.list (xs.map nI)), .d (.int 0), .un] = .ok (nI xs.length) [.d (.list (xs.map nI)), .d (.int 0), .un] := by
      simp [ML.LIM, ML.content, ML.contents, ML.clean, ML.avSl, ML.datas, ML.obD, ML.slL, ML.seqOf, ML.dB, ML.dI, ML.dItems, ML.dTup, ML.dLst, ML.dStr, ML.isNone, ML.gIsN, ML.gNeg, ML.gAdd, ML.bInt, ML.tyName, ML.isTy, ML.ioOk, ML.gT, ML.gCons, ML.gNil, ML.fApp, ML.fExt, ML.fPop, bLen, seqOf, nI]
    rw [hb]
    simp only [bind_e, aNil_e, ret_e, rng1, nI]
    rw [if_pos (by omega)]
    simp only [lift_some, Int.toNat_natCast]
    rw [rng_map, List.range_eq_range']
    simpa [ML.LIM, ML.content, ML.contents, ML.clean, ML.avSl, ML.datas, ML.obD, ML.slL, ML.seqOf, ML.dB, ML.dI, ML.dItems, ML.dTup, ML.dLst, ML.dStr, ML.isNone, ML.gIsN, ML.gNeg, ML.gAdd, ML.bInt, ML.tyName, ML.isTy, ML.ioOk, ML.gT, ML.gCons, ML.gNil, ML.fApp, ML.fExt, ML.fPop, nI] using e
  have l2 : xs.length ≤ 9999999 := by omega
  refine ⟨[.d (.list (xs.map nI))], ?_⟩
  simp [ML.LIM, ML.content, ML.contents, ML.clean, ML.avSl, ML.datas, ML.obD, ML.slL, ML.seqOf, ML.dB, ML.dI, ML.dItems, ML.dTup, ML.dLst, ML.dStr, ML.isNone, ML.gIsN, ML.gNeg, ML.gAdd, ML.bInt, ML.tyName, ML.isTy, ML.ioOk, ML.gT, ML.gCons, ML.gNil, ML.fApp, ML.fExt, ML.fPop, F__law_sealed, runBody, m__law_sealed, w, gCat, l2, nI, bTupOf, seqOf]
theorem lawoct_ok (d : D) (hd : allF d) (hn : nod d ≤ 800) (ns : List Nat) (he : encO d = some ns) (hdp : d.depth ≤ 50) (hb : ∀ x ∈ ns, x < 1000) : ∃ o, F__law_octets [.d d] = .ok (.d (octD ns)) o := by
  have ln := enc_le hd hn he
  have e1 : encOs [d] = some ns := by rw [encOs, encOs, he]; simp [ML.LIM, ML.content, ML.contents, ML.clean, ML.avSl, ML.datas, ML.obD, ML.slL, ML.seqOf, ML.dB, ML.dI, ML.dItems, ML.dTup, ML.dLst, ML.dStr, ML.isNone, ML.gIsN, ML.gNeg, ML.gAdd, ML.bInt, ML.tyName, ML.isTy, ML.ioOk, ML.gT, ML.gCons, ML.gNil, ML.fApp, ML.fExt, ML.fPop]
  obtain ⟨s3', s4', e⟩ := lo_loop (.d d) ((List.range 4000).map nI) [d] ([83, 82, 1].map nI) .un .un ns (by rw [nods, nods]; simp [ML.LIM, ML.content, ML.contents, ML.clean, ML.avSl, ML.datas, ML.obD, ML.slL, ML.seqOf, ML.dB, ML.dI, ML.dItems, ML.dTup, ML.dLst, ML.dStr, ML.isNone, ML.gIsN, ML.gNeg, ML.gAdd, ML.bInt, ML.tyName, ML.isTy, ML.ioOk, ML.gT, ML.gCons, ML.gNil, ML.fApp, ML.fExt, ML.fPop]; omega) ⟨hd, trivial⟩ e1 (by rw [PySem.PyData.depthAll, PySem.PyData.depthAll]; omega) (by rw [nods, nods]; simp [ML.LIM, ML.content, ML.contents, ML.clean, ML.avSl, ML.datas, ML.obD, ML.slL, ML.seqOf, ML.dB, ML.dI, ML.dItems, ML.dTup, ML.dLst, ML.dStr, ML.isNone, ML.gIsN, ML.gNeg, ML.gAdd, ML.bInt, ML.tyName, ML.isTy, ML.ioOk, ML.gT, ML.gCons, ML.gNil, ML.fApp, ML.fExt, ML.fPop]; omega)
  have w : m__law_octets_w3 [.d d, .o true (.lst ([83, 82, 1].map nI)), .o true (.lst [d]), .un, .un, .un] = .nx [.d d, .o true (.lst (([83, 82, 1] ++ ns).map nI)), .o true (.lst []), s3', s4', .un] := by
    rw [m__law_octets_w3, sFor_e, xS_e, iRg_e, bind_e, aD_e, bind_e, eC_e]
    simp only [bind_e, aNil_e, ret_e, rng1]
    rw [if_pos (by decide)]
    simp only [lift_some]
    rw [show ((4000 : Int).toNat) = 4000 from rfl, rng_map, List.map_append]
    exact e
  obtain ⟨o, hs⟩ := sealed_ok ([83, 82, 1] ++ ns) (fun x hx => by
      rcases List.mem_append.mp hx with h | h
      · simp [ML.LIM, ML.content, ML.contents, ML.clean, ML.avSl, ML.datas, ML.obD, ML.slL, ML.seqOf, ML.dB, ML.dI, ML.dItems, ML.dTup, ML.dLst, ML.dStr, ML.isNone, ML.gIsN, ML.gNeg, ML.gAdd, ML.bInt, ML.tyName, ML.isTy, ML.ioOk, ML.gT, ML.gCons, ML.gNil, ML.fApp, ML.fExt, ML.fPop] at h; omega
      · exact hb x h) (by simp [ML.LIM, ML.content, ML.contents, ML.clean, ML.avSl, ML.datas, ML.obD, ML.slL, ML.seqOf, ML.dB, ML.dI, ML.dItems, ML.dTup, ML.dLst, ML.dStr, ML.isNone, ML.gIsN, ML.gNeg, ML.gAdd, ML.bInt, ML.tyName, ML.isTy, ML.ioOk, ML.gT, ML.gCons, ML.gNil, ML.fApp, ML.fExt, ML.fPop]; omega)
  have hc : eRv (callM F__law_sealed (aD (eV 1) aNil)) [.d d, .o true (.lst (([83, 82, 1] ++ ns).map nI)), .o true (.lst []), s3', s4', .un] = .ok (octD ns) [.d d, .d (.list (([83, 82, 1] ++ ns).map nI)), .o true (.lst []), s3', s4', .un] := call1 (by simp [ML.LIM, ML.content, ML.contents, ML.clean, ML.avSl, ML.datas, ML.obD, ML.slL, ML.seqOf, ML.dB, ML.dI, ML.dItems, ML.dTup, ML.dLst, ML.dStr, ML.isNone, ML.gIsN, ML.gNeg, ML.gAdd, ML.bInt, ML.tyName, ML.isTy, ML.ioOk, ML.gT, ML.gCons, ML.gNil, ML.fApp, ML.fExt, ML.fPop]) hs rfl
  have hp1 : (sSetO 1 (oLst (aD (eC (.int 83)) (aD (eC (.int 82)) (aD (eC (.int 1)) (aNil)))))) [.d d, .un, .un, .un, .un, .un] = .nx [.d d, .o true (.lst ([83, 82, 1].map nI)), .un, .un, .un, .un] := by simp [ML.LIM, ML.content, ML.contents, ML.clean, ML.avSl, ML.datas, ML.obD, ML.slL, ML.seqOf, ML.dB, ML.dI, ML.dItems, ML.dTup, ML.dLst, ML.dStr, ML.isNone, ML.gIsN, ML.gNeg, ML.gAdd, ML.bInt, ML.tyName, ML.isTy, ML.ioOk, ML.gT, ML.gCons, ML.gNil, ML.fApp, ML.fExt, ML.fPop, nI]
  have hp2 : (sSetO 2 (oLst (aD (eV 0) (aNil)))) [.d d, .o true (.lst ([83, 82, 1].map nI)), .un, .un, .un, .un] = .nx [.d d, .o true (.lst ([83, 82, 1].map nI)), .o true (.lst [d]), .un, .un, .un] := by simp [ML.LIM, ML.content, ML.contents, ML.clean, ML.avSl, ML.datas, ML.obD, ML.slL, ML.seqOf, ML.dB, ML.dI, ML.dItems, ML.dTup, ML.dLst, ML.dStr, ML.isNone, ML.gIsN, ML.gNeg, ML.gAdd, ML.bInt, ML.tyName, ML.isTy, ML.ioOk, ML.gT, ML.gCons, ML.gNil, ML.fApp, ML.fExt, ML.fPop]
  refine ⟨[.d d], ?_⟩
  simp only [F__law_octets, runBody, m__law_octets, List.length_cons, List.length_nil, Nat.zero_add, if_true, List.replicate, List.cons_append, List.nil_append, Nat.sub_self]
  show (match (sSeq _ _ [.d d, .un, .un, .un, .un, .un]) with | .nx e => _ | .rt r e => _ | .ex c e => _ | _ => _) = _
  rw [sSeq_e, hp1]
  dsimp only
  rw [sSeq_e, hp2]
  dsimp only
  rw [sSeq_e, w]
  dsimp only
  rw [sRet_e, xS_e, hc]
  simp [ML.LIM, ML.content, ML.contents, ML.clean, ML.avSl, ML.datas, ML.obD, ML.slL, ML.seqOf, ML.dB, ML.dI, ML.dItems, ML.dTup, ML.dLst, ML.dStr, ML.isNone, ML.gIsN, ML.gNeg, ML.gAdd, ML.bInt, ML.tyName, ML.isTy, ML.ioOk, ML.gT, ML.gCons, ML.gNil, ML.fApp, ML.fExt, ML.fPop]
end K62
end

section
set_option Elab.async false
set_option linter.all false
set_option maxRecDepth 100000
set_option maxHeartbeats 2000000
namespace K62
open PySem (Str)
open L2 (atI ixN)
open ML
/-! # Reading -/
def rdr (ns : List Nat) (k : Nat) : Sl := .o false (.ins "OctetReader" [("octets_told", .tuple (ns.map nI)), ("octet_at", nI k)])
theorem meth0 {F : List Sl → CR} {ns : List Nat} {k k' : Nat} {m : Str} {v : D} {r : RV} {rest : List Sl} (hm : ∀ a b : D, ([("octets_told", a), ("octet_at", b)] : List (Str × D)).lookup m = none) (hF : F [rdr ns k] = .ok r [rdr ns k']) (hv : rvD r = some v) :
    eRv (callMt 0 "OctetReader" m F aNil) (rdr ns k :: rest) = .ok v (rdr ns k' :: rest) := by
  have ok : okI 0 "OctetReader" m (rdr ns k :: rest) = .ok () (rdr ns k :: rest) := by
    show (if ("OctetReader" : Str) = "OctetReader" ∧ _ = none then R.ok () (rdr ns k :: rest) else R.bad) = _
    rw [if_pos ⟨rfl, hm _ _⟩]
  simp only [eRv, callMt, bind_e, ok, callM, aNil_e, ret_e]
  rw [show ios (rdr ns k :: rest) [.ref 0] 0 = some (some (0, 0)) from rfl]
  dsimp only
  rw [show (contents (rdr ns k :: rest) [.ref 0]).map argOf = [rdr ns k] from rfl, hF]
  show lift (rvD r) (rdr ns k' :: rest) = _
  rw [hv]; rfl
/-- the place as it is told, the octets' row -/
theorem told_ok (ns : List Nat) (k : Nat) (rest : List Sl) : eFld 0 "OctetReader" "octets_told" (rdr ns k :: rest) = .ok (.tuple (ns.map nI)) (rdr ns k :: rest) := rfl
theorem at_ok (ns : List Nat) (k : Nat) (rest : List Sl) : eFld 0 "OctetReader" "octet_at" (rdr ns k :: rest) = .ok (nI k) (rdr ns k :: rest) := rfl
theorem ixnat (ns : List Nat) (k : Nat) (h : k < ns.length) : gIx (.d (.tuple (ns.map nI))) (.d (.int (k : Int))) = some (nI (ns[k]'h)) := by
    show (atI (ns.map nI) (k : Int)) = _
    unfold L2.atI L2.ixN
    rw [if_pos (by omega), if_pos (by rw [List.length_map]; omega)]
    simp [ML.LIM, ML.content, ML.contents, ML.clean, ML.avSl, ML.datas, ML.obD, ML.slL, ML.seqOf, ML.dB, ML.dI, ML.dItems, ML.dTup, ML.dLst, ML.dStr, ML.isNone, ML.gIsN, ML.gNeg, ML.gAdd, ML.bInt, ML.tyName, ML.isTy, ML.ioOk, ML.gT, ML.gCons, ML.gNil, ML.fApp, ML.fExt, ML.fPop, h]
theorem len_told (ns : List Nat) (k : Nat) (rest : List Sl) : eBlt bLen (aD (eFld 0 "OctetReader" "octets_told") aNil) (rdr ns k :: rest) = .ok (nI ns.length) (rdr ns k :: rest) := by
  rw [eBlt_e, bind_e, aD_e, bind_e, told_ok]
  simp [ML.LIM, ML.content, ML.contents, ML.clean, ML.avSl, ML.datas, ML.obD, ML.slL, ML.seqOf, ML.dB, ML.dI, ML.dItems, ML.dTup, ML.dLst, ML.dStr, ML.isNone, ML.gIsN, ML.gNeg, ML.gAdd, ML.bInt, ML.tyName, ML.isTy, ML.ioOk, ML.gT, ML.gCons, ML.gNil, ML.fApp, ML.fExt, ML.fPop, bLen, seqOf, nI]
theorem octet_ok (ns : List Nat) (k : Nat) (h : k + 1 < ns.length) : F_OctetReader_take_octet [rdr ns k] = .ok (.d (nI (ns[k]'(by omega)))) [rdr ns (k + 1)] := by
  have ix := ixnat ns k (by omega)
  have t : (b2 gGe (qD (eFld 0 "OctetReader" "octet_at")) (qD (e2 gSub (qD (eBlt bLen (aD (eFld 0 "OctetReader" "octets_told") (aNil)))) (qD (eC (.int 1)))))) [rdr ns k] = .ok false [rdr ns k] := by
    have hn : ¬ ((ns.length : Int) - 1 ≤ (k : Int)) := by omega
    simp [ML.LIM, ML.content, ML.contents, ML.clean, ML.avSl, ML.datas, ML.obD, ML.slL, ML.seqOf, ML.dB, ML.dI, ML.dItems, ML.dTup, ML.dLst, ML.dStr, ML.isNone, ML.gIsN, ML.gNeg, ML.gAdd, ML.bInt, ML.tyName, ML.isTy, ML.ioOk, ML.gT, ML.gCons, ML.gNil, ML.fApp, ML.fExt, ML.fPop, at_ok, len_told, nI, hn, -eFld_e, -eBlt_e]
  have a : sAugF 0 "OctetReader" "octet_at" gIAdd (eC (.int 1)) [rdr ns k] = .nx [rdr ns (k + 1)] := by
    rw [sAugF_e, xS_e, at_ok]
    show SR.nx [Sl.o false (.ins "OctetReader" [("octets_told", .tuple (ns.map nI)), ("octet_at", .int ((k : Int) + 1))])] = _
    rfl
  have b : (sRet (e2 gIx (qD (eFld 0 "OctetReader" "octets_told")) (qD (e2 gSub (qD (eFld 0 "OctetReader" "octet_at")) (qD (eC (.int 1))))))) [rdr ns (k + 1)] = .rt (.d (nI (ns[k]'(by omega)))) [rdr ns (k + 1)] := by
    have e1 : gSub (.d (nI (k + 1))) (.d (.int 1)) = some (.int (k : Int)) := by
      show some (PySem.PyData.int (((k + 1 : Nat) : Int) - 1)) = _
      rw [show (((k + 1 : Nat) : Int) - 1) = (k : Int) from by omega]
    simp [ML.LIM, ML.content, ML.contents, ML.clean, ML.avSl, ML.datas, ML.obD, ML.slL, ML.seqOf, ML.dB, ML.dI, ML.dItems, ML.dTup, ML.dLst, ML.dStr, ML.isNone, ML.gIsN, ML.gNeg, ML.gAdd, ML.bInt, ML.tyName, ML.isTy, ML.ioOk, ML.gT, ML.gCons, ML.gNil, ML.fApp, ML.fExt, ML.fPop, at_ok, told_ok, e1, ix, -eFld_e]
  simp only [F_OctetReader_take_octet, runBody, m_OctetReader_take_octet]
  simp [ML.LIM, ML.content, ML.contents, ML.clean, ML.avSl, ML.datas, ML.obD, ML.slL, ML.seqOf, ML.dB, ML.dI, ML.dItems, ML.dTup, ML.dLst, ML.dStr, ML.isNone, ML.gIsN, ML.gNeg, ML.gAdd, ML.bInt, ML.tyName, ML.isTy, ML.ioOk, ML.gT, ML.gCons, ML.gNil, ML.fApp, ML.fExt, ML.fPop, t, a, b, -b2_e, -sAugF_e, -sRet_e]
  simp [ML.LIM, ML.content, ML.contents, ML.clean, ML.avSl, ML.datas, ML.obD, ML.slL, ML.seqOf, ML.dB, ML.dI, ML.dItems, ML.dTup, ML.dLst, ML.dStr, ML.isNone, ML.gIsN, ML.gNeg, ML.gAdd, ML.bInt, ML.tyName, ML.isTy, ML.ioOk, ML.gT, ML.gCons, ML.gNil, ML.fApp, ML.fExt, ML.fPop, rdr]
theorem num_loop (ns : List Nat) : ∀ (ds : List D) (n k f t : Nat) (rest : List Nat) (s3 s4 : Sl), ns.drop k = sev n ++ rest → rest ≠ [] → (sevI n).length < ds.length →
    ∃ s2' s3' s4', forL (gN 3) m_OctetReader_take_number_b1 ds [rdr ns k, .d (nI f), .d (nI t), s3, s4] = .rt (.d (nI (f + t * n))) [rdr ns (k + (sev n).length), .d (nI (f + t * n)), s2', s3', s4'] := by
  intro ds
  induction ds with
  | nil => intro n k f t rest s3 s4 _ _ h; simp [ML.LIM, ML.content, ML.contents, ML.clean, ML.avSl, ML.datas, ML.obD, ML.slL, ML.seqOf, ML.dB, ML.dI, ML.dItems, ML.dTup, ML.dLst, ML.dStr, ML.isNone, ML.gIsN, ML.gNeg, ML.gAdd, ML.bInt, ML.tyName, ML.isTy, ML.ioOk, ML.gT, ML.gCons, ML.gNil, ML.fApp, ML.fExt, ML.fPop] at h
  | cons d ds ih =>
    intro n k f t rest s3 s4 hd hr hl
    rw [List.length_cons] at hl
    rw [forL, gN_e]
    simp only [List.set]
    have hlen : k + ((sev n).length + rest.length) = ns.length ∨ ns.length < k := by
      have := congrArg List.length hd
      rw [List.length_drop, List.length_append] at this
      omega
    have rp : 1 ≤ rest.length := by
      cases rest with
      | nil => exact absurd rfl hr
      | cons _ _ => simp [ML.LIM, ML.content, ML.contents, ML.clean, ML.avSl, ML.datas, ML.obD, ML.slL, ML.seqOf, ML.dB, ML.dI, ML.dItems, ML.dTup, ML.dLst, ML.dStr, ML.isNone, ML.gIsN, ML.gNeg, ML.gAdd, ML.bInt, ML.tyName, ML.isTy, ML.ioOk, ML.gT, ML.gCons, ML.gNil, ML.fApp, ML.fExt, ML.fPop]
    have hs1 : 1 ≤ (sev n).length := by unfold sev; simp [ML.LIM, ML.content, ML.contents, ML.clean, ML.avSl, ML.datas, ML.obD, ML.slL, ML.seqOf, ML.dB, ML.dI, ML.dItems, ML.dTup, ML.dLst, ML.dStr, ML.isNone, ML.gIsN, ML.gNeg, ML.gAdd, ML.bInt, ML.tyName, ML.isTy, ML.ioOk, ML.gT, ML.gCons, ML.gNil, ML.fApp, ML.fExt, ML.fPop]
    have hk : k + 1 < ns.length := by
      have := congrArg List.length hd
      rw [List.length_drop, List.length_append] at this
      omega
    -- the octet read
    have key : ∀ o : Nat, ns.drop k = o :: (ns.drop (k + 1)) → o = ns[k]'(by omega) := fun o ho => by
      have := List.drop_eq_getElem_cons (l := ns) (i := k) (by omega)
      rw [this] at ho
      exact (List.cons.inj ho).1.symm
    have oc := meth0 (rest := [.d (nI f), .d (nI t), .d d, s4]) (m := "take_octet") (by intro a b; rfl) (octet_ok ns k hk) rfl
    have step : ∀ o : Nat, o = ns[k]'(by omega) → o < 256 → m_OctetReader_take_number_b1 [rdr ns k, .d (nI f), .d (nI t), .d d, s4] = if o < 128 then .rt (.d (nI (f + t * (o % 128)))) [rdr ns (k + 1), .d (nI (f + t * (o % 128))), .d (nI (t * 128)), .d d, .d (nI o)] else .nx [rdr ns (k + 1), .d (nI (f + t * (o % 128))), .d (nI (t * 128)), .d d, .d (nI o)] := by
      intro o ho hb
      rw [← ho] at oc
      have g1 : gMul (.d (.int (t : Int))) (.d (.int ((o : Int) % 128))) = some (.int ((t : Int) * ((o : Int) % 128))) := gm _ _ (by
        have := sm_ok (o % 128) (by omega)
        simpa [ML.LIM, ML.content, ML.contents, ML.clean, ML.avSl, ML.datas, ML.obD, ML.slL, ML.seqOf, ML.dB, ML.dI, ML.dItems, ML.dTup, ML.dLst, ML.dStr, ML.isNone, ML.gIsN, ML.gNeg, ML.gAdd, ML.bInt, ML.tyName, ML.isTy, ML.ioOk, ML.gT, ML.gCons, ML.gNil, ML.fApp, ML.fExt, ML.fPop] using this)
      have g2 : gMul (.d (.int (t : Int))) (.d (.int 128)) = some (.int ((t : Int) * 128)) := gm _ _ (by decide +kernel)
      have e1 : nI t = .int (t : Int) := rfl
      have e2 : nI o = .int (o : Int) := rfl
      have e3 : nI f = .int (f : Int) := rfl
      have e4 : nI (f + t * (o % 128)) = .int ((f : Int) + (t : Int) * ((o : Int) % 128)) := by unfold nI; push_cast; rfl
      have e5 : nI (t * 128) = .int ((t : Int) * 128) := by unfold nI; push_cast; rfl
      rw [e1, e2, e3] at oc
      rw [e1, e2, e3, e4, e5]
      by_cases h : o < 128
      · have h' : (o : Int) < 128 := by omega
        rw [if_pos h]
        simp [ML.LIM, ML.content, ML.contents, ML.clean, ML.avSl, ML.datas, ML.obD, ML.slL, ML.seqOf, ML.dB, ML.dI, ML.dItems, ML.dTup, ML.dLst, ML.dStr, ML.isNone, ML.gIsN, ML.gNeg, ML.gAdd, ML.bInt, ML.tyName, ML.isTy, ML.ioOk, ML.gT, ML.gCons, ML.gNil, ML.fApp, ML.fExt, ML.fPop, m_OctetReader_take_number_b1, oc, g1, g2, gIAdd, h']
      · have h' : ¬ (o : Int) < 128 := by omega
        rw [if_neg h]
        simp [ML.LIM, ML.content, ML.contents, ML.clean, ML.avSl, ML.datas, ML.obD, ML.slL, ML.seqOf, ML.dB, ML.dI, ML.dItems, ML.dTup, ML.dLst, ML.dStr, ML.isNone, ML.gIsN, ML.gNeg, ML.gAdd, ML.bInt, ML.tyName, ML.isTy, ML.ioOk, ML.gT, ML.gCons, ML.gNil, ML.fApp, ML.fExt, ML.fPop, m_OctetReader_take_number_b1, oc, g1, g2, gIAdd, h']
    by_cases hn : n < 128
    · have es : sev n = [n] := sev_small hn
      rw [es] at hd ⊢
      have hd2 : ns.drop k = n :: ns.drop (k + 1) := by
        rw [hd, ← List.drop_drop, hd]; rfl
      rw [step n (key n hd2) (by omega), if_pos hn]
      rw [Nat.mod_eq_of_lt hn]
      exact ⟨_, _, _, rfl⟩
    · have es : sev n = (n % 128 + 128) :: sev (n / 128) := by unfold sev; rw [sevI_ge hn, sevL_ge hn]; rfl
      rw [es] at hd
      have hd2 : ns.drop k = (n % 128 + 128) :: ns.drop (k + 1) := by
        rw [hd, ← List.drop_drop, hd]; rfl
      have hd3 : ns.drop (k + 1) = sev (n / 128) ++ rest := by
        rw [← List.drop_drop, hd]; rfl
      rw [step (n % 128 + 128) (key _ hd2) (by omega), if_neg (by omega)]
      dsimp only
      rw [sevI_ge hn, List.length_cons] at hl
      obtain ⟨s2', s3', s4', e⟩ := ih (n / 128) (k + 1) (f + t * ((n % 128 + 128) % 128)) (t * 128) rest (.d d) (.d (nI (n % 128 + 128))) hd3 hr (by omega)
      refine ⟨s2', s3', s4', ?_⟩
      rw [e]
      have a1 : f + t * ((n % 128 + 128) % 128) + t * 128 * (n / 128) = f + t * n := by
        have : (n % 128 + 128) % 128 = n % 128 := by omega
        rw [this, Nat.add_assoc, Nat.mul_assoc, ← Nat.mul_add]
        congr 2
        omega
      have a2 : k + 1 + (sev (n / 128)).length = k + (sev n).length := by rw [es, List.length_cons]; omega
      rw [a1, a2]
theorem number_ok (ns : List Nat) (k n : Nat) (rest : List Nat) (hd : ns.drop k = sev n ++ rest) (hr : rest ≠ []) (hn : n < BIG) : F_OctetReader_take_number [rdr ns k] = .ok (.d (nI n)) [rdr ns (k + (sev n).length)] := by
  have l := sevI_len 59 n hn
  obtain ⟨s2', s3', s4', e⟩ := num_loop ns ((List.range 64).map nI) n k 0 1 rest .un .un hd hr (by simp [ML.LIM, ML.content, ML.contents, ML.clean, ML.avSl, ML.datas, ML.obD, ML.slL, ML.seqOf, ML.dB, ML.dI, ML.dItems, ML.dTup, ML.dLst, ML.dStr, ML.isNone, ML.gIsN, ML.gNeg, ML.gAdd, ML.bInt, ML.tyName, ML.isTy, ML.ioOk, ML.gT, ML.gCons, ML.gNil, ML.fApp, ML.fExt, ML.fPop]; omega)
  have w : m_OctetReader_take_number_w2 [rdr ns k, .d (nI 0), .d (nI 1), .un, .un] = .rt (.d (nI n)) [rdr ns (k + (sev n).length), .d (nI n), s2', s3', s4'] := by
    rw [m_OctetReader_take_number_w2, sFor_e, xS_e, iRg_e, bind_e, aD_e, bind_e, eC_e]
    simp only [bind_e, aNil_e, ret_e, rng1]
    rw [if_pos (by decide)]
    simp only [lift_some]
    rw [show ((64 : Int).toNat) = 64 from rfl, rng_map, e]
    simp [ML.LIM, ML.content, ML.contents, ML.clean, ML.avSl, ML.datas, ML.obD, ML.slL, ML.seqOf, ML.dB, ML.dI, ML.dItems, ML.dTup, ML.dLst, ML.dStr, ML.isNone, ML.gIsN, ML.gNeg, ML.gAdd, ML.bInt, ML.tyName, ML.isTy, ML.ioOk, ML.gT, ML.gCons, ML.gNil, ML.fApp, ML.fExt, ML.fPop]
  have p : (sAsg (gT (gCons (gN 1) (gCons (gN 2) (gNil)))) (eTup (aD (eC (.int 0)) (aD (eC (.int 1)) (aNil))))) [rdr ns k, .un, .un, .un, .un] = .nx [rdr ns k, .d (nI 0), .d (nI 1), .un, .un] := by
    simp [ML.LIM, ML.content, ML.contents, ML.clean, ML.avSl, ML.datas, ML.obD, ML.slL, ML.seqOf, ML.dB, ML.dI, ML.dItems, ML.dTup, ML.dLst, ML.dStr, ML.isNone, ML.gIsN, ML.gNeg, ML.gAdd, ML.bInt, ML.tyName, ML.isTy, ML.ioOk, ML.gT, ML.gCons, ML.gNil, ML.fApp, ML.fExt, ML.fPop, nI]
  simp only [F_OctetReader_take_number, runBody, m_OctetReader_take_number]
  simp [ML.LIM, ML.content, ML.contents, ML.clean, ML.avSl, ML.datas, ML.obD, ML.slL, ML.seqOf, ML.dB, ML.dI, ML.dItems, ML.dTup, ML.dLst, ML.dStr, ML.isNone, ML.gIsN, ML.gNeg, ML.gAdd, ML.bInt, ML.tyName, ML.isTy, ML.ioOk, ML.gT, ML.gCons, ML.gNil, ML.fApp, ML.fExt, ML.fPop, p, w, -sAsg_e]
  simp [ML.LIM, ML.content, ML.contents, ML.clean, ML.avSl, ML.datas, ML.obD, ML.slL, ML.seqOf, ML.dB, ML.dI, ML.dItems, ML.dTup, ML.dLst, ML.dStr, ML.isNone, ML.gIsN, ML.gNeg, ML.gAdd, ML.bInt, ML.tyName, ML.isTy, ML.ioOk, ML.gT, ML.gCons, ML.gNil, ML.fApp, ML.fExt, ML.fPop, rdr]
/-! ## integers, strings -/
def unzig (n : Nat) : Int := if n % 2 = 0 then ((n / 2 : Nat) : Int) else -(((n + 1) / 2 : Nat) : Int)
theorem unzig_zig (i : Int) : unzig (zig i) = i := by
  have h := zig_cast i
  unfold unzig
  by_cases hp : i ≥ 0
  · rw [if_pos hp] at h
    rw [if_pos (by omega)]; omega
  · rw [if_neg hp] at h
    rw [if_neg (by omega)]; omega
theorem eqi (a b : Int) : gEq false (.d (.int a)) (.d (.int b)) = some (.bool (a == b)) := by
  show some (PySem.PyData.bool (false ^^ (a == b))) = _
  rw [Bool.false_xor]
theorem integer_ok (ns : List Nat) (k n : Nat) (rest : List Nat) (hd : ns.drop k = sev n ++ rest) (hr : rest ≠ []) (hn : n < BIG) : F_OctetReader_take_integer [rdr ns k] = .ok (.d (.int (unzig n))) [rdr ns (k + (sev n).length)] := by
  have c := meth0 (rest := [.un]) (m := "take_number") (by intro a b; rfl) (number_ok ns k n rest hd hr hn) rfl
  have en : nI n = .int (n : Int) := rfl
  rw [en] at c
  simp only [F_OctetReader_take_integer, runBody, m_OctetReader_take_integer]
  by_cases h : n % 2 = 0
  · have h' : (n : Int) % 2 = 0 := by omega
    have e : unzig n = (n : Int) / 2 := by unfold unzig; rw [if_pos h]; omega
    simp [ML.LIM, ML.content, ML.contents, ML.clean, ML.avSl, ML.datas, ML.obD, ML.slL, ML.seqOf, ML.dB, ML.dI, ML.dItems, ML.dTup, ML.dLst, ML.dStr, ML.isNone, ML.gIsN, ML.gNeg, ML.gAdd, ML.bInt, ML.tyName, ML.isTy, ML.ioOk, ML.gT, ML.gCons, ML.gNil, ML.fApp, ML.fExt, ML.fPop, c, eqi, h', e]
    simp [ML.LIM, ML.content, ML.contents, ML.clean, ML.avSl, ML.datas, ML.obD, ML.slL, ML.seqOf, ML.dB, ML.dI, ML.dItems, ML.dTup, ML.dLst, ML.dStr, ML.isNone, ML.gIsN, ML.gNeg, ML.gAdd, ML.bInt, ML.tyName, ML.isTy, ML.ioOk, ML.gT, ML.gCons, ML.gNil, ML.fApp, ML.fExt, ML.fPop, rdr]
  · have h' : ¬ (n : Int) % 2 = 0 := by omega
    have e : unzig n = 0 - ((n : Int) + 1) / 2 := by unfold unzig; rw [if_neg h]; omega
    simp [ML.LIM, ML.content, ML.contents, ML.clean, ML.avSl, ML.datas, ML.obD, ML.slL, ML.seqOf, ML.dB, ML.dI, ML.dItems, ML.dTup, ML.dLst, ML.dStr, ML.isNone, ML.gIsN, ML.gNeg, ML.gAdd, ML.bInt, ML.tyName, ML.isTy, ML.ioOk, ML.gT, ML.gCons, ML.gNil, ML.fApp, ML.fExt, ML.fPop, c, eqi, h', e]
    simp [ML.LIM, ML.content, ML.contents, ML.clean, ML.avSl, ML.datas, ML.obD, ML.slL, ML.seqOf, ML.dB, ML.dI, ML.dItems, ML.dTup, ML.dLst, ML.dStr, ML.isNone, ML.gIsN, ML.gNeg, ML.gAdd, ML.bInt, ML.tyName, ML.isTy, ML.ioOk, ML.gT, ML.gCons, ML.gNil, ML.fApp, ML.fExt, ML.fPop, rdr]
def chB (c : Nat) : Bool := (SG.filter fun x => x == c) == [c]
theorem ch_all : SG.all chB = true := by decide +kernel
theorem ch_ok (c : Nat) (h : c ∈ SG) : SG.filter (fun x => x == c) = [c] := by
  have q := List.all_eq_true.mp ch_all c h
  simpa [ML.LIM, ML.content, ML.contents, ML.clean, ML.avSl, ML.datas, ML.obD, ML.slL, ML.seqOf, ML.dB, ML.dI, ML.dItems, ML.dTup, ML.dLst, ML.dStr, ML.isNone, ML.gIsN, ML.gNeg, ML.gAdd, ML.bInt, ML.tyName, ML.isTy, ML.ioOk, ML.gT, ML.gCons, ML.gNil, ML.fApp, ML.fExt, ML.fPop, chB] using q
theorem comp_ch (a b cc d : Sl) (n : Nat) (f : Sl) (h : n ∈ SG) : o_OctetReader_take_string_1 [a, b, cc, d, .d (nI n), f, .un] = .ok (.lst [sg n]) [a, b, cc, d, .d (nI n), f, .un] := by
  have e := compL_map (g := gN 6) (tt := b2 (gEq false) (qD (eBlt bOrd (aR 6 (aNil)))) (qR 4)) (te := m_OctetReader_take_string_c1) (vs := [6]) (e0 := [a, b, cc, d, .d (nI n), f, .un]) (p := fun x => match x with | .str z => decide (z.cps.getD 0 0 = n) | _ => false) (f := fun x => x) (SG.map sg) [] (by
    intro x hx
    obtain ⟨c, hc, rfl⟩ := List.mem_map.mp hx
    refine ⟨[a, b, cc, d, .d (nI n), f, .d (sg c)], by simp [ML.LIM, ML.content, ML.contents, ML.clean, ML.avSl, ML.datas, ML.obD, ML.slL, ML.seqOf, ML.dB, ML.dI, ML.dItems, ML.dTup, ML.dLst, ML.dStr, ML.isNone, ML.gIsN, ML.gNeg, ML.gAdd, ML.bInt, ML.tyName, ML.isTy, ML.ioOk, ML.gT, ML.gCons, ML.gNil, ML.fApp, ML.fExt, ML.fPop], ?_, fun _ => ?_, by simp [ML.LIM, ML.content, ML.contents, ML.clean, ML.avSl, ML.datas, ML.obD, ML.slL, ML.seqOf, ML.dB, ML.dI, ML.dItems, ML.dTup, ML.dLst, ML.dStr, ML.isNone, ML.gIsN, ML.gNeg, ML.gAdd, ML.bInt, ML.tyName, ML.isTy, ML.ioOk, ML.gT, ML.gCons, ML.gNil, ML.fApp, ML.fExt, ML.fPop, wipeE]⟩
    · have l1 : (sign c).length = 1 := rfl
      have g0 : (sign c).cps[0]?.getD 0 = c := rfl
      have q : gEq false (.d (.int (c : Int))) (.d (nI n)) = some (.bool (decide (c = n))) := by
        rw [nI, eqi]
        have : ((c : Int) == (n : Int)) = decide (c = n) := by
          by_cases z : c = n
          · subst z; simp [ML.LIM, ML.content, ML.contents, ML.clean, ML.avSl, ML.datas, ML.obD, ML.slL, ML.seqOf, ML.dB, ML.dI, ML.dItems, ML.dTup, ML.dLst, ML.dStr, ML.isNone, ML.gIsN, ML.gNeg, ML.gAdd, ML.bInt, ML.tyName, ML.isTy, ML.ioOk, ML.gT, ML.gCons, ML.gNil, ML.fApp, ML.fExt, ML.fPop]
          · have z' : ¬ (c : Int) = (n : Int) := by omega
            simp [ML.LIM, ML.content, ML.contents, ML.clean, ML.avSl, ML.datas, ML.obD, ML.slL, ML.seqOf, ML.dB, ML.dI, ML.dItems, ML.dTup, ML.dLst, ML.dStr, ML.isNone, ML.gIsN, ML.gNeg, ML.gAdd, ML.bInt, ML.tyName, ML.isTy, ML.ioOk, ML.gT, ML.gCons, ML.gNil, ML.fApp, ML.fExt, ML.fPop, z, z']
        rw [this]
      simp [ML.LIM, ML.content, ML.contents, ML.clean, ML.avSl, ML.datas, ML.obD, ML.slL, ML.seqOf, ML.dB, ML.dI, ML.dItems, ML.dTup, ML.dLst, ML.dStr, ML.isNone, ML.gIsN, ML.gNeg, ML.gAdd, ML.bInt, ML.tyName, ML.isTy, ML.ioOk, ML.gT, ML.gCons, ML.gNil, ML.fApp, ML.fExt, ML.fPop, sg, bOrd, l1, g0, q]
    · simp [ML.LIM, ML.content, ML.contents, ML.clean, ML.avSl, ML.datas, ML.obD, ML.slL, ML.seqOf, ML.dB, ML.dI, ML.dItems, ML.dTup, ML.dLst, ML.dStr, ML.isNone, ML.gIsN, ML.gNeg, ML.gAdd, ML.bInt, ML.tyName, ML.isTy, ML.ioOk, ML.gT, ML.gCons, ML.gNil, ML.fApp, ML.fExt, ML.fPop, m_OctetReader_take_string_c1]) (by decide +kernel)
  have ef : ((SG.map sg).filter (fun x => match x with | PySem.PyData.str z => decide (z.cps.getD 0 0 = n) | _ => false)).map (fun x => x) = [sg n] := by
    rw [List.map_id', List.filter_map]
    have : (fun x => x == n) = ((fun x => match x with | PySem.PyData.str z => decide (z.cps.getD 0 0 = n) | _ => false) ∘ sg) := by
      funext x
      show (x == n) = decide ((sign x).cps.getD 0 0 = n)
      have g0 : (sign x).cps.getD 0 0 = x := rfl
      rw [g0]; rfl
    rw [← this, ch_ok n h]; rfl
  rw [ef, List.nil_append] at e
  have it : iD (eC c_SIGNS) [a, b, cc, d, .d (nI n), f, .un] = .ok (SG.map sg) [a, b, cc, d, .d (nI n), f, .un] := by
    rw [c_SIGNS_eq]
    simp [ML.LIM, ML.content, ML.contents, ML.clean, ML.avSl, ML.datas, ML.obD, ML.slL, ML.seqOf, ML.dB, ML.dI, ML.dItems, ML.dTup, ML.dLst, ML.dStr, ML.isNone, ML.gIsN, ML.gNeg, ML.gAdd, ML.bInt, ML.tyName, ML.isTy, ML.ioOk, ML.gT, ML.gCons, ML.gNil, ML.fApp, ML.fExt, ML.fPop, sg]
  simp only [o_OctetReader_take_string_1, oComp, bind_e, it]
  rw [show wipeE [a, b, cc, d, .d (nI n), f, .un] [6] = [a, b, cc, d, .d (nI n), f, .un] from rfl, e]
  rfl
theorem str_step (ns : List Nat) (k c : Nat) (b d : Sl) (xs : List D) (s4 s5 : Sl) (rest : List Nat) (hd : ns.drop k = c :: rest) (hr : rest ≠ []) (hc : c ∈ SG) (hl : xs.length < 10000000) :
    m_OctetReader_take_string_b2 [rdr ns k, b, .o true (.lst xs), d, s4, s5, .un] = .nx [rdr ns (k + 1), b, .o true (.lst (xs ++ [sg c])), d, .d (nI c), .o true (.lst [sg c]), .un] := by
  have h128 := SG_lt c hc
  have es : sev c = [c] := sev_small h128
  have no := number_ok ns k c rest (by rw [es]; exact hd) hr (Nat.lt_trans h128 (by decide))
  rw [es] at no
  have m := meth0 (rest := [b, .o true (.lst xs), d, s4, s5, .un]) (m := "take_number") (by intro a b; rfl) no rfl
  have cm := comp_ch (rdr ns (k + 1)) b (.o true (.lst xs)) d c s5 hc
  have ix : gIx (.o true (.lst [sg c])) (.d (.int 0)) = some (sg c) := rfl
  have q : gEq false (.d (.int 1)) (.d (.int 0)) = some (.bool false) := rfl
  simp [ML.LIM, ML.content, ML.contents, ML.clean, ML.avSl, ML.datas, ML.obD, ML.slL, ML.seqOf, ML.dB, ML.dI, ML.dItems, ML.dTup, ML.dLst, ML.dStr, ML.isNone, ML.gIsN, ML.gNeg, ML.gAdd, ML.bInt, ML.tyName, ML.isTy, ML.ioOk, ML.gT, ML.gCons, ML.gNil, ML.fApp, ML.fExt, ML.fPop, m_OctetReader_take_string_b2, m, cm, bLen, seqOf, q, ix, hl]
theorem str_rd (ns : List Nat) (b : Sl) : ∀ (cs : List Nat) (ds : List D) (k : Nat) (xs : List D) (s3 s4 s5 : Sl) (rest : List Nat), cs.length = ds.length → ns.drop k = cs ++ rest → rest ≠ [] → (∀ c ∈ cs, c ∈ SG) → xs.length + cs.length ≤ 10000000 →
    ∃ s3' s4' s5', forL (gN 3) m_OctetReader_take_string_b2 ds [rdr ns k, b, .o true (.lst xs), s3, s4, s5, .un] = .nx [rdr ns (k + cs.length), b, .o true (.lst (xs ++ cs.map sg)), s3', s4', s5', .un] := by
  intro cs
  induction cs with
  | nil =>
    intro ds k xs s3 s4 s5 rest hl _ _ _ _
    cases ds with
    | nil => exact ⟨s3, s4, s5, by simp [ML.LIM, ML.content, ML.contents, ML.clean, ML.avSl, ML.datas, ML.obD, ML.slL, ML.seqOf, ML.dB, ML.dI, ML.dItems, ML.dTup, ML.dLst, ML.dStr, ML.isNone, ML.gIsN, ML.gNeg, ML.gAdd, ML.bInt, ML.tyName, ML.isTy, ML.ioOk, ML.gT, ML.gCons, ML.gNil, ML.fApp, ML.fExt, ML.fPop, forL]⟩
    | cons _ _ => simp [ML.LIM, ML.content, ML.contents, ML.clean, ML.avSl, ML.datas, ML.obD, ML.slL, ML.seqOf, ML.dB, ML.dI, ML.dItems, ML.dTup, ML.dLst, ML.dStr, ML.isNone, ML.gIsN, ML.gNeg, ML.gAdd, ML.bInt, ML.tyName, ML.isTy, ML.ioOk, ML.gT, ML.gCons, ML.gNil, ML.fApp, ML.fExt, ML.fPop] at hl
  | cons c cs ih =>
    intro ds k xs s3 s4 s5 rest hl hd hr hc hx
    cases ds with
    | nil => simp [ML.LIM, ML.content, ML.contents, ML.clean, ML.avSl, ML.datas, ML.obD, ML.slL, ML.seqOf, ML.dB, ML.dI, ML.dItems, ML.dTup, ML.dLst, ML.dStr, ML.isNone, ML.gIsN, ML.gNeg, ML.gAdd, ML.bInt, ML.tyName, ML.isTy, ML.ioOk, ML.gT, ML.gCons, ML.gNil, ML.fApp, ML.fExt, ML.fPop] at hl
    | cons d ds =>
      rw [List.length_cons] at hx
      rw [forL, gN_e]
      simp only [List.set]
      rw [str_step ns k c b (.d d) xs s4 s5 (cs ++ rest) hd (by simp [ML.LIM, ML.content, ML.contents, ML.clean, ML.avSl, ML.datas, ML.obD, ML.slL, ML.seqOf, ML.dB, ML.dI, ML.dItems, ML.dTup, ML.dLst, ML.dStr, ML.isNone, ML.gIsN, ML.gNeg, ML.gAdd, ML.bInt, ML.tyName, ML.isTy, ML.ioOk, ML.gT, ML.gCons, ML.gNil, ML.fApp, ML.fExt, ML.fPop, hr]) (hc c List.mem_cons_self) (by omega)]
      dsimp only
      have hd2 : ns.drop (k + 1) = cs ++ rest := by rw [← List.drop_drop, hd]; rfl
      obtain ⟨s3', s4', s5', e⟩ := ih ds (k + 1) (xs ++ [sg c]) (.d d) (.d (nI c)) (.o true (.lst [sg c])) rest (by simpa [ML.LIM, ML.content, ML.contents, ML.clean, ML.avSl, ML.datas, ML.obD, ML.slL, ML.seqOf, ML.dB, ML.dI, ML.dItems, ML.dTup, ML.dLst, ML.dStr, ML.isNone, ML.gIsN, ML.gNeg, ML.gAdd, ML.bInt, ML.tyName, ML.isTy, ML.ioOk, ML.gT, ML.gCons, ML.gNil, ML.fApp, ML.fExt, ML.fPop] using hl) hd2 hr (fun x hx => hc x (List.mem_cons_of_mem _ hx)) (by rw [List.length_append, List.length_singleton]; omega)
      refine ⟨s3', s4', s5', ?_⟩
      rw [e]
      have : k + 1 + cs.length = k + (c :: cs).length := by rw [List.length_cons]; omega
      rw [this]
      simp [ML.LIM, ML.content, ML.contents, ML.clean, ML.avSl, ML.datas, ML.obD, ML.slL, ML.seqOf, ML.dB, ML.dI, ML.dItems, ML.dTup, ML.dLst, ML.dStr, ML.isNone, ML.gIsN, ML.gNeg, ML.gAdd, ML.bInt, ML.tyName, ML.isTy, ML.ioOk, ML.gT, ML.gCons, ML.gNil, ML.fApp, ML.fExt, ML.fPop]
theorem joinL_nil : ∀ cs : List Nat, TL.joinL [] (cs.map fun c => [c]) = cs
  | [] => rfl
  | [c] => rfl
  | c :: d :: r => by
    show [c] ++ ([] ++ TL.joinL [] ((d :: r).map fun c => [c])) = _
    rw [joinL_nil (d :: r)]; rfl
theorem join_sg (z : Str) : PySem.Txt.join (Str.ofString "") (z.cps.toList.map sign) = z := by
  rw [TL.join_eq]
  have h := TL.tl_join (Str.ofString "") (z.cps.toList.map sign)
  rw [List.map_map] at h
  have e1 : (TL.tl ∘ sign) = fun c => [c] := rfl
  rw [e1, show TL.tl (Str.ofString "") = [] from rfl, joinL_nil] at h
  have h2 : (PySem.Str.join (Str.ofString "") (z.cps.toList.map sign)).cps.toList = z.cps.toList := h
  generalize PySem.Str.join (Str.ofString "") (z.cps.toList.map sign) = y at h2
  obtain ⟨y⟩ := y
  obtain ⟨z⟩ := z
  congr 1
  exact Array.toList_inj.mp h2
theorem dStrs_sg : ∀ cs : List Nat, dStrs (cs.map sg) = some (cs.map sign)
  | [] => rfl
  | c :: r => by
    show (dStrs (r.map sg)).map _ = _
    rw [dStrs_sg r]; rfl
theorem sum_len : ∀ cs : List Nat, ((cs.map sign).map (·.length)).sum = cs.length
  | [] => rfl
  | c :: r => by
    rw [List.map_cons, List.map_cons, List.sum_cons, sum_len r, List.length_cons]
    show 1 + r.length = _
    omega
theorem string_ok (ns : List Nat) (k : Nat) (z : Str) (rest : List Nat) (hd : ns.drop k = (sev z.length ++ z.cps.toList) ++ rest) (hr : rest ≠ []) (hk : okS z = true) (hz : z.length ≤ 1000) : F_OctetReader_take_string [rdr ns k] = .ok (.d (.str z)) [rdr ns (k + (sev z.length ++ z.cps.toList).length)] := by
  have hb : z.length < BIG := Nat.lt_of_le_of_lt hz (by decide)
  have hl : z.cps.toList.length = z.length := by simp [ML.LIM, ML.content, ML.contents, ML.clean, ML.avSl, ML.datas, ML.obD, ML.slL, ML.seqOf, ML.dB, ML.dI, ML.dItems, ML.dTup, ML.dLst, ML.dStr, ML.isNone, ML.gIsN, ML.gNeg, ML.gAdd, ML.bInt, ML.tyName, ML.isTy, ML.ioOk, ML.gT, ML.gCons, ML.gNil, ML.fApp, ML.fExt, ML.fPop, Str.length]
  have hcs : ∀ c ∈ z.cps.toList, c ∈ SG := fun c hc => of_decide_eq_true (List.all_eq_true.mp hk c hc)
  have no := number_ok ns k z.length (z.cps.toList ++ rest) (by rw [hd, List.append_assoc]) (by simp [ML.LIM, ML.content, ML.contents, ML.clean, ML.avSl, ML.datas, ML.obD, ML.slL, ML.seqOf, ML.dB, ML.dI, ML.dItems, ML.dTup, ML.dLst, ML.dStr, ML.isNone, ML.gIsN, ML.gNeg, ML.gAdd, ML.bInt, ML.tyName, ML.isTy, ML.ioOk, ML.gT, ML.gCons, ML.gNil, ML.fApp, ML.fExt, ML.fPop, hr]) hb
  have m := meth0 (rest := [.un, .un, .un, .un, .un, .un]) (m := "take_number") (by intro a b; rfl) no rfl
  have hd2 : ns.drop (k + (sev z.length).length) = z.cps.toList ++ rest := by
    rw [← List.drop_drop, hd, List.append_assoc, List.drop_left]
  have hlen := congrArg List.length hd2
  rw [List.length_drop, List.length_append, hl] at hlen
  obtain ⟨s3', s4', s5', e⟩ := str_rd ns (.d (nI z.length)) z.cps.toList ((List.range z.length).map nI) (k + (sev z.length).length) [] .un .un .un rest (by simp [ML.LIM, ML.content, ML.contents, ML.clean, ML.avSl, ML.datas, ML.obD, ML.slL, ML.seqOf, ML.dB, ML.dI, ML.dItems, ML.dTup, ML.dLst, ML.dStr, ML.isNone, ML.gIsN, ML.gNeg, ML.gAdd, ML.bInt, ML.tyName, ML.isTy, ML.ioOk, ML.gT, ML.gCons, ML.gNil, ML.fApp, ML.fExt, ML.fPop, hl]) hd2 hr hcs (by simp [ML.LIM, ML.content, ML.contents, ML.clean, ML.avSl, ML.datas, ML.obD, ML.slL, ML.seqOf, ML.dB, ML.dI, ML.dItems, ML.dTup, ML.dLst, ML.dStr, ML.isNone, ML.gIsN, ML.gNeg, ML.gAdd, ML.bInt, ML.tyName, ML.isTy, ML.ioOk, ML.gT, ML.gCons, ML.gNil, ML.fApp, ML.fExt, ML.fPop, hl]; omega)
  rw [List.nil_append] at e
  have p : sPar 1 2 (aD (eRv (callMt 0 "OctetReader" "take_number" F_OctetReader_take_number aNil)) (aF (oLst (aNil)) (aNil))) [rdr ns k, .un, .un, .un, .un, .un, .un] = .nx [rdr ns (k + (sev z.length).length), .d (nI z.length), .o true (.lst []), .un, .un, .un, .un] := by
    simp [ML.LIM, ML.content, ML.contents, ML.clean, ML.avSl, ML.datas, ML.obD, ML.slL, ML.seqOf, ML.dB, ML.dI, ML.dItems, ML.dTup, ML.dLst, ML.dStr, ML.isNone, ML.gIsN, ML.gNeg, ML.gAdd, ML.bInt, ML.tyName, ML.isTy, ML.ioOk, ML.gT, ML.gCons, ML.gNil, ML.fApp, ML.fExt, ML.fPop, m]
  have t : (b2 gGt (qR 1) (qD (eBlt bLen (aD (eFld 0 "OctetReader" "octets_told") (aNil))))) [rdr ns (k + (sev z.length).length), .d (nI z.length), .o true (.lst []), .un, .un, .un, .un] = .ok false [rdr ns (k + (sev z.length).length), .d (nI z.length), .o true (.lst []), .un, .un, .un, .un] := by
    have h : ¬ ((ns.length : Int) < (z.length : Int)) := by omega
    have gg : gGt (.d (nI z.length)) (.d (nI ns.length)) = some (.bool (decide ((ns.length : Int) < (z.length : Int)))) := rfl
    simp [ML.LIM, ML.content, ML.contents, ML.clean, ML.avSl, ML.datas, ML.obD, ML.slL, ML.seqOf, ML.dB, ML.dI, ML.dItems, ML.dTup, ML.dLst, ML.dStr, ML.isNone, ML.gIsN, ML.gNeg, ML.gAdd, ML.bInt, ML.tyName, ML.isTy, ML.ioOk, ML.gT, ML.gCons, ML.gNil, ML.fApp, ML.fExt, ML.fPop, len_told, gg, h, -eFld_e, -eBlt_e]
  have w : m_OctetReader_take_string_w3 [rdr ns (k + (sev z.length).length), .d (nI z.length), .o true (.lst []), .un, .un, .un, .un] = .nx [rdr ns (k + (sev z.length).length + z.cps.toList.length), .d (nI z.length), .o true (.lst (z.cps.toList.map sg)), s3', s4', s5', .un] := by
    rw [m_OctetReader_take_string_w3, sFor_e, xS_e, iRg_e, bind_e, aD_e, bind_e]
    have ev : eV 1 [rdr ns (k + (sev z.length).length), .d (nI z.length), .o true (.lst []), .un, .un, .un, .un] = .ok (nI z.length) [rdr ns (k + (sev z.length).length), .d (nI z.length), .o true (.lst []), .un, .un, .un, .un] := rfl
    rw [ev]
    simp only [bind_e, aNil_e, ret_e, rng1, nI]
    rw [if_pos (by omega)]
    simp only [lift_some, Int.toNat_natCast]
    rw [rng_map]
    exact e
  have jk : joinOk (Str.ofString "") (z.cps.toList.map sign) = true := by
    unfold joinOk
    have e1 : ((z.cps.toList.map sign).map (·.length)).sum = z.cps.toList.length := sum_len _
    rw [e1, hl]
    exact decide_eq_true (by
      have : (Str.ofString "").length = 0 := rfl
      rw [this]; omega)
  have f : (sRet (eJoin (eC (.str "")) (qR 2))) [rdr ns (k + (sev z.length).length + z.cps.toList.length), .d (nI z.length), .o true (.lst (z.cps.toList.map sg)), s3', s4', s5', .un] = .rt (.d (.str z)) [rdr ns (k + (sev z.length).length + z.cps.toList.length), .d (nI z.length), .o true (.lst (z.cps.toList.map sg)), s3', s4', s5', .un] := by
    simp [ML.LIM, ML.content, ML.contents, ML.clean, ML.avSl, ML.datas, ML.obD, ML.slL, ML.seqOf, ML.dB, ML.dI, ML.dItems, ML.dTup, ML.dLst, ML.dStr, ML.isNone, ML.gIsN, ML.gNeg, ML.gAdd, ML.bInt, ML.tyName, ML.isTy, ML.ioOk, ML.gT, ML.gCons, ML.gNil, ML.fApp, ML.fExt, ML.fPop, dStrs_sg, jk, join_sg]
  simp only [F_OctetReader_take_string, runBody, m_OctetReader_take_string]
  have l3 : k + (sev z.length).length + z.cps.toList.length = k + (sev z.length ++ z.cps.toList).length := by rw [List.length_append]; omega
  rw [l3] at w f
  generalize k + (sev z.length ++ z.cps.toList).length = k2 at w f ⊢
  simp [ML.LIM, ML.content, ML.contents, ML.clean, ML.avSl, ML.datas, ML.obD, ML.slL, ML.seqOf, ML.dB, ML.dI, ML.dItems, ML.dTup, ML.dLst, ML.dStr, ML.isNone, ML.gIsN, ML.gNeg, ML.gAdd, ML.bInt, ML.tyName, ML.isTy, ML.ioOk, ML.gT, ML.gCons, ML.gNil, ML.fApp, ML.fExt, ML.fPop, p, t, w, f, -sPar_e, -b2_e, -sRet_e]
  simp [ML.LIM, ML.content, ML.contents, ML.clean, ML.avSl, ML.datas, ML.obD, ML.slL, ML.seqOf, ML.dB, ML.dI, ML.dItems, ML.dTup, ML.dLst, ML.dStr, ML.isNone, ML.gIsN, ML.gNeg, ML.gAdd, ML.bInt, ML.tyName, ML.isTy, ML.ioOk, ML.gT, ML.gCons, ML.gNil, ML.fApp, ML.fExt, ML.fPop, rdr]
end K62
end

section
set_option Elab.async false
set_option linter.all false
set_option maxRecDepth 100000
set_option maxHeartbeats 2000000
namespace K62
open PySem (Str)
open L2 (atI ixN)
open ML
theorem meth1 {F : List Sl → CR} {ns : List Nat} {k k' : Nat} {m : Str} {v x : D} {r : RV} {s : Sl} {rest rest' : List Sl} {ma : M D} (hm : ∀ a b : D, ([("octets_told", a), ("octet_at", b)] : List (Str × D)).lookup m = none) (ha : ma (rdr ns k :: rest) = .ok x (rdr ns k :: rest')) (hF : F [rdr ns k, .d x] = .ok r [rdr ns k', s]) (hv : rvD r = some v) :
    eRv (callMt 0 "OctetReader" m F (aD ma aNil)) (rdr ns k :: rest) = .ok v (rdr ns k' :: rest') := by
  have ok : okI 0 "OctetReader" m (rdr ns k :: rest) = .ok () (rdr ns k :: rest) := by
    show (if ("OctetReader" : Str) = "OctetReader" ∧ _ = none then R.ok () (rdr ns k :: rest) else R.bad) = _
    rw [if_pos ⟨rfl, hm _ _⟩]
  simp only [eRv, callMt, bind_e, ok, callM, aD_e, ha, aNil_e, ret_e]
  rw [show ios (rdr ns k :: rest') [.ref 0, .d x] 0 = some (some (0, 0)) from rfl]
  dsimp only
  rw [show (contents (rdr ns k :: rest') [.ref 0, .d x]).map argOf = [rdr ns k, .d x] from rfl, hF]
  show lift (rvD r) (rdr ns k' :: rest') = _
  rw [hv]; rfl
theorem eqn (a b : Nat) : gEq false (.d (nI a)) (.d (.int (b : Int))) = some (.bool (decide (a = b))) := by
  rw [nI, eqi]
  have : ((a : Int) == (b : Int)) = decide (a = b) := by
    by_cases z : a = b
    · subst z; simp [ML.LIM, ML.content, ML.contents, ML.clean, ML.avSl, ML.datas, ML.obD, ML.slL, ML.seqOf, ML.dB, ML.dI, ML.dItems, ML.dTup, ML.dLst, ML.dStr, ML.isNone, ML.gIsN, ML.gNeg, ML.gAdd, ML.bInt, ML.tyName, ML.isTy, ML.ioOk, ML.gT, ML.gCons, ML.gNil, ML.fApp, ML.fExt, ML.fPop]
    · have z' : ¬ (a : Int) = (b : Int) := by omega
      simp [ML.LIM, ML.content, ML.contents, ML.clean, ML.avSl, ML.datas, ML.obD, ML.slL, ML.seqOf, ML.dB, ML.dI, ML.dItems, ML.dTup, ML.dLst, ML.dStr, ML.isNone, ML.gIsN, ML.gNeg, ML.gAdd, ML.bInt, ML.tyName, ML.isTy, ML.ioOk, ML.gT, ML.gCons, ML.gNil, ML.fApp, ML.fExt, ML.fPop, z, z']
  rw [this]
theorem plain_int (ns : List Nat) (k n : Nat) (rest : List Nat) (hd : ns.drop k = sev n ++ rest) (hr : rest ≠ []) (hn : n < BIG) : F_OctetReader_take_plain [rdr ns k, .d (nI 0)] = .ok (.d (.int (unzig n))) [rdr ns (k + (sev n).length), .d (nI 0)] := by
  have m := meth0 (rest := [.d (nI 0)]) (m := "take_integer") (by intro a b; rfl) (integer_ok ns k n rest hd hr hn) rfl
  have q : gEq false (.d (nI 0)) (.d (.int 0)) = some (.bool true) := eqn 0 0
  simp only [F_OctetReader_take_plain, runBody, m_OctetReader_take_plain]
  generalize k + (sev n).length = k2 at m ⊢
  have io : ioOk [rdr ns k, .d (nI 0)] [rdr ns k2, .d (nI 0)] = true := rfl
  simp [ML.LIM, ML.content, ML.contents, ML.clean, ML.avSl, ML.datas, ML.obD, ML.slL, ML.seqOf, ML.dB, ML.dI, ML.dItems, ML.dTup, ML.dLst, ML.dStr, ML.isNone, ML.gIsN, ML.gNeg, ML.gAdd, ML.bInt, ML.tyName, ML.isTy, ML.gT, ML.gCons, ML.gNil, ML.fApp, ML.fExt, ML.fPop, q, m, io, -ioOk]
theorem plain_str (ns : List Nat) (k : Nat) (z : Str) (rest : List Nat) (hd : ns.drop k = (sev z.length ++ z.cps.toList) ++ rest) (hr : rest ≠ []) (hk : okS z = true) (hz : z.length ≤ 1000) : F_OctetReader_take_plain [rdr ns k, .d (nI 3)] = .ok (.d (.str z)) [rdr ns (k + (sev z.length ++ z.cps.toList).length), .d (nI 3)] := by
  have m := meth0 (rest := [.d (nI 3)]) (m := "take_string") (by intro a b; rfl) (string_ok ns k z rest hd hr hk hz) rfl
  have q : gEq false (.d (nI 3)) (.d (.int 0)) = some (.bool false) := eqn 3 0
  have q2 : gEq false (.d (nI 3)) (.d (.int 3)) = some (.bool true) := eqn 3 3
  simp only [F_OctetReader_take_plain, runBody, m_OctetReader_take_plain]
  generalize k + (sev z.length ++ z.cps.toList).length = k2 at m ⊢
  have io : ioOk [rdr ns k, .d (nI 3)] [rdr ns k2, .d (nI 3)] = true := rfl
  simp [ML.LIM, ML.content, ML.contents, ML.clean, ML.avSl, ML.datas, ML.obD, ML.slL, ML.seqOf, ML.dB, ML.dI, ML.dItems, ML.dTup, ML.dLst, ML.dStr, ML.isNone, ML.gIsN, ML.gNeg, ML.gAdd, ML.bInt, ML.tyName, ML.isTy, ML.gT, ML.gCons, ML.gNil, ML.fApp, ML.fExt, ML.fPop, q, q2, m, io, -ioOk]
theorem plain_const (ns : List Nat) (k w : Nat) (v : D) (h : (w = 1 ∧ v = .bool false) ∨ (w = 2 ∧ v = .bool true) ∨ (w = 5 ∧ v = .none)) : F_OctetReader_take_plain [rdr ns k, .d (nI w)] = .ok (.d v) [rdr ns k, .d (nI w)] := by
  rcases h with ⟨rfl, rfl⟩ | ⟨rfl, rfl⟩ | ⟨rfl, rfl⟩ <;> rfl
/-! ## take_thing: stack and made -/
abbrev RD (n : Nat) : D := .tuple [.str "read", nI n]
abbrev MK (n : Nat) : D := .tuple [.str "make", nI n]
abbrev ttC : M Bool := b2 gGt (qD (eBlt bLen (aR 1 (aNil)))) (qD (eC (.int 0)))
abbrev TT (ns : List Nat) (k : Nat) (W M : List D) (s3 s4 s5 s6 s7 : Sl) : List Sl := [rdr ns k, .o true (.lst W), .o true (.lst M), s3, s4, s5, s6, s7]
theorem ttC_ok (ns : List Nat) (k : Nat) (W M : List D) (d : D) (s3 s4 s5 s6 s7 : Sl) : ttC (TT ns k (W ++ [d]) M s3 s4 s5 s6 s7) = .ok true (TT ns k (W ++ [d]) M s3 s4 s5 s6 s7) := by
  simp [ML.LIM, ML.content, ML.contents, ML.clean, ML.avSl, ML.datas, ML.obD, ML.slL, ML.seqOf, ML.dB, ML.dI, ML.dItems, ML.dTup, ML.dLst, ML.dStr, ML.isNone, ML.gIsN, ML.gNeg, ML.gAdd, ML.bInt, ML.tyName, ML.isTy, ML.ioOk, ML.gT, ML.gCons, ML.gNil, ML.fApp, ML.fExt, ML.fPop, ttC, bLen, seqOf]
theorem ttC_nil (ns : List Nat) (k : Nat) (M : List D) (s3 s4 s5 s6 s7 : Sl) : ttC (TT ns k [] M s3 s4 s5 s6 s7) = .ok false (TT ns k [] M s3 s4 s5 s6 s7) := by
  simp [ML.LIM, ML.content, ML.contents, ML.clean, ML.avSl, ML.datas, ML.obD, ML.slL, ML.seqOf, ML.dB, ML.dI, ML.dItems, ML.dTup, ML.dLst, ML.dStr, ML.isNone, ML.gIsN, ML.gNeg, ML.gAdd, ML.bInt, ML.tyName, ML.isTy, ML.ioOk, ML.gT, ML.gCons, ML.gNil, ML.fApp, ML.fExt, ML.fPop, ttC, bLen, seqOf]
theorem gEq_of {x y : D} {b : Bool} (h1 : eqOk x = true) (h2 : eqOk y = true) (h : PySem.PyData.eqv x y = b) : gEq false (.d x) (.d y) = some (.bool b) := by
  show (if eqOk x = true ∧ eqOk y = true then some (PySem.PyData.bool (false ^^ PySem.PyData.eqv x y)) else none) = _
  rw [if_pos ⟨h1, h2⟩, h, Bool.false_xor]
theorem gNe_of {x y : D} {b : Bool} (h1 : eqOk x = true) (h2 : eqOk y = true) (h : PySem.PyData.eqv x y = b) : gEq true (.d x) (.d y) = some (.bool (!b)) := by
  show (if eqOk x = true ∧ eqOk y = true then some (PySem.PyData.bool (true ^^ PySem.PyData.eqv x y)) else none) = _
  rw [if_pos ⟨h1, h2⟩, h, Bool.true_xor]
theorem eqs_mk : gEq false (.d (.str "make")) (.d (.str "make")) = some (.bool true) := gEq_of (by decide +kernel) (by decide +kernel) (by decide +kernel)
theorem eqs_rd : gEq false (.d (.str "read")) (.d (.str "make")) = some (.bool false) := gEq_of (by decide +kernel) (by decide +kernel) (by decide +kernel)
theorem cut_take (xs : List D) (n : Nat) (h : n ≤ xs.length) : cut xs none (some (n : Int)) = xs.take n := by
  unfold cut
  rw [HT.sIx_none, HT.sIx_nat, List.drop_zero, Nat.sub_zero, Nat.min_eq_left h]
theorem cut_drop (xs : List D) (n : Nat) (h : n ≤ xs.length) : cut xs (some (n : Int)) none = xs.drop n := by
  unfold cut
  rw [HT.sIx_none, HT.sIx_nat, Nat.min_eq_left h]
  exact List.take_of_length_le (by rw [List.length_drop]; exact Nat.le_refl _)
theorem tt_make (ns : List Nat) (k : Nat) (W M xs : List D) (s3 s4 s5 s6 s7 : Sl) (hM : M.length + xs.length ≤ 1000000) :
    ∃ s3' s4' s5', m_OctetReader_take_thing_b1 (TT ns k (W ++ [MK xs.length]) (M ++ xs) s3 s4 s5 s6 s7) = .ct (TT ns k W (M ++ [.tuple xs]) s3' s4' s5' s6 s7) := by
  refine ⟨.d (.str "make"), .d (nI xs.length), .d (nI M.length), ?_⟩
  have g : gSub (.d (.int ((M ++ xs).length : Int))) (.d (nI xs.length)) = some (nI M.length) := by
    show some (PySem.PyData.int (((M ++ xs).length : Int) - (xs.length : Int))) = some (.int (M.length : Int))
    rw [List.length_append]
    congr 2
    omega
  have c1 : cut (M ++ xs) none (some (M.length : Int)) = M := by
    rw [cut_take _ _ (by rw [List.length_append]; omega)]; simp [ML.LIM, ML.content, ML.contents, ML.clean, ML.avSl, ML.datas, ML.obD, ML.slL, ML.seqOf, ML.dB, ML.dI, ML.dItems, ML.dTup, ML.dLst, ML.dStr, ML.isNone, ML.gIsN, ML.gNeg, ML.gAdd, ML.bInt, ML.tyName, ML.isTy, ML.ioOk, ML.gT, ML.gCons, ML.gNil, ML.fApp, ML.fExt, ML.fPop]
  have c2 : cut (M ++ xs) (some (M.length : Int)) none = xs := by
    rw [cut_drop _ _ (by rw [List.length_append]; omega)]; simp [ML.LIM, ML.content, ML.contents, ML.clean, ML.avSl, ML.datas, ML.obD, ML.slL, ML.seqOf, ML.dB, ML.dI, ML.dItems, ML.dTup, ML.dLst, ML.dStr, ML.isNone, ML.gIsN, ML.gNeg, ML.gAdd, ML.bInt, ML.tyName, ML.isTy, ML.ioOk, ML.gT, ML.gCons, ML.gNil, ML.fApp, ML.fExt, ML.fPop]
  have e0 : dI (nI M.length) = some (M.length : Int) := rfl
  have l1 : M.length ≤ 9999999 := by omega
  rw [List.length_append] at g
  simp only [Int.natCast_add] at g
  simp [ML.LIM, ML.content, ML.contents, ML.clean, ML.avSl, ML.datas, ML.obD, ML.slL, ML.seqOf, ML.dB, ML.dItems, ML.dTup, ML.dLst, ML.dStr, ML.isNone, ML.gIsN, ML.gNeg, ML.gAdd, ML.bInt, ML.tyName, ML.isTy, ML.ioOk, ML.gT, ML.gCons, ML.gNil, ML.fApp, ML.fExt, ML.fPop, m_OctetReader_take_thing_b1, TT, eqs_mk, bLen, seqOf, g, gSlL, c1, c2, e0, bTupOf, gCat, l1, -dI]
def rdS : Nat → List D
  | 0 => []
  | n + 1 => [RD (n + 1)]
/-- one more thing is read: what waits, the octet -/
theorem tt_read (ns : List Nat) (k r o : Nat) (W M : List D) (s3 s4 s5 s6 s7 : Sl) (hk : k + 1 < ns.length) (ho : ns[k]'(by omega) = o) (hW : W.length + 3 ≤ 1000000) (hr : r < 100000) :
    m_OctetReader_take_thing_b1 (TT ns k (W ++ [RD (r + 1)]) M s3 s4 s5 s6 s7) =
      (sIf (b2 (gEq false) (qR 6) (qD (eC c_OF_TUPLE))) (sSeq (sSet 7 (eRv (callMt 0 "OctetReader" "take_number" F_OctetReader_take_number aNil))) (sSeq (sIf (b2 gGt (qR 7) (qD (eBlt bLen (aD (eFld 0 "OctetReader" "octets_told") (aNil))))) (sRaise "BadOctets") (sNil)) (sSeq (sDrop (eMt 1 fApp (aD (eTup (aD (eC c_MAKE_TUPLE) (aD (eV 7) (aNil)))) (aNil)))) (sIf (b2 gGt (qR 7) (qD (eC (.int 0)))) (sDrop (eMt 1 fApp (aD (eTup (aD (eC c_READ_THING) (aD (eV 7) (aNil)))) (aNil)))) (sNil))))) (sDrop (eMt 2 fApp (aD (eRv (callMt 0 "OctetReader" "take_plain" F_OctetReader_take_plain (aD (eV 6) (aNil)))) (aNil)))))
        (TT ns (k + 1) (W ++ rdS r) M (.d (.str "read")) (.d (nI (r + 1))) s5 (.d (nI o)) s7) := by
  have m := fun W' => meth0 (rest := [.o true (.lst W'), .o true (.lst M), .d (.str "read"), .d (nI (r + 1)), s5, s6, s7]) (m := "take_octet") (by intro a b; rfl) (octet_ok ns k hk) rfl
  rw [ho] at m
  rw [m_OctetReader_take_thing_b1, sSeq_e]
  have p : sAsg (gT (gCons (gN 3) (gCons (gN 4) (gNil)))) (eMt 1 fPop aNil) (TT ns k (W ++ [RD (r + 1)]) M s3 s4 s5 s6 s7) = .nx (TT ns k W M (.d (.str "read")) (.d (nI (r + 1))) s5 s6 s7) := by
    simp [ML.LIM, ML.content, ML.contents, ML.clean, ML.avSl, ML.datas, ML.obD, ML.slL, ML.seqOf, ML.dB, ML.dI, ML.dItems, ML.dTup, ML.dLst, ML.dStr, ML.isNone, ML.gIsN, ML.gNeg, ML.gAdd, ML.bInt, ML.tyName, ML.isTy, ML.ioOk, ML.gT, ML.gCons, ML.gNil, ML.fApp, ML.fExt, ML.fPop, TT]
  rw [p]
  dsimp only
  rw [sSeq_e]
  have q : ∀ (y z : MStm), sIf (b2 (gEq false) (qR 3) (qD (eC c_MAKE_TUPLE))) y sNil (TT ns k W M (.d (.str "read")) (.d (nI (r + 1))) s5 s6 s7) = .nx (TT ns k W M (.d (.str "read")) (.d (nI (r + 1))) s5 s6 s7) := by
    intro y z
    simp [ML.LIM, ML.content, ML.contents, ML.clean, ML.avSl, ML.datas, ML.obD, ML.slL, ML.seqOf, ML.dB, ML.dI, ML.dItems, ML.dTup, ML.dLst, ML.dStr, ML.isNone, ML.gIsN, ML.gNeg, ML.gAdd, ML.bInt, ML.tyName, ML.isTy, ML.ioOk, ML.gT, ML.gCons, ML.gNil, ML.fApp, ML.fExt, ML.fPop, TT, eqs_rd]
  rw [q _ sNil]
  dsimp only
  rw [sSeq_e]
  have w : sIf (b2 gGt (qR 4) (qD (eC (.int 1)))) (sDrop (eMt 1 fApp (aD (eTup (aD (eC c_READ_THING) (aD (e2 gSub (qR 4) (qD (eC (.int 1)))) (aNil)))) (aNil)))) (sNil) (TT ns k W M (.d (.str "read")) (.d (nI (r + 1))) s5 s6 s7) = .nx (TT ns k (W ++ rdS r) M (.d (.str "read")) (.d (nI (r + 1))) s5 s6 s7) := by
    have gt : gGt (.d (nI (r + 1))) (.d (.int 1)) = some (.bool (decide ((1 : Int) < ((r + 1 : Nat) : Int)))) := rfl
    cases r with
    | zero =>
      simp [ML.LIM, ML.content, ML.contents, ML.clean, ML.avSl, ML.datas, ML.obD, ML.slL, ML.seqOf, ML.dB, ML.dI, ML.dItems, ML.dTup, ML.dLst, ML.dStr, ML.isNone, ML.gIsN, ML.gNeg, ML.gAdd, ML.bInt, ML.tyName, ML.isTy, ML.ioOk, ML.gT, ML.gCons, ML.gNil, ML.fApp, ML.fExt, ML.fPop, TT, gt, rdS]
    | succ r =>
      have h1 : (1 : Int) < ((r + 1 + 1 : Nat) : Int) := by omega
      have gs : gSub (.d (nI (r + 1 + 1))) (.d (.int 1)) = some (nI (r + 1)) := by
        show some (PySem.PyData.int (((r + 1 + 1 : Nat) : Int) - 1)) = some (.int ((r + 1 : Nat) : Int))
        congr 2
        omega
      have l1 : W.length < 10000000 := by omega
      rw [decide_eq_true h1] at gt
      simp [ML.LIM, ML.content, ML.contents, ML.clean, ML.avSl, ML.datas, ML.obD, ML.slL, ML.seqOf, ML.dB, ML.dI, ML.dItems, ML.dTup, ML.dLst, ML.dStr, ML.isNone, ML.gIsN, ML.gNeg, ML.gAdd, ML.bInt, ML.tyName, ML.isTy, ML.ioOk, ML.gT, ML.gCons, ML.gNil, ML.fApp, ML.fExt, ML.fPop, TT, gt, gs, rdS, l1]
  rw [w]
  dsimp only
  rw [sSeq_e, sSet_e, xS_e]
  rw [show TT ns k (W ++ rdS r) M (.d (.str "read")) (.d (nI (r + 1))) s5 s6 s7 = rdr ns k :: [.o true (.lst (W ++ rdS r)), .o true (.lst M), .d (.str "read"), .d (nI (r + 1)), s5, s6, s7] from rfl, m]
  rfl
theorem enc_pos {d : D} {a : List Nat} (h : encO d = some a) : 1 ≤ a.length := by
  cases d with
  | none => cases h; simp [ML.LIM, ML.content, ML.contents, ML.clean, ML.avSl, ML.datas, ML.obD, ML.slL, ML.seqOf, ML.dB, ML.dI, ML.dItems, ML.dTup, ML.dLst, ML.dStr, ML.isNone, ML.gIsN, ML.gNeg, ML.gAdd, ML.bInt, ML.tyName, ML.isTy, ML.ioOk, ML.gT, ML.gCons, ML.gNil, ML.fApp, ML.fExt, ML.fPop]
  | bool b => cases h; simp [ML.LIM, ML.content, ML.contents, ML.clean, ML.avSl, ML.datas, ML.obD, ML.slL, ML.seqOf, ML.dB, ML.dI, ML.dItems, ML.dTup, ML.dLst, ML.dStr, ML.isNone, ML.gIsN, ML.gNeg, ML.gAdd, ML.bInt, ML.tyName, ML.isTy, ML.ioOk, ML.gT, ML.gCons, ML.gNil, ML.fApp, ML.fExt, ML.fPop]
  | int i => cases h; simp [ML.LIM, ML.content, ML.contents, ML.clean, ML.avSl, ML.datas, ML.obD, ML.slL, ML.seqOf, ML.dB, ML.dI, ML.dItems, ML.dTup, ML.dLst, ML.dStr, ML.isNone, ML.gIsN, ML.gNeg, ML.gAdd, ML.bInt, ML.tyName, ML.isTy, ML.ioOk, ML.gT, ML.gCons, ML.gNil, ML.fApp, ML.fExt, ML.fPop]
  | str z =>
    have h' : (if okS z = true then some (3 :: (sev z.length ++ z.cps.toList)) else none) = some a := h
    obtain ⟨_, rfl⟩ := ite_some h'
    simp [ML.LIM, ML.content, ML.contents, ML.clean, ML.avSl, ML.datas, ML.obD, ML.slL, ML.seqOf, ML.dB, ML.dI, ML.dItems, ML.dTup, ML.dLst, ML.dStr, ML.isNone, ML.gIsN, ML.gNeg, ML.gAdd, ML.bInt, ML.tyName, ML.isTy, ML.ioOk, ML.gT, ML.gCons, ML.gNil, ML.fApp, ML.fExt, ML.fPop]
  | tuple xs =>
    rw [encO] at h
    obtain ⟨r, _, rfl⟩ := Option.map_eq_some_iff.mp h
    simp [ML.LIM, ML.content, ML.contents, ML.clean, ML.avSl, ML.datas, ML.obD, ML.slL, ML.seqOf, ML.dB, ML.dI, ML.dItems, ML.dTup, ML.dLst, ML.dStr, ML.isNone, ML.gIsN, ML.gNeg, ML.gAdd, ML.bInt, ML.tyName, ML.isTy, ML.ioOk, ML.gT, ML.gCons, ML.gNil, ML.fApp, ML.fExt, ML.fPop]
  | list xs => cases h
  | dict xs => cases h
theorem encs_len : ∀ {ds : List D} {a : List Nat}, encOs ds = some a → ds.length ≤ a.length
  | [], _, _ => Nat.zero_le _
  | d :: r, a, h => by
    rw [encOs] at h
    obtain ⟨x, hx, h⟩ := Option.bind_eq_some_iff.mp h
    obtain ⟨y, hy, rfl⟩ := Option.map_eq_some_iff.mp h
    have := enc_pos hx
    have := encs_len hy
    rw [List.length_cons, List.length_append]; omega
theorem drop_get {ns : List Nat} {k o : Nat} {t : List Nat} (h : ns.drop k = o :: t) (ht : t ≠ []) : ∃ hk : k + 1 < ns.length, ns[k]'(by omega) = o ∧ ns.drop (k + 1) = t := by
  have l := congrArg List.length h
  rw [List.length_drop, List.length_cons] at l
  have tp : 1 ≤ t.length := by
    cases t with
    | nil => exact absurd rfl ht
    | cons _ _ => simp [ML.LIM, ML.content, ML.contents, ML.clean, ML.avSl, ML.datas, ML.obD, ML.slL, ML.seqOf, ML.dB, ML.dI, ML.dItems, ML.dTup, ML.dLst, ML.dStr, ML.isNone, ML.gIsN, ML.gNeg, ML.gAdd, ML.bInt, ML.tyName, ML.isTy, ML.ioOk, ML.gT, ML.gCons, ML.gNil, ML.fApp, ML.fExt, ML.fPop]
  refine ⟨by omega, ?_, by rw [← List.drop_drop, h]; rfl⟩
  have := List.drop_eq_getElem_cons (l := ns) (i := k) (by omega)
  rw [this] at h
  exact (List.cons.inj h).1
/-- a thing that is no tuple -/
theorem tt_plain (ns : List Nat) (k r : Nat) (W M : List D) (s3 s4 s5 s6 s7 : Sl) (d : D) (a rest : List Nat) (hd : allF d) (he : encO d = some a) (ht : ∀ xs, d ≠ .tuple xs) (hn : ns.drop k = a ++ rest) (hr : rest ≠ []) (hW : W.length + 3 ≤ 1000000) (hM : M.length < 1000000) (hrr : r < 100000) :
    ∃ s3' s4' s6', m_OctetReader_take_thing_b1 (TT ns k (W ++ [RD (r + 1)]) M s3 s4 s5 s6 s7) = .nx (TT ns (k + a.length) (W ++ rdS r) (M ++ [d]) s3' s4' s5 s6' s7) := by
  have go : ∀ (o : Nat) (t : List Nat), a = o :: t → o ≠ 4 → F_OctetReader_take_plain [rdr ns (k + 1), .d (nI o)] = .ok (.d d) [rdr ns (k + 1 + t.length), .d (nI o)] →
      ∃ s3' s4' s6', m_OctetReader_take_thing_b1 (TT ns k (W ++ [RD (r + 1)]) M s3 s4 s5 s6 s7) = .nx (TT ns (k + a.length) (W ++ rdS r) (M ++ [d]) s3' s4' s5 s6' s7) := by
    intro o t ea no hp
    subst ea
    obtain ⟨hk, ho, _⟩ := drop_get (t := t ++ rest) hn (by simp [ML.LIM, ML.content, ML.contents, ML.clean, ML.avSl, ML.datas, ML.obD, ML.slL, ML.seqOf, ML.dB, ML.dI, ML.dItems, ML.dTup, ML.dLst, ML.dStr, ML.isNone, ML.gIsN, ML.gNeg, ML.gAdd, ML.bInt, ML.tyName, ML.isTy, ML.ioOk, ML.gT, ML.gCons, ML.gNil, ML.fApp, ML.fExt, ML.fPop, hr])
    refine ⟨.d (.str "read"), .d (nI (r + 1)), .d (nI o), ?_⟩
    · rw [tt_read ns k r o W M s3 s4 s5 s6 s7 hk ho hW hrr]
      have q : gEq false (.d (nI o)) (.d (.int 4)) = some (.bool false) := by
        have := eqn o 4
        rw [decide_eq_false no] at this
        exact this
      have m := meth1 (m := "take_plain") (ma := eV 6) (rest := [.o true (.lst (W ++ rdS r)), .o true (.lst M), .d (.str "read"), .d (nI (r + 1)), s5, .d (nI o), s7]) (by intro a b; rfl) (show eV 6 _ = .ok (nI o) _ from rfl) hp rfl
      have lM : M.length < 10000000 := by omega
      have e : k + (o :: t).length = k + 1 + t.length := by rw [List.length_cons]; omega
      rw [e]
      generalize k + 1 + t.length = k2 at m ⊢
      simp [ML.LIM, ML.content, ML.contents, ML.clean, ML.avSl, ML.datas, ML.obD, ML.slL, ML.seqOf, ML.dB, ML.dI, ML.dItems, ML.dTup, ML.dLst, ML.dStr, ML.isNone, ML.gIsN, ML.gNeg, ML.gAdd, ML.bInt, ML.tyName, ML.isTy, ML.ioOk, ML.gT, ML.gCons, ML.gNil, ML.fApp, ML.fExt, ML.fPop, TT, q, m, lM]
  cases d with
  | none => cases he; exact go 5 [] rfl (by decide) (plain_const ns (k + 1) 5 .none (.inr (.inr ⟨rfl, rfl⟩)))
  | bool b =>
    cases he
    cases b with
    | true => exact go 2 [] rfl (by decide) (plain_const ns (k + 1) 2 _ (.inr (.inl ⟨rfl, rfl⟩)))
    | false => exact go 1 [] rfl (by decide) (plain_const ns (k + 1) 1 _ (.inl ⟨rfl, rfl⟩))
  | int i =>
    cases he
    obtain ⟨_, _, h2⟩ := drop_get (t := sev (zig i) ++ rest) hn (by simp [ML.LIM, ML.content, ML.contents, ML.clean, ML.avSl, ML.datas, ML.obD, ML.slL, ML.seqOf, ML.dB, ML.dI, ML.dItems, ML.dTup, ML.dLst, ML.dStr, ML.isNone, ML.gIsN, ML.gNeg, ML.gAdd, ML.bInt, ML.tyName, ML.isTy, ML.ioOk, ML.gT, ML.gCons, ML.gNil, ML.fApp, ML.fExt, ML.fPop, hr])
    have p := plain_int ns (k + 1) (zig i) rest h2 hr hd
    rw [unzig_zig] at p
    exact go 0 _ rfl (by decide) p
  | str z =>
    have he' : (if okS z = true then some (3 :: (sev z.length ++ z.cps.toList)) else none) = some a := he
    obtain ⟨hk, rfl⟩ := ite_some he'
    obtain ⟨_, _, h2⟩ := drop_get (t := (sev z.length ++ z.cps.toList) ++ rest) hn (by simp [ML.LIM, ML.content, ML.contents, ML.clean, ML.avSl, ML.datas, ML.obD, ML.slL, ML.seqOf, ML.dB, ML.dI, ML.dItems, ML.dTup, ML.dLst, ML.dStr, ML.isNone, ML.gIsN, ML.gNeg, ML.gAdd, ML.bInt, ML.tyName, ML.isTy, ML.ioOk, ML.gT, ML.gCons, ML.gNil, ML.fApp, ML.fExt, ML.fPop, hr])
    exact go 3 _ rfl (by decide) (plain_str ns (k + 1) z rest h2 hr hk hd)
  | tuple xs => exact absurd rfl (ht xs)
  | list xs => cases he
  | dict xs => cases he
theorem rdS_len (n : Nat) : (rdS n).length ≤ 1 := by cases n <;> simp [ML.LIM, ML.content, ML.contents, ML.clean, ML.avSl, ML.datas, ML.obD, ML.slL, ML.seqOf, ML.dB, ML.dI, ML.dItems, ML.dTup, ML.dLst, ML.dStr, ML.isNone, ML.gIsN, ML.gNeg, ML.gAdd, ML.bInt, ML.tyName, ML.isTy, ML.ioOk, ML.gT, ML.gCons, ML.gNil, ML.fApp, ML.fExt, ML.fPop, rdS]
/-- a tuple begins -/
theorem tt_tup (ns : List Nat) (k r : Nat) (W M : List D) (s3 s4 s5 s6 s7 : Sl) (xs : List D) (b rest : List Nat) (hx : xs.length ≤ 1000) (hb : encOs xs = some b) (hn : ns.drop k = (4 :: sev xs.length ++ b) ++ rest) (hr : rest ≠ []) (hW : W.length + 5 ≤ 1000000) (hrr : r < 100000) :
    ∃ s3' s4' s6' s7', m_OctetReader_take_thing_b1 (TT ns k (W ++ [RD (r + 1)]) M s3 s4 s5 s6 s7) = .nx (TT ns (k + (4 :: sev xs.length).length) ((W ++ rdS r ++ [MK xs.length]) ++ rdS xs.length) M s3' s4' s5 s6' s7') := by
  have hn' : ns.drop k = 4 :: (sev xs.length ++ (b ++ rest)) := by rw [hn]; simp [ML.LIM, ML.content, ML.contents, ML.clean, ML.avSl, ML.datas, ML.obD, ML.slL, ML.seqOf, ML.dB, ML.dI, ML.dItems, ML.dTup, ML.dLst, ML.dStr, ML.isNone, ML.gIsN, ML.gNeg, ML.gAdd, ML.bInt, ML.tyName, ML.isTy, ML.ioOk, ML.gT, ML.gCons, ML.gNil, ML.fApp, ML.fExt, ML.fPop]
  obtain ⟨hk, ho, h2⟩ := drop_get hn' (by simp [ML.LIM, ML.content, ML.contents, ML.clean, ML.avSl, ML.datas, ML.obD, ML.slL, ML.seqOf, ML.dB, ML.dI, ML.dItems, ML.dTup, ML.dLst, ML.dStr, ML.isNone, ML.gIsN, ML.gNeg, ML.gAdd, ML.bInt, ML.tyName, ML.isTy, ML.ioOk, ML.gT, ML.gCons, ML.gNil, ML.fApp, ML.fExt, ML.fPop, hr])
  have no := number_ok ns (k + 1) xs.length (b ++ rest) h2 (by simp [ML.LIM, ML.content, ML.contents, ML.clean, ML.avSl, ML.datas, ML.obD, ML.slL, ML.seqOf, ML.dB, ML.dI, ML.dItems, ML.dTup, ML.dLst, ML.dStr, ML.isNone, ML.gIsN, ML.gNeg, ML.gAdd, ML.bInt, ML.tyName, ML.isTy, ML.ioOk, ML.gT, ML.gCons, ML.gNil, ML.fApp, ML.fExt, ML.fPop, hr]) (Nat.lt_of_le_of_lt hx (by decide))
  have le := encs_len hb
  have l2 := congrArg List.length h2
  rw [List.length_drop, List.length_append, List.length_append] at l2
  refine ⟨.d (.str "read"), .d (nI (r + 1)), .d (nI 4), .d (nI xs.length), ?_⟩
  rw [tt_read ns k r 4 W M s3 s4 s5 s6 s7 hk ho (by omega) hrr]
  have q : gEq false (.d (nI 4)) (.d (.int 4)) = some (.bool true) := eqn 4 4
  have m := meth0 (m := "take_number") (rest := [.o true (.lst (W ++ rdS r)), .o true (.lst M), .d (.str "read"), .d (nI (r + 1)), s5, .d (nI 4), s7]) (by intro a b; rfl) no rfl
  have e : k + (4 :: sev xs.length).length = k + 1 + (sev xs.length).length := by rw [List.length_cons]; omega
  rw [e]
  have g1 : gGt (.d (nI xs.length)) (.d (nI ns.length)) = some (.bool false) := by
    show some (PySem.PyData.bool (decide ((ns.length : Int) < (xs.length : Int)))) = _
    rw [decide_eq_false (by omega)]
  have lr := rdS_len r
  have lw : (W ++ rdS r).length + 3 ≤ 1000000 := by rw [List.length_append]; omega
  generalize k + 1 + (sev xs.length).length = k2 at m ⊢
  generalize W ++ rdS r = W2 at m lw ⊢
  have t := len_told ns k2 [.o true (.lst W2), .o true (.lst M), .d (.str "read"), .d (nI (r + 1)), s5, .d (nI 4), .d (nI xs.length)]
  have lw1 : W2.length < 10000000 := by omega
  have lw2 : W2.length + 1 < 10000000 := by omega
  have lw3 : W2.length < 9999999 := by omega
  cases hx0 : xs.length with
  | zero =>
    rw [hx0] at m g1 t
    have g2 : gGt (.d (nI 0)) (.d (.int 0)) = some (.bool false) := rfl
    simp [ML.LIM, ML.content, ML.contents, ML.clean, ML.avSl, ML.datas, ML.obD, ML.slL, ML.seqOf, ML.dB, ML.dI, ML.dItems, ML.dTup, ML.dLst, ML.dStr, ML.isNone, ML.gIsN, ML.gNeg, ML.gAdd, ML.bInt, ML.tyName, ML.isTy, ML.ioOk, ML.gT, ML.gCons, ML.gNil, ML.fApp, ML.fExt, ML.fPop, TT, q, m, t, g1, g2, lw1, rdS, -eFld_e, -eBlt_e]
  | succ y =>
    rw [hx0] at m g1 t
    have g2 : gGt (.d (nI (y + 1))) (.d (.int 0)) = some (.bool true) := by
      show some (PySem.PyData.bool (decide ((0 : Int) < ((y + 1 : Nat) : Int)))) = _
      rw [decide_eq_true (by omega)]
    simp [ML.LIM, ML.content, ML.contents, ML.clean, ML.avSl, ML.datas, ML.obD, ML.slL, ML.seqOf, ML.dB, ML.dI, ML.dItems, ML.dTup, ML.dLst, ML.dStr, ML.isNone, ML.gIsN, ML.gNeg, ML.gAdd, ML.bInt, ML.tyName, ML.isTy, ML.ioOk, ML.gT, ML.gCons, ML.gNil, ML.fApp, ML.fExt, ML.fPop, TT, q, m, t, g1, g2, lw1, lw2, lw3, rdS, -eFld_e, -eBlt_e]
mutual
def stp : D → Nat
  | .tuple xs => 2 + stps xs
  | .none => 1
  | .bool _ => 1
  | .int _ => 1
  | .str _ => 1
  | .list _ => 1
  | .dict _ => 1
def stps : List D → Nat
  | [] => 0
  | x :: xs => stp x + stps xs
end
theorem stp_plain {d : D} (h : ∀ xs, d ≠ .tuple xs) : stp d = 1 := by
  cases d with
  | tuple xs => exact absurd rfl (h xs)
  | _ => rfl
theorem rd_all (ns : List Nat) : ∀ (N : Nat) (ds : List D), nods ds ≤ N → ∀ (f k : Nat) (W M : List D) (s3 s4 s5 s6 s7 : Sl) (a rest : List Nat), allFs ds → encOs ds = some a → ns.drop k = a ++ rest → rest ≠ [] → W.length + 5 * nods ds + 10 ≤ 1000000 → M.length + nods ds + 10 ≤ 1000000 → ds.length < 100000 →
    ∃ s3' s4' s5' s6' s7', whileL ttC m_OctetReader_take_thing_b1 (f + stps ds) (TT ns k (W ++ rdS ds.length) M s3 s4 s5 s6 s7) = whileL ttC m_OctetReader_take_thing_b1 f (TT ns (k + a.length) W (M ++ ds) s3' s4' s5' s6' s7') := by
  intro N
  induction N with
  | zero =>
    intro ds h f k W M s3 s4 s5 s6 s7 a rest _ he _ _ _ _ _
    cases ds with
    | cons d r => rw [nods] at h; have := nod_pos d; omega
    | nil => cases he; exact ⟨s3, s4, s5, s6, s7, by simp [ML.LIM, ML.content, ML.contents, ML.clean, ML.avSl, ML.datas, ML.obD, ML.slL, ML.seqOf, ML.dB, ML.dI, ML.dItems, ML.dTup, ML.dLst, ML.dStr, ML.isNone, ML.gIsN, ML.gNeg, ML.gAdd, ML.bInt, ML.tyName, ML.isTy, ML.ioOk, ML.gT, ML.gCons, ML.gNil, ML.fApp, ML.fExt, ML.fPop, rdS, stps]⟩
  | succ N ih =>
    intro ds h f k W M s3 s4 s5 s6 s7 a rest hf he hn hr hW hM hl
    cases ds with
    | nil => cases he; exact ⟨s3, s4, s5, s6, s7, by simp [ML.LIM, ML.content, ML.contents, ML.clean, ML.avSl, ML.datas, ML.obD, ML.slL, ML.seqOf, ML.dB, ML.dI, ML.dItems, ML.dTup, ML.dLst, ML.dStr, ML.isNone, ML.gIsN, ML.gNeg, ML.gAdd, ML.bInt, ML.tyName, ML.isTy, ML.ioOk, ML.gT, ML.gCons, ML.gNil, ML.fApp, ML.fExt, ML.fPop, rdS, stps]⟩
    | cons d r =>
      have np := nod_pos d
      rw [nods] at h hW hM
      rw [List.length_cons] at hl
      rw [encOs] at he
      obtain ⟨x, hx, he⟩ := Option.bind_eq_some_iff.mp he
      obtain ⟨y, hy, rfl⟩ := Option.map_eq_some_iff.mp he
      have lr := rdS_len r.length
      have hn1 : ns.drop k = x ++ (y ++ rest) := by rw [hn, List.append_assoc]
      have hn2 : ns.drop (k + x.length) = y ++ rest := by rw [← List.drop_drop, hn1, List.drop_left]
      by_cases ht : ∃ xs, d = .tuple xs
      · obtain ⟨xs, rfl⟩ := ht
        rw [nod] at h hW hM np
        rw [encO] at hx
        obtain ⟨b, hb, rfl⟩ := Option.map_eq_some_iff.mp hx
        have hxl : xs.length ≤ 1000 := hf.1.1
        obtain ⟨a3, a4, a6, a7, st⟩ := tt_tup ns k r.length W M s3 s4 s5 s6 s7 xs b (y ++ rest) hxl hb hn1 (by simp [ML.LIM, ML.content, ML.contents, ML.clean, ML.avSl, ML.datas, ML.obD, ML.slL, ML.seqOf, ML.dB, ML.dI, ML.dItems, ML.dTup, ML.dLst, ML.dStr, ML.isNone, ML.gIsN, ML.gNeg, ML.gAdd, ML.bInt, ML.tyName, ML.isTy, ML.ioOk, ML.gT, ML.gCons, ML.gNil, ML.fApp, ML.fExt, ML.fPop, hr]) (by omega) (by omega)
        have e1 : f + stps (.tuple xs :: r) = ((f + stps r) + 1 + stps xs) + 1 := by rw [stps, stp]; omega
        rw [e1, List.length_cons]
        show ∃ s3' s4' s5' s6' s7', whileL ttC m_OctetReader_take_thing_b1 (((f + stps r) + 1 + stps xs) + 1) (TT ns k (W ++ [RD (r.length + 1)]) M s3 s4 s5 s6 s7) = _
        rw [whileL, ttC_ok]
        dsimp only
        rw [st]
        dsimp only
        have hk1 : ns.drop (k + (4 :: sev xs.length).length) = b ++ (y ++ rest) := by
          rw [← List.drop_drop, hn1, List.append_assoc, List.drop_left]
        obtain ⟨b3, b4, b5, b6, b7, q⟩ := ih xs (by omega) ((f + stps r) + 1) (k + (4 :: sev xs.length).length) (W ++ rdS r.length ++ [MK xs.length]) M a3 a4 s5 a6 a7 b (y ++ rest) hf.1.2 hb hk1 (by simp [ML.LIM, ML.content, ML.contents, ML.clean, ML.avSl, ML.datas, ML.obD, ML.slL, ML.seqOf, ML.dB, ML.dI, ML.dItems, ML.dTup, ML.dLst, ML.dStr, ML.isNone, ML.gIsN, ML.gNeg, ML.gAdd, ML.bInt, ML.tyName, ML.isTy, ML.ioOk, ML.gT, ML.gCons, ML.gNil, ML.fApp, ML.fExt, ML.fPop, hr]) (by rw [List.length_append, List.length_append, List.length_singleton]; omega) (by omega) (by omega)
        rw [q, whileL, ttC_ok]
        dsimp only
        have lx := nods_len xs
        obtain ⟨c3, c4, c5, mk⟩ := tt_make ns (k + (4 :: sev xs.length).length + b.length) (W ++ rdS r.length) M xs b3 b4 b5 b6 b7 (by omega)
        rw [mk]
        dsimp only
        have hk2 : k + (4 :: sev xs.length).length + b.length = k + (4 :: sev xs.length ++ b).length := by rw [List.length_append]; omega
        rw [hk2]
        obtain ⟨d3, d4, d5, d6, d7, q2⟩ := ih r (by omega) f (k + (4 :: sev xs.length ++ b).length) W (M ++ [.tuple xs]) c3 c4 c5 b6 b7 y rest hf.2 hy hn2 hr (by omega) (by rw [List.length_append, List.length_singleton]; omega) (by omega)
        refine ⟨d3, d4, d5, d6, d7, ?_⟩
        rw [q2, List.length_append (as := 4 :: sev xs.length ++ b), List.append_assoc M]
        have : k + (4 :: sev xs.length ++ b).length + y.length = k + ((4 :: sev xs.length ++ b).length + y.length) := by omega
        rw [this]; rfl
      · have ht' : ∀ xs, d ≠ .tuple xs := fun xs z => ht ⟨xs, z⟩
        obtain ⟨a3, a4, a6, st⟩ := tt_plain ns k r.length W M s3 s4 s5 s6 s7 d x (y ++ rest) hf.1 hx ht' hn1 (by simp [ML.LIM, ML.content, ML.contents, ML.clean, ML.avSl, ML.datas, ML.obD, ML.slL, ML.seqOf, ML.dB, ML.dI, ML.dItems, ML.dTup, ML.dLst, ML.dStr, ML.isNone, ML.gIsN, ML.gNeg, ML.gAdd, ML.bInt, ML.tyName, ML.isTy, ML.ioOk, ML.gT, ML.gCons, ML.gNil, ML.fApp, ML.fExt, ML.fPop, hr]) (by omega) (by omega) (by omega)
        have e1 : f + stps (d :: r) = (f + stps r) + 1 := by rw [stps, stp_plain ht']; omega
        rw [e1, List.length_cons]
        show ∃ s3' s4' s5' s6' s7', whileL ttC m_OctetReader_take_thing_b1 ((f + stps r) + 1) (TT ns k (W ++ [RD (r.length + 1)]) M s3 s4 s5 s6 s7) = _
        rw [whileL, ttC_ok]
        dsimp only
        rw [st]
        dsimp only
        obtain ⟨d3, d4, d5, d6, d7, q2⟩ := ih r (by omega) f (k + x.length) W (M ++ [d]) a3 a4 s5 a6 s7 y rest hf.2 hy hn2 hr (by omega) (by rw [List.length_append, List.length_singleton]; omega) (by omega)
        refine ⟨d3, d4, d5, d6, d7, ?_⟩
        rw [q2, List.length_append, List.append_assoc M]
        have : k + x.length + y.length = k + (x.length + y.length) := by omega
        rw [this]; rfl
end K62
end

section
set_option Elab.async false
set_option linter.all false
set_option maxRecDepth 100000
set_option maxHeartbeats 2000000
namespace K62
open PySem (Str)
open L2 (atI ixN)
open ML
theorem sevI_lt256 : ∀ (n : Nat), ∀ x ∈ sevI n, x < 256 := by
  intro n
  induction n using Nat.strongRecOn with
  | _ n ih =>
    intro x hx
    by_cases h : n < 128
    · rw [sevI_lt h] at hx; cases hx
    · rw [sevI_ge h] at hx
      rcases List.mem_cons.mp hx with e | e
      · omega
      · exact ih (n / 128) (by omega) x e
theorem sevL_lt128 : ∀ (n : Nat), sevL n < 128 := by
  intro n
  induction n using Nat.strongRecOn with
  | _ n ih =>
    by_cases h : n < 128
    · rw [sevL_lt h]; exact h
    · rw [sevL_ge h]; exact ih (n / 128) (by omega)
theorem sev_lt256 (n : Nat) : ∀ x ∈ sev n, x < 256 := by
  intro x hx
  unfold sev at hx
  rcases List.mem_append.mp hx with h | h
  · exact sevI_lt256 n x h
  · have := sevL_lt128 n
    simp [ML.LIM, ML.content, ML.contents, ML.clean, ML.avSl, ML.datas, ML.obD, ML.slL, ML.seqOf, ML.dB, ML.dI, ML.dItems, ML.dTup, ML.dLst, ML.dStr, ML.isNone, ML.gIsN, ML.gNeg, ML.gAdd, ML.bInt, ML.tyName, ML.isTy, ML.ioOk, ML.gT, ML.gCons, ML.gNil, ML.fApp, ML.fExt, ML.fPop] at h; omega
mutual
theorem enc_lt : ∀ (d : D) (a : List Nat), encO d = some a → ∀ x ∈ a, x < 256
  | .none, _, h, x, hx => by cases h; simp [ML.LIM, ML.content, ML.contents, ML.clean, ML.avSl, ML.datas, ML.obD, ML.slL, ML.seqOf, ML.dB, ML.dI, ML.dItems, ML.dTup, ML.dLst, ML.dStr, ML.isNone, ML.gIsN, ML.gNeg, ML.gAdd, ML.bInt, ML.tyName, ML.isTy, ML.ioOk, ML.gT, ML.gCons, ML.gNil, ML.fApp, ML.fExt, ML.fPop] at hx; omega
  | .bool b, _, h, x, hx => by cases h; cases b <;> (simp [ML.LIM, ML.content, ML.contents, ML.clean, ML.avSl, ML.datas, ML.obD, ML.slL, ML.seqOf, ML.dB, ML.dI, ML.dItems, ML.dTup, ML.dLst, ML.dStr, ML.isNone, ML.gIsN, ML.gNeg, ML.gAdd, ML.bInt, ML.tyName, ML.isTy, ML.ioOk, ML.gT, ML.gCons, ML.gNil, ML.fApp, ML.fExt, ML.fPop] at hx; omega)
  | .int i, _, h, x, hx => by
    cases h
    rcases List.mem_cons.mp hx with e | e
    · omega
    · exact sev_lt256 _ x e
  | .str z, _, h, x, hx => by
    have h' : (if okS z = true then some (3 :: (sev z.length ++ z.cps.toList)) else none) = some _ := h
    obtain ⟨hk, rfl⟩ := ite_some h'
    rcases List.mem_cons.mp hx with e | e
    · omega
    · rcases List.mem_append.mp e with e | e
      · exact sev_lt256 _ x e
      · have := SG_lt x (of_decide_eq_true (List.all_eq_true.mp hk x e))
        omega
  | .tuple xs, _, h, x, hx => by
    rw [encO] at h
    obtain ⟨r, hr, rfl⟩ := Option.map_eq_some_iff.mp h
    rcases List.mem_append.mp hx with e | e
    · rcases List.mem_cons.mp e with e | e
      · omega
      · exact sev_lt256 _ x e
    · exact encs_lt xs r hr x e
  | .list _, _, h, _, _ => by cases h
  | .dict _, _, h, _, _ => by cases h
theorem encs_lt : ∀ (ds : List D) (a : List Nat), encOs ds = some a → ∀ x ∈ a, x < 256
  | [], _, h, x, hx => by cases h; cases hx
  | d :: r, _, h, x, hx => by
    rw [encOs] at h
    obtain ⟨a, ha, h⟩ := Option.bind_eq_some_iff.mp h
    obtain ⟨b, hb, rfl⟩ := Option.map_eq_some_iff.mp h
    rcases List.mem_append.mp hx with e | e
    · exact enc_lt d a ha x e
    · exact encs_lt r b hb x e
end
theorem ints_ok : ∀ ns : List Nat, noDctA (ns.map nI) = true ∧ PySem.PyData.canLayAll0 (ns.map nI) = true ∧ PySem.PyData.depthAll (ns.map nI) = 0
  | [] => ⟨rfl, rfl, rfl⟩
  | n :: r => by
    obtain ⟨h1, h2, h3⟩ := ints_ok r
    exact ⟨by rw [List.map_cons, noDctA, h1]; rfl, by rw [List.map_cons, PySem.PyData.canLayAll0, h2]; rfl, by rw [List.map_cons, PySem.PyData.depthAll, h3]; rfl⟩
theorem eqOk_ints (ns : List Nat) : eqOk (.tuple (ns.map nI)) = true := by
  obtain ⟨h1, h2, h3⟩ := ints_ok ns
  unfold eqOk PySem.SeqAt.shaped
  rw [noDct, h1, PySem.PyData.canLay0, h2, PySem.PyData.depth, h3]; rfl
theorem eqv_ints : ∀ (ns ms : List Nat), PySem.PyData.eqvAll (ns.map nI) (ms.map nI) = decide (ns = ms)
  | [], [] => rfl
  | [], _ :: _ => rfl
  | _ :: _, [] => rfl
  | n :: r, m :: t => by
    rw [List.map_cons, List.map_cons, PySem.PyData.eqvAll, eqv_ints r t]
    have : PySem.PyData.eqv (nI n) (nI m) = decide (n = m) := by
      show ((n : Int) == (m : Int)) = _
      by_cases z : n = m
      · subst z; simp [ML.LIM, ML.content, ML.contents, ML.clean, ML.avSl, ML.datas, ML.obD, ML.slL, ML.seqOf, ML.dB, ML.dI, ML.dItems, ML.dTup, ML.dLst, ML.dStr, ML.isNone, ML.gIsN, ML.gNeg, ML.gAdd, ML.bInt, ML.tyName, ML.isTy, ML.ioOk, ML.gT, ML.gCons, ML.gNil, ML.fApp, ML.fExt, ML.fPop]
      · have z' : ¬ (n : Int) = (m : Int) := by omega
        simp [ML.LIM, ML.content, ML.contents, ML.clean, ML.avSl, ML.datas, ML.obD, ML.slL, ML.seqOf, ML.dB, ML.dI, ML.dItems, ML.dTup, ML.dLst, ML.dStr, ML.isNone, ML.gIsN, ML.gNeg, ML.gAdd, ML.bInt, ML.tyName, ML.isTy, ML.ioOk, ML.gT, ML.gCons, ML.gNil, ML.fApp, ML.fExt, ML.fPop, z, z']
    rw [this]
    by_cases z : n = m
    · subst z; simp [ML.LIM, ML.content, ML.contents, ML.clean, ML.avSl, ML.datas, ML.obD, ML.slL, ML.seqOf, ML.dB, ML.dI, ML.dItems, ML.dTup, ML.dLst, ML.dStr, ML.isNone, ML.gIsN, ML.gNeg, ML.gAdd, ML.bInt, ML.tyName, ML.isTy, ML.ioOk, ML.gT, ML.gCons, ML.gNil, ML.fApp, ML.fExt, ML.fPop]
    · simp [ML.LIM, ML.content, ML.contents, ML.clean, ML.avSl, ML.datas, ML.obD, ML.slL, ML.seqOf, ML.dB, ML.dI, ML.dItems, ML.dTup, ML.dLst, ML.dStr, ML.isNone, ML.gIsN, ML.gNeg, ML.gAdd, ML.bInt, ML.tyName, ML.isTy, ML.ioOk, ML.gT, ML.gCons, ML.gNil, ML.fApp, ML.fExt, ML.fPop, z]
theorem oct_eq (ns ms : List Nat) : gEq false (.d (.tuple (ns.map nI))) (.d (.tuple (ms.map nI))) = some (.bool (decide (ns = ms))) := gEq_of (eqOk_ints _) (eqOk_ints _) (by rw [PySem.PyData.eqv]; exact eqv_ints ns ms)
theorem oct_ne (ns ms : List Nat) : gEq true (.d (.tuple (ns.map nI))) (.d (.tuple (ms.map nI))) = some (.bool (!decide (ns = ms))) := gNe_of (eqOk_ints _) (eqOk_ints _) (by rw [PySem.PyData.eqv]; exact eqv_ints ns ms)
theorem stp_le : ∀ (N : Nat) (ds : List D), nods ds ≤ N → stps ds ≤ 2 * nods ds := by
  intro N
  induction N with
  | zero =>
    intro ds h
    cases ds with
    | nil => simp [ML.LIM, ML.content, ML.contents, ML.clean, ML.avSl, ML.datas, ML.obD, ML.slL, ML.seqOf, ML.dB, ML.dI, ML.dItems, ML.dTup, ML.dLst, ML.dStr, ML.isNone, ML.gIsN, ML.gNeg, ML.gAdd, ML.bInt, ML.tyName, ML.isTy, ML.ioOk, ML.gT, ML.gCons, ML.gNil, ML.fApp, ML.fExt, ML.fPop, stps]
    | cons d r => rw [nods] at h; have := nod_pos d; omega
  | succ N ih =>
    intro ds h
    cases ds with
    | nil => simp [ML.LIM, ML.content, ML.contents, ML.clean, ML.avSl, ML.datas, ML.obD, ML.slL, ML.seqOf, ML.dB, ML.dI, ML.dItems, ML.dTup, ML.dLst, ML.dStr, ML.isNone, ML.gIsN, ML.gNeg, ML.gAdd, ML.bInt, ML.tyName, ML.isTy, ML.ioOk, ML.gT, ML.gCons, ML.gNil, ML.fApp, ML.fExt, ML.fPop, stps]
    | cons d r =>
      rw [nods] at h ⊢
      rw [stps]
      have np := nod_pos d
      have q := ih r (by omega)
      by_cases ht : ∃ xs, d = .tuple xs
      · obtain ⟨xs, rfl⟩ := ht
        rw [nod] at h ⊢
        have q2 := ih xs (by omega)
        rw [stp]; omega
      · rw [stp_plain fun xs z => ht ⟨xs, z⟩]; omega
theorem thing_ok (d : D) (hd : allF d) (hn : nod d ≤ 800) (bs rest : List Nat) (he : encO d = some bs) (ns : List Nat) (k : Nat) (hk : ns.drop k = bs ++ rest) (hr : rest ≠ []) : ∃ k', F_OctetReader_take_thing [rdr ns k] = .ok (.d d) [rdr ns k'] := by
  have e1 : encOs [d] = some bs := by rw [encOs, encOs, he]; simp [ML.LIM, ML.content, ML.contents, ML.clean, ML.avSl, ML.datas, ML.obD, ML.slL, ML.seqOf, ML.dB, ML.dI, ML.dItems, ML.dTup, ML.dLst, ML.dStr, ML.isNone, ML.gIsN, ML.gNeg, ML.gAdd, ML.bInt, ML.tyName, ML.isTy, ML.ioOk, ML.gT, ML.gCons, ML.gNil, ML.fApp, ML.fExt, ML.fPop]
  have sl := stp_le (nods [d]) [d] (Nat.le_refl _)
  have hnn : nods [d] = nod d := by rw [nods, nods]; rfl
  obtain ⟨s3, s4, s5, s6, s7, q⟩ := rd_all ns _ [d] (Nat.le_refl _) (20000 - stps [d]) k [] [] .un .un .un .un .un bs rest ⟨hd, trivial⟩ e1 hk hr (by simp [ML.LIM, ML.content, ML.contents, ML.clean, ML.avSl, ML.datas, ML.obD, ML.slL, ML.seqOf, ML.dB, ML.dI, ML.dItems, ML.dTup, ML.dLst, ML.dStr, ML.isNone, ML.gIsN, ML.gNeg, ML.gAdd, ML.bInt, ML.tyName, ML.isTy, ML.ioOk, ML.gT, ML.gCons, ML.gNil, ML.fApp, ML.fExt, ML.fPop]; omega) (by simp [ML.LIM, ML.content, ML.contents, ML.clean, ML.avSl, ML.datas, ML.obD, ML.slL, ML.seqOf, ML.dB, ML.dI, ML.dItems, ML.dTup, ML.dLst, ML.dStr, ML.isNone, ML.gIsN, ML.gNeg, ML.gAdd, ML.bInt, ML.tyName, ML.isTy, ML.ioOk, ML.gT, ML.gCons, ML.gNil, ML.fApp, ML.fExt, ML.fPop]; omega) (by simp [ML.LIM, ML.content, ML.contents, ML.clean, ML.avSl, ML.datas, ML.obD, ML.slL, ML.seqOf, ML.dB, ML.dI, ML.dItems, ML.dTup, ML.dLst, ML.dStr, ML.isNone, ML.gIsN, ML.gNeg, ML.gAdd, ML.bInt, ML.tyName, ML.isTy, ML.ioOk, ML.gT, ML.gCons, ML.gNil, ML.fApp, ML.fExt, ML.fPop])
  have ef : 20000 - stps [d] + stps [d] = 20000 := by omega
  rw [ef] at q
  obtain ⟨f, hf⟩ : ∃ f, 20000 - stps [d] = f + 1 := ⟨20000 - stps [d] - 1, by omega⟩
  rw [hf] at q
  have w : m_OctetReader_take_thing_w2 (TT ns k [RD 1] [] .un .un .un .un .un) = .nx (TT ns (k + bs.length) [] [d] s3 s4 s5 s6 s7) := by
    show whileL ttC m_OctetReader_take_thing_b1 20000 (TT ns k ([] ++ rdS 1) [] .un .un .un .un .un) = _
    rw [show rdS 1 = rdS [d].length from rfl, q, whileL, ttC_nil]
    rfl
  have p : sPar 1 2 (aF (oLst (aD (eTup (aD (eC c_READ_THING) (aD (eC (.int 1)) (aNil)))) (aNil))) (aF (oLst (aNil)) (aNil))) [rdr ns k, .un, .un, .un, .un, .un, .un, .un] = .nx (TT ns k [RD 1] [] .un .un .un .un .un) := by
    simp [ML.LIM, ML.content, ML.contents, ML.clean, ML.avSl, ML.datas, ML.obD, ML.slL, ML.seqOf, ML.dB, ML.dI, ML.dItems, ML.dTup, ML.dLst, ML.dStr, ML.isNone, ML.gIsN, ML.gNeg, ML.gAdd, ML.bInt, ML.tyName, ML.isTy, ML.ioOk, ML.gT, ML.gCons, ML.gNil, ML.fApp, ML.fExt, ML.fPop, TT, nI]
  have f : sRet (e2 gIx (qR 2) (qD (eC (.int 0)))) (TT ns (k + bs.length) [] [d] s3 s4 s5 s6 s7) = .rt (.d d) (TT ns (k + bs.length) [] [d] s3 s4 s5 s6 s7) := rfl
  refine ⟨k + bs.length, ?_⟩
  simp only [F_OctetReader_take_thing, runBody, m_OctetReader_take_thing]
  simp [ML.LIM, ML.content, ML.contents, ML.clean, ML.avSl, ML.datas, ML.obD, ML.slL, ML.seqOf, ML.dB, ML.dI, ML.dItems, ML.dTup, ML.dLst, ML.dStr, ML.isNone, ML.gIsN, ML.gNeg, ML.gAdd, ML.bInt, ML.tyName, ML.isTy, ML.ioOk, ML.gT, ML.gCons, ML.gNil, ML.fApp, ML.fExt, ML.fPop, p, w, f, -sPar_e, -sRet_e]
  simp [ML.LIM, ML.content, ML.contents, ML.clean, ML.avSl, ML.datas, ML.obD, ML.slL, ML.seqOf, ML.dB, ML.dI, ML.dItems, ML.dTup, ML.dLst, ML.dStr, ML.isNone, ML.gIsN, ML.gNeg, ML.gAdd, ML.bInt, ML.tyName, ML.isTy, ML.ioOk, ML.gT, ML.gCons, ML.gNil, ML.fApp, ML.fExt, ML.fPop, rdr]
theorem init_ok (t : D) (n : Nat) : F_OctetReader___init__ [.o false (.ins "OctetReader" []), .d t] = .ok (.d .none) [.o false (.ins "OctetReader" [("octets_told", t), ("octet_at", nI 3)]), .d t] := by rfl
theorem within_ok (x : Nat) (h : x < 256) : ∃ o, F_is_within [.d (nI x), .d (.int 0), .d (.int 255)] = .ok (.d (.bool true)) o := by
  obtain ⟨o, hi⟩ := isint_ok (nI x)
  have hc := call1 (F := F_is_integer) (m := eV 0) (e := [.d (nI x), .d (.int 0), .d (.int 255)]) (e' := [.d (nI x), .d (.int 0), .d (.int 255)]) rfl hi rfl
  have t : (isTy "int" (nI x) && !isTy "bool" (nI x)) = true := rfl
  rw [t] at hc
  have g1 : gLe (.d (.int 0)) (.d (nI x)) = some (.bool true) := by
    show some (PySem.PyData.bool (decide ((0 : Int) ≤ (x : Int)))) = _
    rw [decide_eq_true (by omega)]
  have g2 : gLe (.d (nI x)) (.d (.int 255)) = some (.bool true) := by
    show some (PySem.PyData.bool (decide ((x : Int) ≤ 255))) = _
    rw [decide_eq_true (by omega)]
  refine ⟨[.d (nI x), .d (.int 0), .d (.int 255)], ?_⟩
  simp only [F_is_within, runBody, m_is_within]
  have io : ioOk [.d (nI x), .d (.int 0), .d (.int 255)] [.d (nI x), .d (.int 0), .d (.int 255)] = true := rfl
  simp [ML.LIM, ML.content, ML.contents, ML.clean, ML.avSl, ML.datas, ML.obD, ML.slL, ML.seqOf, ML.dB, ML.dI, ML.dItems, ML.dTup, ML.dLst, ML.dStr, ML.isNone, ML.gIsN, ML.gNeg, ML.gAdd, ML.bInt, ML.tyName, ML.isTy, ML.gT, ML.gCons, ML.gNil, ML.fApp, ML.fExt, ML.fPop, hc, g1, g2, io, -ioOk]
theorem all_within (ns : List Nat) (h : ∀ x ∈ ns, x < 256) (hl : ns.length ≤ 1000000) : o_raw_thing_1 [.d (.tuple (ns.map nI)), .un, .un] = .ok (.lst (ns.map fun _ => .bool true)) [.d (.tuple (ns.map nI)), .un, .un] := by
  have e := compL_map (g := gN 2) (tt := ret true) (te := m_raw_thing_c1) (vs := [2]) (e0 := [.d (.tuple (ns.map nI)), .un, .un]) (p := fun _ => true) (f := fun _ => .bool true) (ns.map nI) [] (by
    intro d hd
    obtain ⟨x, hx, rfl⟩ := List.mem_map.mp hd
    obtain ⟨o, hw⟩ := within_ok x (h x hx)
    refine ⟨[.d (.tuple (ns.map nI)), .un, .d (nI x)], by simp [ML.LIM, ML.content, ML.contents, ML.clean, ML.avSl, ML.datas, ML.obD, ML.slL, ML.seqOf, ML.dB, ML.dI, ML.dItems, ML.dTup, ML.dLst, ML.dStr, ML.isNone, ML.gIsN, ML.gNeg, ML.gAdd, ML.bInt, ML.tyName, ML.isTy, ML.ioOk, ML.gT, ML.gCons, ML.gNil, ML.fApp, ML.fExt, ML.fPop], by simp [ML.LIM, ML.content, ML.contents, ML.clean, ML.avSl, ML.datas, ML.obD, ML.slL, ML.seqOf, ML.dB, ML.dI, ML.dItems, ML.dTup, ML.dLst, ML.dStr, ML.isNone, ML.gIsN, ML.gNeg, ML.gAdd, ML.bInt, ML.tyName, ML.isTy, ML.ioOk, ML.gT, ML.gCons, ML.gNil, ML.fApp, ML.fExt, ML.fPop], fun _ => ?_, by simp [ML.LIM, ML.content, ML.contents, ML.clean, ML.avSl, ML.datas, ML.obD, ML.slL, ML.seqOf, ML.dB, ML.dI, ML.dItems, ML.dTup, ML.dLst, ML.dStr, ML.isNone, ML.gIsN, ML.gNeg, ML.gAdd, ML.bInt, ML.tyName, ML.isTy, ML.ioOk, ML.gT, ML.gCons, ML.gNil, ML.fApp, ML.fExt, ML.fPop, wipeE]⟩
    exact call3 (m := eV 2) (m2 := eC (.int 0)) (m3 := eC (.int 255)) (e' := [.d (.tuple (ns.map nI)), .un, .d (nI x)]) (e'' := [.d (.tuple (ns.map nI)), .un, .d (nI x)]) (e3 := [.d (.tuple (ns.map nI)), .un, .d (nI x)]) rfl rfl rfl hw rfl) (by rw [List.length_nil, List.length_map, Nat.zero_add]; exact lim_ok hl)
  rw [List.filter_eq_self.mpr (fun _ _ => rfl), List.nil_append, List.map_map] at e
  have it : iD (eV 0) [.d (.tuple (ns.map nI)), .un, .un] = .ok (ns.map nI) [.d (.tuple (ns.map nI)), .un, .un] := by simp [ML.LIM, ML.content, ML.contents, ML.clean, ML.avSl, ML.datas, ML.obD, ML.slL, ML.seqOf, ML.dB, ML.dI, ML.dItems, ML.dTup, ML.dLst, ML.dStr, ML.isNone, ML.gIsN, ML.gNeg, ML.gAdd, ML.bInt, ML.tyName, ML.isTy, ML.ioOk, ML.gT, ML.gCons, ML.gNil, ML.fApp, ML.fExt, ML.fPop]
  simp only [o_raw_thing_1, oComp, bind_e, it]
  rw [show wipeE [.d (.tuple (ns.map nI)), .un, .un] [2] = [.d (.tuple (ns.map nI)), .un, .un] from rfl, e]
  rfl
theorem dB_true : ∀ ns : List Nat, dBools (ns.map fun _ => PySem.PyData.bool true) = some (ns.map fun _ => true)
  | [] => rfl
  | n :: r => by
    show (dBools (r.map fun _ => PySem.PyData.bool true)).map _ = _
    rw [dB_true r]; rfl
theorem octs_lt {bs : List Nat} (h : ∀ x ∈ bs, x < 256) : ∀ x ∈ octs bs, x < 256 := by
  intro x hx
  unfold octs at hx
  rcases List.mem_append.mp hx with e | e
  · rcases List.mem_append.mp e with e | e
    · simp [ML.LIM, ML.content, ML.contents, ML.clean, ML.avSl, ML.datas, ML.obD, ML.slL, ML.seqOf, ML.dB, ML.dI, ML.dItems, ML.dTup, ML.dLst, ML.dStr, ML.isNone, ML.gIsN, ML.gNeg, ML.gAdd, ML.bInt, ML.tyName, ML.isTy, ML.ioOk, ML.gT, ML.gCons, ML.gNil, ML.fApp, ML.fExt, ML.fPop] at e; omega
    · exact h x e
  · simp [ML.LIM, ML.content, ML.contents, ML.clean, ML.avSl, ML.datas, ML.obD, ML.slL, ML.seqOf, ML.dB, ML.dI, ML.dItems, ML.dTup, ML.dLst, ML.dStr, ML.isNone, ML.gIsN, ML.gNeg, ML.gAdd, ML.bInt, ML.tyName, ML.isTy, ML.ioOk, ML.gT, ML.gCons, ML.gNil, ML.fApp, ML.fExt, ML.fPop] at e; omega
theorem make_ok (ns : List Nat) : oMake "OctetReader" F_OctetReader___init__ (aD (eV 0) aNil) [.d (.tuple (ns.map nI)), .un, .un] = .ok (.ins "OctetReader" [("octets_told", .tuple (ns.map nI)), ("octet_at", nI 3)]) [.d (.tuple (ns.map nI)), .un, .un] := by
  simp only [oMake, bind_e, aD_e, eV_e, List.getElem?_cons_zero, aNil_e, ret_e]
  rw [show ios [.d (.tuple (ns.map nI)), .un, .un] [.d (.tuple (ns.map nI))] 0 = some none from rfl]
  dsimp only
  rw [show (contents [.d (.tuple (ns.map nI)), .un, .un] [.d (.tuple (ns.map nI))]).map argOf = [.d (.tuple (ns.map nI))] from rfl, init_ok _ 0]
  rfl
theorem raw_thing_ok (d : D) (hd : allF d) (hn : nod d ≤ 800) (bs : List Nat) (he : encO d = some bs) : ∃ o, F_raw_thing [.d (octD bs)] = .ok (.d d) o := by
  have hb := enc_lt d bs he
  have ln := enc_le hd hn he
  have le := enc_pos he
  have lo := octs_lt hb
  have loc : (octs bs).length = bs.length + 4 := by unfold octs; simp [ML.LIM, ML.content, ML.contents, ML.clean, ML.avSl, ML.datas, ML.obD, ML.slL, ML.seqOf, ML.dB, ML.dI, ML.dItems, ML.dTup, ML.dLst, ML.dStr, ML.isNone, ML.gIsN, ML.gNeg, ML.gAdd, ML.bInt, ML.tyName, ML.isTy, ML.ioOk, ML.gT, ML.gCons, ML.gNil, ML.fApp, ML.fExt, ML.fPop]
  have aw := all_within (octs bs) lo (by omega)
  have dr : (octs bs).drop 3 = bs ++ [cs 0 ([83, 82, 1] ++ bs) % 251] := by unfold octs; rfl
  obtain ⟨k', th⟩ := thing_ok d hd hn bs [cs 0 ([83, 82, 1] ++ bs) % 251] he (octs bs) 3 dr (by simp [ML.LIM, ML.content, ML.contents, ML.clean, ML.avSl, ML.datas, ML.obD, ML.slL, ML.seqOf, ML.dB, ML.dI, ML.dItems, ML.dTup, ML.dLst, ML.dStr, ML.isNone, ML.gIsN, ML.gNeg, ML.gAdd, ML.bInt, ML.tyName, ML.isTy, ML.ioOk, ML.gT, ML.gCons, ML.gNil, ML.fApp, ML.fExt, ML.fPop])
  obtain ⟨o, ro⟩ := raw_ok d hd hn (fun ns e x hx => Nat.lt_trans (enc_lt d ns e x hx) (by decide))
  rw [he] at ro
  have rc : eRv (callM F_raw_octets (aD (eV 1) aNil)) [.d (octD bs), .d d, .un] = .ok (octD bs) [.d (octD bs), .d d, .un] := call1 (F := F_raw_octets) (m := eV 1) (e := [.d (octD bs), .d d, .un]) (e' := [.d (octD bs), .d d, .un]) rfl ro rfl
  have ne := oct_ne (octs bs) (octs bs)
  rw [decide_eq_true rfl] at ne
  have mk := make_ok (octs bs)
  have cf : eRv (callF "OctetReader" "take_thing" F_OctetReader_take_thing (oMake "OctetReader" F_OctetReader___init__ (aD (eV 0) (aNil)))) [.d (octD bs), .un, .un] = .ok d [.d (octD bs), .un, .un] := by
    have mk' : oMake "OctetReader" F_OctetReader___init__ (aD (eV 0) aNil) [.d (octD bs), .un, .un] = .ok (.ins "OctetReader" [("octets_told", .tuple ((octs bs).map nI)), ("octet_at", nI 3)]) [.d (octD bs), .un, .un] := mk
    simp only [eRv, callF, bind_e, mk']
    have th' : F_OctetReader_take_thing [.o false (.ins "OctetReader" [("octets_told", .tuple ((octs bs).map nI)), ("octet_at", nI 3)])] = .ok (.d d) [rdr (octs bs) k'] := th
    have lk : List.lookup ("take_thing" : Str) ([("octets_told", .tuple ((octs bs).map nI)), ("octet_at", nI 3)] : List (Str × D)) = none := rfl
    rw [if_pos ⟨trivial, lk⟩, th']
    rfl
  have t1 : (tOr_ (tNot_ (tB_ (eIsi "tuple" (eV 0)))) (b2 gLe (qD (eBlt bLen (aR 0 (aNil)))) (qD (eBlt bLen (aD (eC c_FIRST_OCTETS) (aNil)))))) [.d (octD bs), .un, .un] = .ok false [.d (octD bs), .un, .un] := by
    have h : ¬ (((octs bs).length : Int) ≤ 3) := by omega
    have g : gLe (.d (.int (((octs bs).map nI).length : Int))) (.d (.int 3)) = some (.bool false) := by
      show some (PySem.PyData.bool (decide ((((octs bs).map nI).length : Int) ≤ 3))) = _
      rw [List.length_map, decide_eq_false h]
    unfold octD
    generalize (octs bs).map nI = L at g ⊢
    simp [ML.LIM, ML.content, ML.contents, ML.clean, ML.avSl, ML.datas, ML.obD, ML.slL, ML.seqOf, ML.dB, ML.dI, ML.dItems, ML.dTup, ML.dLst, ML.dStr, ML.isNone, ML.gIsN, ML.gNeg, ML.gAdd, ML.bInt, ML.tyName, ML.isTy, ML.ioOk, ML.gT, ML.gCons, ML.gNil, ML.fApp, ML.fExt, ML.fPop, bLen, seqOf, c_FIRST_OCTETS, g, -gLe_e]
  have t2 : (tOr_ (tNot_ (tB_ (eBlt bAll (aF (o_raw_thing_1) (aNil))))) (b2 (gEq true) (qD (eSl gSlT (qR 0) (ret none) (ptI (eC (.int 3))))) (qD (eC c_FIRST_OCTETS)))) [.d (octD bs), .un, .un] = .ok false [.d (octD bs), .un, .un] := by
    have aw' : o_raw_thing_1 [.d (octD bs), .un, .un] = .ok (.lst ((octs bs).map fun _ => .bool true)) [.d (octD bs), .un, .un] := aw
    have al : ((octs bs).map fun _ => true).all id = true := by rw [List.all_map]; exact List.all_eq_true.mpr fun _ _ => rfl
    have ct : gSlT (.d (octD bs)) none (some 3) = some (.tuple [nI 83, nI 82, nI 1]) := by
      show some (PySem.PyData.tuple (cut ((octs bs).map nI) none (some ((3 : Nat) : Int)))) = _
      rw [cut_take _ _ (by rw [List.length_map]; omega)]
      rfl
    have n3 : gEq true (.d (.tuple [nI 83, nI 82, nI 1])) (.d c_FIRST_OCTETS) = some (.bool false) := by
      have := oct_ne [83, 82, 1] [83, 82, 1]
      rw [decide_eq_true rfl] at this
      exact this
    have ba : bAll [.o true (.lst ((octs bs).map fun _ => .bool true))] = some (.bool true) := by
      simp only [bAll, slL, Option.bind_some, dB_true, Option.map_some, al]
    generalize (octs bs).map (fun _ => PySem.PyData.bool true) = L at aw' ba
    generalize octD bs = O at aw' ct ⊢
    simp [ML.LIM, ML.content, ML.contents, ML.clean, ML.avSl, ML.datas, ML.obD, ML.slL, ML.seqOf, ML.dB, ML.dI, ML.dItems, ML.dTup, ML.dLst, ML.dStr, ML.isNone, ML.gIsN, ML.gNeg, ML.gAdd, ML.bInt, ML.tyName, ML.isTy, ML.ioOk, ML.gT, ML.gCons, ML.gNil, ML.fApp, ML.fExt, ML.fPop, aw', ba, ct, n3]
  have t3 : sIf (b2 (gEq true) (qD (eRv (callM F_raw_octets (aD (eV 1) (aNil))))) (qR 0)) (sRaise "BadOctets") sNil [.d (octD bs), .d d, .un] = .nx [.d (octD bs), .d d, .un] := by
    have ne' : gEq true (.d (octD bs)) (.d (octD bs)) = some (.bool false) := ne
    generalize octD bs = O at rc ne' ⊢
    simp [ML.LIM, ML.content, ML.contents, ML.clean, ML.avSl, ML.datas, ML.obD, ML.slL, ML.seqOf, ML.dB, ML.dI, ML.dItems, ML.dTup, ML.dLst, ML.dStr, ML.isNone, ML.gIsN, ML.gNeg, ML.gAdd, ML.bInt, ML.tyName, ML.isTy, ML.ioOk, ML.gT, ML.gCons, ML.gNil, ML.fApp, ML.fExt, ML.fPop, rc, ne']
  have s1 : sIf (tOr_ (tNot_ (tB_ (eIsi "tuple" (eV 0)))) (b2 gLe (qD (eBlt bLen (aR 0 (aNil)))) (qD (eBlt bLen (aD (eC c_FIRST_OCTETS) (aNil)))))) (sRaise "BadOctets") sNil [.d (octD bs), .un, .un] = .nx [.d (octD bs), .un, .un] := by
    rw [sIf_e, xS_e, t1]; rfl
  have s2 : sIf (tOr_ (tNot_ (tB_ (eBlt bAll (aF (o_raw_thing_1) (aNil))))) (b2 (gEq true) (qD (eSl gSlT (qR 0) (ret none) (ptI (eC (.int 3))))) (qD (eC c_FIRST_OCTETS)))) (sRaise "BadOctets") sNil [.d (octD bs), .un, .un] = .nx [.d (octD bs), .un, .un] := by
    rw [sIf_e, xS_e, t2]; rfl
  refine ⟨[.d (octD bs)], ?_⟩
  simp only [F_raw_thing, runBody, m_raw_thing]
  generalize octD bs = O at s1 s2 t3 cf ⊢
  simp [ML.LIM, ML.content, ML.contents, ML.clean, ML.avSl, ML.datas, ML.obD, ML.slL, ML.seqOf, ML.dB, ML.dI, ML.dItems, ML.dTup, ML.dLst, ML.dStr, ML.isNone, ML.gIsN, ML.gNeg, ML.gAdd, ML.bInt, ML.tyName, ML.isTy, ML.ioOk, ML.gT, ML.gCons, ML.gNil, ML.fApp, ML.fExt, ML.fPop, s1, s2, t3, cf, -sIf_e]
theorem thing_of_ok (d : D) (hd : allF d) (hn : nod d ≤ 800) (bs : List Nat) (he : encO d = some bs) : ∃ o, F_thing_of [.d (octD bs)] = .ok (.d d) o := by
  obtain ⟨o, h⟩ := raw_thing_ok d hd hn bs he
  have c := call1 (F := F_raw_thing) (m := eV 0) (e := [.d (octD bs)]) (e' := [.d (octD bs)]) rfl h rfl
  refine ⟨[.d (octD bs)], ?_⟩
  simp only [F_thing_of, runBody, m_thing_of]
  generalize octD bs = O at c ⊢
  simp [ML.LIM, ML.content, ML.contents, ML.clean, ML.avSl, ML.datas, ML.obD, ML.slL, ML.seqOf, ML.dB, ML.dI, ML.dItems, ML.dTup, ML.dLst, ML.dStr, ML.isNone, ML.gIsN, ML.gNeg, ML.gAdd, ML.bInt, ML.tyName, ML.isTy, ML.ioOk, ML.gT, ML.gCons, ML.gNil, ML.fApp, ML.fExt, ML.fPop, c]
end K62
end

section
set_option Elab.async false
set_option linter.all false
set_option maxRecDepth 100000
set_option maxHeartbeats 2000000
namespace K62
open PySem (Str)
open L2 (atI ixN)
open ML
mutual
/-- scalars, texts, tuples of these -/
def okT : D → Prop
  | .none => True
  | .bool _ => True
  | .int _ => True
  | .str z => PySem.PyData.strOk z = true
  | .tuple xs => xs.length ≤ 1000000 ∧ okTs xs
  | .list _ => False
  | .dict _ => False
def okTs : List D → Prop
  | [] => True
  | x :: xs => okT x ∧ okTs xs
end
theorem okTs_mem : ∀ {xs : List D}, okTs xs → ∀ x ∈ xs, okT x
  | [], _, x, h => by cases h
  | y :: ys, h, x, hx => by
    rcases List.mem_cons.mp hx with e | e
    · rw [e]; exact h.1
    · exact okTs_mem h.2 x e
theorem depthAll_mem : ∀ {xs : List D} {x : D}, x ∈ xs → x.depth ≤ PySem.PyData.depthAll xs
  | [], x, h => by cases h
  | y :: ys, x, hx => by
    rw [PySem.PyData.depthAll]
    rcases List.mem_cons.mp hx with e | e
    · rw [e]; omega
    · have := depthAll_mem e; omega
def prD (p : D × D) : D := .tuple [p.1, p.2]
/-- what of a pair is to be looked at, if it can be alike at all -/
def kidsP : D → D → Option (List (D × D))
  | .tuple xs, .tuple ys => if xs.length = ys.length then some (xs.zip ys) else none
  | .none, .none => some []
  | .bool a, .bool b => if a = b then some [] else none
  | .int a, .int b => if a = b then some [] else none
  | .str a, .str b => if a = b then some [] else none
  | _, _ => none
theorem zip_eq : ∀ (xs ys : List D), xs.length = ys.length → ((∀ p ∈ xs.zip ys, p.1 = p.2) ↔ xs = ys)
  | [], [], _ => by simp [ML.LIM, ML.content, ML.contents, ML.clean, ML.avSl, ML.datas, ML.obD, ML.slL, ML.seqOf, ML.dB, ML.dI, ML.dItems, ML.dTup, ML.dLst, ML.dStr, ML.isNone, ML.gIsN, ML.gNeg, ML.gAdd, ML.bInt, ML.tyName, ML.isTy, ML.ioOk, ML.gT, ML.gCons, ML.gNil, ML.fApp, ML.fExt, ML.fPop]
  | [], _ :: _, h => by simp [ML.LIM, ML.content, ML.contents, ML.clean, ML.avSl, ML.datas, ML.obD, ML.slL, ML.seqOf, ML.dB, ML.dI, ML.dItems, ML.dTup, ML.dLst, ML.dStr, ML.isNone, ML.gIsN, ML.gNeg, ML.gAdd, ML.bInt, ML.tyName, ML.isTy, ML.ioOk, ML.gT, ML.gCons, ML.gNil, ML.fApp, ML.fExt, ML.fPop] at h
  | _ :: _, [], h => by simp [ML.LIM, ML.content, ML.contents, ML.clean, ML.avSl, ML.datas, ML.obD, ML.slL, ML.seqOf, ML.dB, ML.dI, ML.dItems, ML.dTup, ML.dLst, ML.dStr, ML.isNone, ML.gIsN, ML.gNeg, ML.gAdd, ML.bInt, ML.tyName, ML.isTy, ML.ioOk, ML.gT, ML.gCons, ML.gNil, ML.fApp, ML.fExt, ML.fPop] at h
  | x :: xs, y :: ys, h => by
    have ih := zip_eq xs ys (by simpa [ML.LIM, ML.content, ML.contents, ML.clean, ML.avSl, ML.datas, ML.obD, ML.slL, ML.seqOf, ML.dB, ML.dI, ML.dItems, ML.dTup, ML.dLst, ML.dStr, ML.isNone, ML.gIsN, ML.gNeg, ML.gAdd, ML.bInt, ML.tyName, ML.isTy, ML.ioOk, ML.gT, ML.gCons, ML.gNil, ML.fApp, ML.fExt, ML.fPop] using h)
    simp only [List.zip_cons_cons, List.forall_mem_cons, ih, List.cons.injEq]
theorem sc_iff {P : Prop} : P ↔ ∃ c : List (D × D), (P ∧ c = []) ∧ ∀ a b, (a, b) ∈ c → a = b := ⟨fun h => ⟨[], ⟨h, rfl⟩, by simp [ML.LIM, ML.content, ML.contents, ML.clean, ML.avSl, ML.datas, ML.obD, ML.slL, ML.seqOf, ML.dB, ML.dI, ML.dItems, ML.dTup, ML.dLst, ML.dStr, ML.isNone, ML.gIsN, ML.gNeg, ML.gAdd, ML.bInt, ML.tyName, ML.isTy, ML.ioOk, ML.gT, ML.gCons, ML.gNil, ML.fApp, ML.fExt, ML.fPop]⟩, fun ⟨_, ⟨h, _⟩, _⟩ => h⟩
theorem kids_eq (a b : D) (ha : okT a) (hb : okT b) : (a = b) ↔ ∃ c, kidsP a b = some c ∧ ∀ p ∈ c, p.1 = p.2 := by
  cases a with
  | none => cases b <;> simp [ML.LIM, ML.content, ML.contents, ML.clean, ML.avSl, ML.datas, ML.obD, ML.slL, ML.seqOf, ML.dB, ML.dI, ML.dItems, ML.dTup, ML.dLst, ML.dStr, ML.isNone, ML.gIsN, ML.gNeg, ML.gAdd, ML.bInt, ML.tyName, ML.isTy, ML.ioOk, ML.gT, ML.gCons, ML.gNil, ML.fApp, ML.fExt, ML.fPop, kidsP]
  | bool x => cases b <;> first | (simp [ML.LIM, ML.content, ML.contents, ML.clean, ML.avSl, ML.datas, ML.obD, ML.slL, ML.seqOf, ML.dB, ML.dI, ML.dItems, ML.dTup, ML.dLst, ML.dStr, ML.isNone, ML.gIsN, ML.gNeg, ML.gAdd, ML.bInt, ML.tyName, ML.isTy, ML.ioOk, ML.gT, ML.gCons, ML.gNil, ML.fApp, ML.fExt, ML.fPop, kidsP]; done) | (simp [ML.LIM, ML.content, ML.contents, ML.clean, ML.avSl, ML.datas, ML.obD, ML.slL, ML.seqOf, ML.dB, ML.dI, ML.dItems, ML.dTup, ML.dLst, ML.dStr, ML.isNone, ML.gIsN, ML.gNeg, ML.gAdd, ML.bInt, ML.tyName, ML.isTy, ML.ioOk, ML.gT, ML.gCons, ML.gNil, ML.fApp, ML.fExt, ML.fPop, kidsP]; exact sc_iff)
  | int x => cases b <;> first | (simp [ML.LIM, ML.content, ML.contents, ML.clean, ML.avSl, ML.datas, ML.obD, ML.slL, ML.seqOf, ML.dB, ML.dI, ML.dItems, ML.dTup, ML.dLst, ML.dStr, ML.isNone, ML.gIsN, ML.gNeg, ML.gAdd, ML.bInt, ML.tyName, ML.isTy, ML.ioOk, ML.gT, ML.gCons, ML.gNil, ML.fApp, ML.fExt, ML.fPop, kidsP]; done) | (simp [ML.LIM, ML.content, ML.contents, ML.clean, ML.avSl, ML.datas, ML.obD, ML.slL, ML.seqOf, ML.dB, ML.dI, ML.dItems, ML.dTup, ML.dLst, ML.dStr, ML.isNone, ML.gIsN, ML.gNeg, ML.gAdd, ML.bInt, ML.tyName, ML.isTy, ML.ioOk, ML.gT, ML.gCons, ML.gNil, ML.fApp, ML.fExt, ML.fPop, kidsP]; exact sc_iff)
  | str x => cases b <;> first | (simp [ML.LIM, ML.content, ML.contents, ML.clean, ML.avSl, ML.datas, ML.obD, ML.slL, ML.seqOf, ML.dB, ML.dI, ML.dItems, ML.dTup, ML.dLst, ML.dStr, ML.isNone, ML.gIsN, ML.gNeg, ML.gAdd, ML.bInt, ML.tyName, ML.isTy, ML.ioOk, ML.gT, ML.gCons, ML.gNil, ML.fApp, ML.fExt, ML.fPop, kidsP]; done) | (simp [ML.LIM, ML.content, ML.contents, ML.clean, ML.avSl, ML.datas, ML.obD, ML.slL, ML.seqOf, ML.dB, ML.dI, ML.dItems, ML.dTup, ML.dLst, ML.dStr, ML.isNone, ML.gIsN, ML.gNeg, ML.gAdd, ML.bInt, ML.tyName, ML.isTy, ML.ioOk, ML.gT, ML.gCons, ML.gNil, ML.fApp, ML.fExt, ML.fPop, kidsP]; exact sc_iff)
  | list xs => exact ha.elim
  | dict xs => exact ha.elim
  | tuple xs =>
    cases b with
    | tuple ys =>
      constructor
      · intro e
        cases e
        refine ⟨xs.zip xs, by simp [ML.LIM, ML.content, ML.contents, ML.clean, ML.avSl, ML.datas, ML.obD, ML.slL, ML.seqOf, ML.dB, ML.dI, ML.dItems, ML.dTup, ML.dLst, ML.dStr, ML.isNone, ML.gIsN, ML.gNeg, ML.gAdd, ML.bInt, ML.tyName, ML.isTy, ML.ioOk, ML.gT, ML.gCons, ML.gNil, ML.fApp, ML.fExt, ML.fPop, kidsP], (zip_eq xs xs rfl).mpr rfl⟩
      · rintro ⟨c, h1, h2⟩
        simp only [kidsP] at h1
        obtain ⟨hl, rfl⟩ := ite_some h1
        rw [(zip_eq xs ys hl).mp h2]
    | list ys => exact hb.elim
    | dict ys => exact hb.elim
    | _ => simp [ML.LIM, ML.content, ML.contents, ML.clean, ML.avSl, ML.datas, ML.obD, ML.slL, ML.seqOf, ML.dB, ML.dI, ML.dItems, ML.dTup, ML.dLst, ML.dStr, ML.isNone, ML.gIsN, ML.gNeg, ML.gAdd, ML.bInt, ML.tyName, ML.isTy, ML.ioOk, ML.gT, ML.gCons, ML.gNil, ML.fApp, ML.fExt, ML.fPop, kidsP]
theorem kids_ok {a b : D} {c : List (D × D)} (ha : okT a) (hb : okT b) (h : kidsP a b = some c) : ∀ p ∈ c, okT p.1 ∧ okT p.2 ∧ p.2.depth < b.depth := by
  intro p hp
  cases a with
  | tuple xs =>
    cases b with
    | tuple ys =>
      simp only [kidsP] at h
      obtain ⟨hl, rfl⟩ := ite_some h
      have h1 := List.of_mem_zip hp
      refine ⟨okTs_mem ha.2 _ h1.1, okTs_mem hb.2 _ h1.2, ?_⟩
      rw [PySem.PyData.depth]
      have := depthAll_mem h1.2
      omega
    | _ => cases h
  | none =>
    cases b <;> first | (cases h; cases hp) | cases h
  | bool x =>
    cases b <;> first | cases h | skip
    simp only [kidsP] at h
    obtain ⟨_, rfl⟩ := ite_some h
    cases hp
  | int x =>
    cases b <;> first | cases h | skip
    simp only [kidsP] at h
    obtain ⟨_, rfl⟩ := ite_some h
    cases hp
  | str x =>
    cases b <;> first | cases h | skip
    simp only [kidsP] at h
    obtain ⟨_, rfl⟩ := ite_some h
    cases hp
  | list xs => exact ha.elim
  | dict xs => exact ha.elim
/-! ### one pair -/
section
variable (s0 s1 s2 s3 : Sl) (bl : List D)
theorem zip_comp (xs ys : List D) (hl : xs.length = ys.length) (hn : ys.length ≤ 1000000) : o__law_same_1 [s0, s1, s2, s3, .o true (.lst bl), .d (.tuple xs), .d (.tuple ys), .un] = .ok (.lst ((xs.zip ys).map prD)) [s0, s1, s2, s3, .o true (.lst bl), .d (.tuple xs), .d (.tuple ys), .un] := by
  have ix : ∀ (zs : List D) (i : Nat), i < zs.length → gIx (.d (.tuple zs)) (.d (nI i)) = zs[i]? := by
    intro zs i hi
    show atI zs (i : Int) = _
    unfold L2.atI L2.ixN
    rw [if_pos (by omega), if_pos (by omega)]
    simp [ML.LIM, ML.content, ML.contents, ML.clean, ML.avSl, ML.datas, ML.obD, ML.slL, ML.seqOf, ML.dB, ML.dI, ML.dItems, ML.dTup, ML.dLst, ML.dStr, ML.isNone, ML.gIsN, ML.gNeg, ML.gAdd, ML.bInt, ML.tyName, ML.isTy, ML.ioOk, ML.gT, ML.gCons, ML.gNil, ML.fApp, ML.fExt, ML.fPop]
  have e := compL_map (g := gN 7) (tt := ret true) (te := m__law_same_c1) (vs := [7]) (e0 := [s0, s1, s2, s3, .o true (.lst bl), .d (.tuple xs), .d (.tuple ys), .un]) (p := fun _ => true) (f := fun d => match d with | .int i => (match (xs.zip ys)[i.toNat]? with | some p => prD p | none => .none) | _ => .none) ((List.range ys.length).map nI) [] (by
    intro d hd
    obtain ⟨i, hi, rfl⟩ := List.mem_map.mp hd
    have hi' : i < ys.length := List.mem_range.mp hi
    refine ⟨[s0, s1, s2, s3, .o true (.lst bl), .d (.tuple xs), .d (.tuple ys), .d (nI i)], by simp [ML.LIM, ML.content, ML.contents, ML.clean, ML.avSl, ML.datas, ML.obD, ML.slL, ML.seqOf, ML.dB, ML.dI, ML.dItems, ML.dTup, ML.dLst, ML.dStr, ML.isNone, ML.gIsN, ML.gNeg, ML.gAdd, ML.bInt, ML.tyName, ML.isTy, ML.ioOk, ML.gT, ML.gCons, ML.gNil, ML.fApp, ML.fExt, ML.fPop], by simp [ML.LIM, ML.content, ML.contents, ML.clean, ML.avSl, ML.datas, ML.obD, ML.slL, ML.seqOf, ML.dB, ML.dI, ML.dItems, ML.dTup, ML.dLst, ML.dStr, ML.isNone, ML.gIsN, ML.gNeg, ML.gAdd, ML.bInt, ML.tyName, ML.isTy, ML.ioOk, ML.gT, ML.gCons, ML.gNil, ML.fApp, ML.fExt, ML.fPop], fun _ => ?_, by simp [ML.LIM, ML.content, ML.contents, ML.clean, ML.avSl, ML.datas, ML.obD, ML.slL, ML.seqOf, ML.dB, ML.dI, ML.dItems, ML.dTup, ML.dLst, ML.dStr, ML.isNone, ML.gIsN, ML.gNeg, ML.gAdd, ML.bInt, ML.tyName, ML.isTy, ML.ioOk, ML.gT, ML.gCons, ML.gNil, ML.fApp, ML.fExt, ML.fPop, wipeE]⟩
    have i1 := ix xs i (by omega)
    have i2 := ix ys i hi'
    rw [List.getElem?_eq_getElem (by omega)] at i1 i2
    have iz : (xs.zip ys)[(i : Int).toNat]? = some (xs[i], ys[i]) := by
      rw [Int.toNat_natCast, List.getElem?_eq_getElem (by rw [List.length_zip]; omega)]
      simp [ML.LIM, ML.content, ML.contents, ML.clean, ML.avSl, ML.datas, ML.obD, ML.slL, ML.seqOf, ML.dB, ML.dI, ML.dItems, ML.dTup, ML.dLst, ML.dStr, ML.isNone, ML.gIsN, ML.gNeg, ML.gAdd, ML.bInt, ML.tyName, ML.isTy, ML.ioOk, ML.gT, ML.gCons, ML.gNil, ML.fApp, ML.fExt, ML.fPop]
    show m__law_same_c1 _ = .ok (match (xs.zip ys)[(i : Int).toNat]? with | some p => prD p | none => .none) _
    rw [iz]
    simp [ML.LIM, ML.content, ML.contents, ML.clean, ML.avSl, ML.datas, ML.obD, ML.slL, ML.seqOf, ML.dB, ML.dI, ML.dItems, ML.dTup, ML.dLst, ML.dStr, ML.isNone, ML.gIsN, ML.gNeg, ML.gAdd, ML.bInt, ML.tyName, ML.isTy, ML.ioOk, ML.gT, ML.gCons, ML.gNil, ML.fApp, ML.fExt, ML.fPop, m__law_same_c1, i1, i2, prD]) (by rw [List.length_nil, List.length_map, List.length_range, Nat.zero_add]; exact lim_ok hn)
  rw [List.filter_eq_self.mpr (fun _ _ => rfl), List.nil_append, List.map_map] at e
  have em : (List.range ys.length).map ((fun d : D => match d with | .int i => (match (xs.zip ys)[i.toNat]? with | some p => prD p | none => .none) | _ => .none) ∘ nI) = (xs.zip ys).map prD := by
    apply List.ext_getElem?
    intro i
    rw [List.getElem?_map, List.getElem?_map]
    by_cases hi : i < ys.length
    · rw [List.getElem?_eq_getElem (by simpa [ML.LIM, ML.content, ML.contents, ML.clean, ML.avSl, ML.datas, ML.obD, ML.slL, ML.seqOf, ML.dB, ML.dI, ML.dItems, ML.dTup, ML.dLst, ML.dStr, ML.isNone, ML.gIsN, ML.gNeg, ML.gAdd, ML.bInt, ML.tyName, ML.isTy, ML.ioOk, ML.gT, ML.gCons, ML.gNil, ML.fApp, ML.fExt, ML.fPop] using hi), List.getElem?_eq_getElem (l := xs.zip ys) (by rw [List.length_zip]; omega)]
      simp only [Option.map_some, List.getElem_range, Function.comp]
      show some (match (xs.zip ys)[(i : Int).toNat]? with | some p => prD p | none => .none) = _
      rw [Int.toNat_natCast, List.getElem?_eq_getElem (by rw [List.length_zip]; omega)]
    · rw [List.getElem?_eq_none (by simpa [ML.LIM, ML.content, ML.contents, ML.clean, ML.avSl, ML.datas, ML.obD, ML.slL, ML.seqOf, ML.dB, ML.dI, ML.dItems, ML.dTup, ML.dLst, ML.dStr, ML.isNone, ML.gIsN, ML.gNeg, ML.gAdd, ML.bInt, ML.tyName, ML.isTy, ML.ioOk, ML.gT, ML.gCons, ML.gNil, ML.fApp, ML.fExt, ML.fPop] using hi), List.getElem?_eq_none (by rw [List.length_zip]; omega)]
      rfl
  rw [em] at e
  have it : iRg rng1 (aD (eBlt bLen (aR 6 (aNil))) (aNil)) [s0, s1, s2, s3, .o true (.lst bl), .d (.tuple xs), .d (.tuple ys), .un] = .ok ((List.range ys.length).map nI) [s0, s1, s2, s3, .o true (.lst bl), .d (.tuple xs), .d (.tuple ys), .un] := by
    rw [iRg_e, bind_e, aD_e, bind_e]
    have hb : eBlt bLen (aR 6 aNil) [s0, s1, s2, s3, .o true (.lst bl), .d (.tuple xs), .d (.tuple ys), .un] = .ok (.int (ys.length : Int)) [s0, s1, s2, s3, .o true (.lst bl), .d (.tuple xs), .d (.tuple ys), .un] := by
      simp [ML.LIM, ML.content, ML.contents, ML.clean, ML.avSl, ML.datas, ML.obD, ML.slL, ML.seqOf, ML.dB, ML.dI, ML.dItems, ML.dTup, ML.dLst, ML.dStr, ML.isNone, ML.gIsN, ML.gNeg, ML.gAdd, ML.bInt, ML.tyName, ML.isTy, ML.ioOk, ML.gT, ML.gCons, ML.gNil, ML.fApp, ML.fExt, ML.fPop, bLen, seqOf]
    rw [hb]
    simp only [bind_e, aNil_e, ret_e, rng1]
    rw [if_pos (by omega)]
    simp only [lift_some, Int.toNat_natCast]
    rw [rng_map]
  simp only [o__law_same_1, oComp, bind_e, it]
  rw [show wipeE [s0, s1, s2, s3, .o true (.lst bl), .d (.tuple xs), .d (.tuple ys), .un] [7] = [s0, s1, s2, s3, .o true (.lst bl), .d (.tuple xs), .d (.tuple ys), .un] from rfl, e]
  rfl
theorem neb : ∀ x y : Bool, gEq true (.d (.bool x)) (.d (.bool y)) = some (.bool (x != y)) := by
  intro x y
  cases x <;> cases y <;> rfl
theorem nei (x y : Int) : gEq true (.d (.int x)) (.d (.int y)) = some (.bool (!(x == y))) := gNe_of rfl rfl rfl
theorem eqOk_str {x : Str} (h : PySem.PyData.strOk x = true) : eqOk (.str x) = true := by
  show (true && (PySem.PyData.strOk x && decide (0 ≤ 64))) = true
  rw [h]; rfl
theorem nes {x y : Str} (h1 : PySem.PyData.strOk x = true) (h2 : PySem.PyData.strOk y = true) : gEq true (.d (.str x)) (.d (.str y)) = some (.bool (!(x == y))) := gNe_of (eqOk_str h1) (eqOk_str h2) rfl
abbrev SE (a b : D) : List Sl := [s0, s1, s2, s3, .o true (.lst bl), .d a, .d b, .un]
theorem same_no (a b : D) (ha : okT a) (hb : okT b) (h : kidsP a b = none) : ∃ e, m__law_same_b2 (SE s0 s1 s2 s3 bl a b) = .rt (.d (.bool false)) e := by
  refine ⟨SE s0 s1 s2 s3 bl a b, ?_⟩
  cases b with
  | none =>
    cases a with
    | none => cases h
    | list xs => exact ha.elim
    | dict xs => exact ha.elim
    | _ => simp [ML.LIM, ML.content, ML.contents, ML.clean, ML.avSl, ML.datas, ML.obD, ML.slL, ML.seqOf, ML.dB, ML.dI, ML.dItems, ML.dTup, ML.dLst, ML.dStr, ML.isNone, ML.gIsN, ML.gNeg, ML.gAdd, ML.bInt, ML.tyName, ML.isTy, ML.ioOk, ML.gT, ML.gCons, ML.gNil, ML.fApp, ML.fExt, ML.fPop, m__law_same_b2, SE]
  | bool y =>
    cases a with
    | bool x =>
      have hne : ¬ x = y := fun z => by simp [ML.LIM, ML.content, ML.contents, ML.clean, ML.avSl, ML.datas, ML.obD, ML.slL, ML.seqOf, ML.dB, ML.dI, ML.dItems, ML.dTup, ML.dLst, ML.dStr, ML.isNone, ML.gIsN, ML.gNeg, ML.gAdd, ML.bInt, ML.tyName, ML.isTy, ML.ioOk, ML.gT, ML.gCons, ML.gNil, ML.fApp, ML.fExt, ML.fPop, kidsP, z] at h
      have g : gEq true (.d (.bool x)) (.d (.bool y)) = some (.bool true) := by
        rw [neb]; cases x <;> cases y <;> simp_all
      simp [ML.LIM, ML.content, ML.contents, ML.clean, ML.avSl, ML.datas, ML.obD, ML.slL, ML.seqOf, ML.dB, ML.dI, ML.dItems, ML.dTup, ML.dLst, ML.dStr, ML.isNone, ML.gIsN, ML.gNeg, ML.gAdd, ML.bInt, ML.tyName, ML.isTy, ML.ioOk, ML.gT, ML.gCons, ML.gNil, ML.fApp, ML.fExt, ML.fPop, m__law_same_b2, SE, neb, g]
    | list xs => exact ha.elim
    | dict xs => exact ha.elim
    | _ => simp [ML.LIM, ML.content, ML.contents, ML.clean, ML.avSl, ML.datas, ML.obD, ML.slL, ML.seqOf, ML.dB, ML.dI, ML.dItems, ML.dTup, ML.dLst, ML.dStr, ML.isNone, ML.gIsN, ML.gNeg, ML.gAdd, ML.bInt, ML.tyName, ML.isTy, ML.ioOk, ML.gT, ML.gCons, ML.gNil, ML.fApp, ML.fExt, ML.fPop, m__law_same_b2, SE, neb]
  | int y =>
    cases a with
    | int x =>
      have hne : ¬ x = y := fun z => by simp [ML.LIM, ML.content, ML.contents, ML.clean, ML.avSl, ML.datas, ML.obD, ML.slL, ML.seqOf, ML.dB, ML.dI, ML.dItems, ML.dTup, ML.dLst, ML.dStr, ML.isNone, ML.gIsN, ML.gNeg, ML.gAdd, ML.bInt, ML.tyName, ML.isTy, ML.ioOk, ML.gT, ML.gCons, ML.gNil, ML.fApp, ML.fExt, ML.fPop, kidsP, z] at h
      simp [ML.LIM, ML.content, ML.contents, ML.clean, ML.avSl, ML.datas, ML.obD, ML.slL, ML.seqOf, ML.dB, ML.dI, ML.dItems, ML.dTup, ML.dLst, ML.dStr, ML.isNone, ML.gIsN, ML.gNeg, ML.gAdd, ML.bInt, ML.tyName, ML.isTy, ML.ioOk, ML.gT, ML.gCons, ML.gNil, ML.fApp, ML.fExt, ML.fPop, m__law_same_b2, SE, neb, nei, hne]
    | list xs => exact ha.elim
    | dict xs => exact ha.elim
    | _ => simp [ML.LIM, ML.content, ML.contents, ML.clean, ML.avSl, ML.datas, ML.obD, ML.slL, ML.seqOf, ML.dB, ML.dI, ML.dItems, ML.dTup, ML.dLst, ML.dStr, ML.isNone, ML.gIsN, ML.gNeg, ML.gAdd, ML.bInt, ML.tyName, ML.isTy, ML.ioOk, ML.gT, ML.gCons, ML.gNil, ML.fApp, ML.fExt, ML.fPop, m__law_same_b2, SE, neb]
  | str y =>
    cases a with
    | str x =>
      have hne : ¬ x = y := fun z => by simp [ML.LIM, ML.content, ML.contents, ML.clean, ML.avSl, ML.datas, ML.obD, ML.slL, ML.seqOf, ML.dB, ML.dI, ML.dItems, ML.dTup, ML.dLst, ML.dStr, ML.isNone, ML.gIsN, ML.gNeg, ML.gAdd, ML.bInt, ML.tyName, ML.isTy, ML.ioOk, ML.gT, ML.gCons, ML.gNil, ML.fApp, ML.fExt, ML.fPop, kidsP, z] at h
      simp [ML.LIM, ML.content, ML.contents, ML.clean, ML.avSl, ML.datas, ML.obD, ML.slL, ML.seqOf, ML.dB, ML.dI, ML.dItems, ML.dTup, ML.dLst, ML.dStr, ML.isNone, ML.gIsN, ML.gNeg, ML.gAdd, ML.bInt, ML.tyName, ML.isTy, ML.ioOk, ML.gT, ML.gCons, ML.gNil, ML.fApp, ML.fExt, ML.fPop, m__law_same_b2, SE, neb, nes ha hb, hne]
    | list xs => exact ha.elim
    | dict xs => exact ha.elim
    | _ => simp [ML.LIM, ML.content, ML.contents, ML.clean, ML.avSl, ML.datas, ML.obD, ML.slL, ML.seqOf, ML.dB, ML.dI, ML.dItems, ML.dTup, ML.dLst, ML.dStr, ML.isNone, ML.gIsN, ML.gNeg, ML.gAdd, ML.bInt, ML.tyName, ML.isTy, ML.ioOk, ML.gT, ML.gCons, ML.gNil, ML.fApp, ML.fExt, ML.fPop, m__law_same_b2, SE, neb]
  | tuple ys =>
    cases a with
    | tuple xs =>
      have hne : ¬ xs.length = ys.length := fun z => by simp [ML.LIM, ML.content, ML.contents, ML.clean, ML.avSl, ML.datas, ML.obD, ML.slL, ML.seqOf, ML.dB, ML.dI, ML.dItems, ML.dTup, ML.dLst, ML.dStr, ML.isNone, ML.gIsN, ML.gNeg, ML.gAdd, ML.bInt, ML.tyName, ML.isTy, ML.ioOk, ML.gT, ML.gCons, ML.gNil, ML.fApp, ML.fExt, ML.fPop, kidsP, z] at h
      have hne' : ¬ (xs.length : Int) = (ys.length : Int) := by omega
      simp [ML.LIM, ML.content, ML.contents, ML.clean, ML.avSl, ML.datas, ML.obD, ML.slL, ML.seqOf, ML.dB, ML.dI, ML.dItems, ML.dTup, ML.dLst, ML.dStr, ML.isNone, ML.gIsN, ML.gNeg, ML.gAdd, ML.bInt, ML.tyName, ML.isTy, ML.ioOk, ML.gT, ML.gCons, ML.gNil, ML.fApp, ML.fExt, ML.fPop, m__law_same_b2, SE, bLen, seqOf, nei, hne']
    | list xs => exact ha.elim
    | dict xs => exact ha.elim
    | _ => simp [ML.LIM, ML.content, ML.contents, ML.clean, ML.avSl, ML.datas, ML.obD, ML.slL, ML.seqOf, ML.dB, ML.dI, ML.dItems, ML.dTup, ML.dLst, ML.dStr, ML.isNone, ML.gIsN, ML.gNeg, ML.gAdd, ML.bInt, ML.tyName, ML.isTy, ML.ioOk, ML.gT, ML.gCons, ML.gNil, ML.fApp, ML.fExt, ML.fPop, m__law_same_b2, SE]
  | list ys => exact hb.elim
  | dict ys => exact hb.elim
theorem same_yes (a b : D) (ha : okT a) (hb : okT b) (c : List (D × D)) (h : kidsP a b = some c) (hl : bl.length + c.length ≤ 10000000) : m__law_same_b2 (SE s0 s1 s2 s3 bl a b) = .nx (SE s0 s1 s2 s3 (bl ++ c.map prD) a b) := by
  cases b with
  | none =>
    cases a with
    | none => cases h; simp [ML.LIM, ML.content, ML.contents, ML.clean, ML.avSl, ML.datas, ML.obD, ML.slL, ML.seqOf, ML.dB, ML.dI, ML.dItems, ML.dTup, ML.dLst, ML.dStr, ML.isNone, ML.gIsN, ML.gNeg, ML.gAdd, ML.bInt, ML.tyName, ML.isTy, ML.ioOk, ML.gT, ML.gCons, ML.gNil, ML.fApp, ML.fExt, ML.fPop, m__law_same_b2, SE]
    | _ => cases h
  | bool y =>
    cases a with
    | bool x =>
      simp only [kidsP] at h
      obtain ⟨rfl, rfl⟩ := ite_some h
      have e : (x != x) = false := by cases x <;> rfl
      simp [ML.LIM, ML.content, ML.contents, ML.clean, ML.avSl, ML.datas, ML.obD, ML.slL, ML.seqOf, ML.dB, ML.dI, ML.dItems, ML.dTup, ML.dLst, ML.dStr, ML.isNone, ML.gIsN, ML.gNeg, ML.gAdd, ML.bInt, ML.tyName, ML.isTy, ML.ioOk, ML.gT, ML.gCons, ML.gNil, ML.fApp, ML.fExt, ML.fPop, m__law_same_b2, SE, neb, e]
    | _ => cases h
  | int y =>
    cases a with
    | int x =>
      simp only [kidsP] at h
      obtain ⟨rfl, rfl⟩ := ite_some h
      simp [ML.LIM, ML.content, ML.contents, ML.clean, ML.avSl, ML.datas, ML.obD, ML.slL, ML.seqOf, ML.dB, ML.dI, ML.dItems, ML.dTup, ML.dLst, ML.dStr, ML.isNone, ML.gIsN, ML.gNeg, ML.gAdd, ML.bInt, ML.tyName, ML.isTy, ML.ioOk, ML.gT, ML.gCons, ML.gNil, ML.fApp, ML.fExt, ML.fPop, m__law_same_b2, SE, neb, nei]
    | _ => cases h
  | str y =>
    cases a with
    | str x =>
      simp only [kidsP] at h
      obtain ⟨rfl, rfl⟩ := ite_some h
      simp [ML.LIM, ML.content, ML.contents, ML.clean, ML.avSl, ML.datas, ML.obD, ML.slL, ML.seqOf, ML.dB, ML.dI, ML.dItems, ML.dTup, ML.dLst, ML.dStr, ML.isNone, ML.gIsN, ML.gNeg, ML.gAdd, ML.bInt, ML.tyName, ML.isTy, ML.ioOk, ML.gT, ML.gCons, ML.gNil, ML.fApp, ML.fExt, ML.fPop, m__law_same_b2, SE, neb, nes ha hb]
    | _ => cases h
  | tuple ys =>
    cases a with
    | tuple xs =>
      simp only [kidsP] at h
      obtain ⟨he, rfl⟩ := ite_some h
      have zc := zip_comp s0 s1 s2 s3 bl xs ys he hb.1
      have he' : (xs.length : Int) = (ys.length : Int) := by omega
      rw [List.length_zip] at hl
      have hl2 : bl.length + min xs.length ys.length ≤ 10000000 := hl
      simp [ML.LIM, ML.content, ML.contents, ML.clean, ML.avSl, ML.datas, ML.obD, ML.slL, ML.seqOf, ML.dB, ML.dI, ML.dItems, ML.dTup, ML.dLst, ML.dStr, ML.isNone, ML.gIsN, ML.gNeg, ML.gAdd, ML.bInt, ML.tyName, ML.isTy, ML.ioOk, ML.gT, ML.gCons, ML.gNil, ML.fApp, ML.fExt, ML.fPop, m__law_same_b2, SE, bLen, seqOf, nei, he', zc, hl2]
    | _ => cases h
  | list ys => exact hb.elim
  | dict ys => exact hb.elim
/-! ### a level, all levels -/
def allP (ps : List (D × D)) : Prop := ∀ p ∈ ps, p.1 = p.2
def wgt (ps : List (D × D)) : Nat := nods (ps.map (·.2))
def lvl : List (D × D) → Option (List (D × D))
  | [] => some []
  | p :: r => (kidsP p.1 p.2).bind fun c => (lvl r).map fun q => c ++ q
def okP (m : Nat) (ps : List (D × D)) : Prop := ∀ p ∈ ps, okT p.1 ∧ okT p.2 ∧ p.2.depth < m
theorem kids_wgt {a b : D} {c : List (D × D)} (h : kidsP a b = some c) : wgt c + 1 ≤ nod b ∧ c.length + 1 ≤ nod b := by
  have np := nod_pos b
  unfold wgt
  cases a with
  | tuple xs =>
    cases b with
    | tuple ys =>
      simp only [kidsP] at h
      obtain ⟨hl, rfl⟩ := ite_some h
      rw [nod]
      have e : (xs.zip ys).map (·.2) = ys := List.map_snd_zip (by omega)
      rw [e]
      have := nods_len ys
      rw [List.length_zip]
      omega
    | _ => cases h
  | none => cases b <;> first | (cases h; simp [ML.LIM, ML.content, ML.contents, ML.clean, ML.avSl, ML.datas, ML.obD, ML.slL, ML.seqOf, ML.dB, ML.dI, ML.dItems, ML.dTup, ML.dLst, ML.dStr, ML.isNone, ML.gIsN, ML.gNeg, ML.gAdd, ML.bInt, ML.tyName, ML.isTy, ML.ioOk, ML.gT, ML.gCons, ML.gNil, ML.fApp, ML.fExt, ML.fPop, nods]; omega) | cases h
  | bool x =>
    cases b <;> first | cases h | skip
    simp only [kidsP] at h
    obtain ⟨_, rfl⟩ := ite_some h
    simp [ML.LIM, ML.content, ML.contents, ML.clean, ML.avSl, ML.datas, ML.obD, ML.slL, ML.seqOf, ML.dB, ML.dI, ML.dItems, ML.dTup, ML.dLst, ML.dStr, ML.isNone, ML.gIsN, ML.gNeg, ML.gAdd, ML.bInt, ML.tyName, ML.isTy, ML.ioOk, ML.gT, ML.gCons, ML.gNil, ML.fApp, ML.fExt, ML.fPop, nods]; omega
  | int x =>
    cases b <;> first | cases h | skip
    simp only [kidsP] at h
    obtain ⟨_, rfl⟩ := ite_some h
    simp [ML.LIM, ML.content, ML.contents, ML.clean, ML.avSl, ML.datas, ML.obD, ML.slL, ML.seqOf, ML.dB, ML.dI, ML.dItems, ML.dTup, ML.dLst, ML.dStr, ML.isNone, ML.gIsN, ML.gNeg, ML.gAdd, ML.bInt, ML.tyName, ML.isTy, ML.ioOk, ML.gT, ML.gCons, ML.gNil, ML.fApp, ML.fExt, ML.fPop, nods]; omega
  | str x =>
    cases b <;> first | cases h | skip
    simp only [kidsP] at h
    obtain ⟨_, rfl⟩ := ite_some h
    simp [ML.LIM, ML.content, ML.contents, ML.clean, ML.avSl, ML.datas, ML.obD, ML.slL, ML.seqOf, ML.dB, ML.dI, ML.dItems, ML.dTup, ML.dLst, ML.dStr, ML.isNone, ML.gIsN, ML.gNeg, ML.gAdd, ML.bInt, ML.tyName, ML.isTy, ML.ioOk, ML.gT, ML.gCons, ML.gNil, ML.fApp, ML.fExt, ML.fPop, nods]; omega
  | list xs => cases h
  | dict xs => cases h
theorem lvl_loop : ∀ (ps : List (D × D)) (m : Nat) (bl : List D) (s5 s6 : Sl), okP m ps → bl.length + wgt ps ≤ 10000000 →
    (∀ q, lvl ps = some q → ∃ s5' s6', forL (gT (gCons (gN 5) (gCons (gN 6) (gNil)))) m__law_same_b2 (ps.map prD) [s0, s1, s2, s3, .o true (.lst bl), s5, s6, .un] = .nx [s0, s1, s2, s3, .o true (.lst (bl ++ q.map prD)), s5', s6', .un]) ∧
    (lvl ps = none → ∃ e, forL (gT (gCons (gN 5) (gCons (gN 6) (gNil)))) m__law_same_b2 (ps.map prD) [s0, s1, s2, s3, .o true (.lst bl), s5, s6, .un] = .rt (.d (.bool false)) e) := by
  intro ps
  induction ps with
  | nil =>
    intro m bl s5 s6 _ _
    exact ⟨fun q h => by cases h; exact ⟨s5, s6, by simp [ML.LIM, ML.content, ML.contents, ML.clean, ML.avSl, ML.datas, ML.obD, ML.slL, ML.seqOf, ML.dB, ML.dI, ML.dItems, ML.dTup, ML.dLst, ML.dStr, ML.isNone, ML.gIsN, ML.gNeg, ML.gAdd, ML.bInt, ML.tyName, ML.isTy, ML.ioOk, ML.gT, ML.gCons, ML.gNil, ML.fApp, ML.fExt, ML.fPop, forL]⟩, fun h => (by cases h)⟩
  | cons p r ih =>
    intro m bl s5 s6 hp hw
    obtain ⟨a, b⟩ := p
    have h0 := hp (a, b) List.mem_cons_self
    have hr : okP m r := fun x hx => hp x (List.mem_cons_of_mem _ hx)
    have ew : wgt ((a, b) :: r) = nod b + wgt r := by unfold wgt; rw [List.map_cons, nods]
    rw [ew] at hw
    have g : gT (gCons (gN 5) (gCons (gN 6) (gNil))) (prD (a, b)) [s0, s1, s2, s3, .o true (.lst bl), s5, s6, .un] = some (SE s0 s1 s2 s3 bl a b) := rfl
    rw [List.map_cons, forL, g]
    dsimp only
    cases hk : kidsP a b with
    | none =>
      obtain ⟨e, he⟩ := same_no s0 s1 s2 s3 bl a b h0.1 h0.2.1 hk
      rw [he]
      have hn : lvl ((a, b) :: r) = none := by rw [lvl, hk]; rfl
      rw [hn]
      exact ⟨fun q z => (by cases z), fun _ => ⟨e, rfl⟩⟩
    | some c =>
      obtain ⟨w1, w2⟩ := kids_wgt hk
      rw [same_yes s0 s1 s2 s3 bl a b h0.1 h0.2.1 c hk (by omega)]
      dsimp only
      have i := ih m (bl ++ c.map prD) (.d a) (.d b) hr (by rw [List.length_append, List.length_map]; omega)
      have hn : lvl ((a, b) :: r) = (lvl r).map fun q => c ++ q := by rw [lvl, hk]; rfl
      rw [hn]
      refine ⟨fun q z => ?_, fun z => i.2 (Option.map_eq_none_iff.mp z)⟩
      obtain ⟨q', hq, rfl⟩ := Option.map_eq_some_iff.mp z
      obtain ⟨s5', s6', e⟩ := i.1 q' hq
      exact ⟨s5', s6', by rw [e]; simp [ML.LIM, ML.content, ML.contents, ML.clean, ML.avSl, ML.datas, ML.obD, ML.slL, ML.seqOf, ML.dB, ML.dI, ML.dItems, ML.dTup, ML.dLst, ML.dStr, ML.isNone, ML.gIsN, ML.gNeg, ML.gAdd, ML.bInt, ML.tyName, ML.isTy, ML.ioOk, ML.gT, ML.gCons, ML.gNil, ML.fApp, ML.fExt, ML.fPop]⟩
theorem lvl_eq : ∀ (ps : List (D × D)) (m : Nat), okP (m + 1) ps → (allP ps ↔ ∃ q, lvl ps = some q ∧ allP q) ∧ ∀ q, lvl ps = some q → okP m q ∧ wgt q ≤ wgt ps
  | [], m, _ => ⟨⟨fun _ => ⟨[], rfl, fun _ h => (by cases h)⟩, fun _ _ h => (by cases h)⟩, fun q h => by cases h; exact ⟨fun _ h => (by cases h), Nat.le_refl _⟩⟩
  | (a, b) :: r, m, hp => by
    have h0 := hp (a, b) List.mem_cons_self
    obtain ⟨i1, i2⟩ := lvl_eq r m (fun x hx => hp x (List.mem_cons_of_mem _ hx))
    have ke := kids_eq a b h0.1 h0.2.1
    have ew : wgt ((a, b) :: r) = nod b + wgt r := by unfold wgt; rw [List.map_cons, nods]
    constructor
    · constructor
      · intro h
        obtain ⟨c, hc, hall⟩ := ke.mp (h (a, b) List.mem_cons_self)
        obtain ⟨q, hq, hq2⟩ := i1.mp (fun x hx => h x (List.mem_cons_of_mem _ hx))
        refine ⟨c ++ q, by rw [lvl, hc, Option.bind_some, hq]; rfl, fun x hx => ?_⟩
        rcases List.mem_append.mp hx with e | e
        · exact hall x e
        · exact hq2 x e
      · rintro ⟨z, hz, hall⟩
        rw [lvl] at hz
        obtain ⟨c, hc, hz⟩ := Option.bind_eq_some_iff.mp hz
        obtain ⟨q, hq, rfl⟩ := Option.map_eq_some_iff.mp hz
        intro x hx
        rcases List.mem_cons.mp hx with e | e
        · subst e
          exact ke.mpr ⟨c, hc, fun y hy => hall y (List.mem_append_left _ hy)⟩
        · exact i1.mpr ⟨q, hq, fun y hy => hall y (List.mem_append_right _ hy)⟩ x e
    · intro z hz
      rw [lvl] at hz
      obtain ⟨c, hc, hz⟩ := Option.bind_eq_some_iff.mp hz
      obtain ⟨q, hq, rfl⟩ := Option.map_eq_some_iff.mp hz
      obtain ⟨w1, w2⟩ := kids_wgt (show kidsP a b = some c from hc)
      obtain ⟨o, w3⟩ := i2 q hq
      refine ⟨fun x hx => ?_, ?_⟩
      · rcases List.mem_append.mp hx with e | e
        · obtain ⟨k1, k2, k3⟩ := kids_ok h0.1 h0.2.1 hc x e
          exact ⟨k1, k2, by have := h0.2.2; omega⟩
        · exact o x e
      · rw [ew]
        unfold wgt at *
        rw [List.map_append, nods_append]
        omega
theorem all_loop : ∀ (ds : List D) (ps : List (D × D)) (s3 s4 s5 s6 : Sl), okP ds.length ps → wgt ps ≤ 10000000 →
    (allP ps → ∃ s3' s4' s5' s6', forL (gN 3) m__law_same_b4 ds [s0, s1, .d (.list (ps.map prD)), s3, s4, s5, s6, .un] = .nx [s0, s1, .d (.list []), s3', s4', s5', s6', .un]) ∧
    (¬ allP ps → ∃ e, forL (gN 3) m__law_same_b4 ds [s0, s1, .d (.list (ps.map prD)), s3, s4, s5, s6, .un] = .rt (.d (.bool false)) e) := by
  intro ds
  induction ds with
  | nil =>
    intro ps s3 s4 s5 s6 hp hw
    cases ps with
    | nil => exact ⟨fun _ => ⟨s3, s4, s5, s6, by simp [ML.LIM, ML.content, ML.contents, ML.clean, ML.avSl, ML.datas, ML.obD, ML.slL, ML.seqOf, ML.dB, ML.dI, ML.dItems, ML.dTup, ML.dLst, ML.dStr, ML.isNone, ML.gIsN, ML.gNeg, ML.gAdd, ML.bInt, ML.tyName, ML.isTy, ML.ioOk, ML.gT, ML.gCons, ML.gNil, ML.fApp, ML.fExt, ML.fPop, forL]⟩, fun h => absurd (fun _ h => (by cases h)) h⟩
    | cons p r => have := (hp p List.mem_cons_self).2.2; simp [ML.LIM, ML.content, ML.contents, ML.clean, ML.avSl, ML.datas, ML.obD, ML.slL, ML.seqOf, ML.dB, ML.dI, ML.dItems, ML.dTup, ML.dLst, ML.dStr, ML.isNone, ML.gIsN, ML.gNeg, ML.gAdd, ML.bInt, ML.tyName, ML.isTy, ML.ioOk, ML.gT, ML.gCons, ML.gNil, ML.fApp, ML.fExt, ML.fPop] at this
  | cons d ds ih =>
    intro ps s3 s4 s5 s6 hp hw
    rw [forL, gN_e]
    simp only [List.set]
    obtain ⟨l1, l2⟩ := lvl_eq ps ds.length hp
    have ll := lvl_loop s0 s1 (.d (.list (ps.map prD))) (.d d) ps _ [] s5 s6 hp (by simpa [ML.LIM, ML.content, ML.contents, ML.clean, ML.avSl, ML.datas, ML.obD, ML.slL, ML.seqOf, ML.dB, ML.dI, ML.dItems, ML.dTup, ML.dLst, ML.dStr, ML.isNone, ML.gIsN, ML.gNeg, ML.gAdd, ML.bInt, ML.tyName, ML.isTy, ML.ioOk, ML.gT, ML.gCons, ML.gNil, ML.fApp, ML.fExt, ML.fPop] using hw)
    have st : m__law_same_w3 [s0, s1, .d (.list (ps.map prD)), .d d, .o true (.lst []), s5, s6, .un] = forL (gT (gCons (gN 5) (gCons (gN 6) (gNil)))) m__law_same_b2 (ps.map prD) [s0, s1, .d (.list (ps.map prD)), .d d, .o true (.lst []), s5, s6, .un] := by
      simp [ML.LIM, ML.content, ML.contents, ML.clean, ML.avSl, ML.datas, ML.obD, ML.slL, ML.seqOf, ML.dB, ML.dI, ML.dItems, ML.dTup, ML.dLst, ML.dStr, ML.isNone, ML.gIsN, ML.gNeg, ML.gAdd, ML.bInt, ML.tyName, ML.isTy, ML.ioOk, ML.gT, ML.gCons, ML.gNil, ML.fApp, ML.fExt, ML.fPop, m__law_same_w3]
    have b : m__law_same_b4 [s0, s1, .d (.list (ps.map prD)), .d d, s4, s5, s6, .un] = sSeq m__law_same_w3 (sSet 2 (eV 4)) [s0, s1, .d (.list (ps.map prD)), .d d, .o true (.lst []), s5, s6, .un] := by
      rw [m__law_same_b4, sSeq_e]
      simp [ML.LIM, ML.content, ML.contents, ML.clean, ML.avSl, ML.datas, ML.obD, ML.slL, ML.seqOf, ML.dB, ML.dI, ML.dItems, ML.dTup, ML.dLst, ML.dStr, ML.isNone, ML.gIsN, ML.gNeg, ML.gAdd, ML.bInt, ML.tyName, ML.isTy, ML.ioOk, ML.gT, ML.gCons, ML.gNil, ML.fApp, ML.fExt, ML.fPop, -sSeq_e]
    rw [b, sSeq_e, st]
    cases hq : lvl ps with
    | none =>
      obtain ⟨e, he⟩ := ll.2 hq
      rw [he]
      refine ⟨fun h => ?_, fun _ => ⟨e, rfl⟩⟩
      obtain ⟨q, hq2, _⟩ := l1.mp h
      rw [hq] at hq2; cases hq2
    | some q =>
      obtain ⟨s5', s6', he⟩ := ll.1 q hq
      rw [he]
      obtain ⟨o, w⟩ := l2 q hq
      dsimp only
      rw [List.nil_append]
      have fz : sSet 2 (eV 4) [s0, s1, .d (.list (ps.map prD)), .d d, .o true (.lst (q.map prD)), s5', s6', .un] = .nx [s0, s1, .d (.list (q.map prD)), .d d, .d (.list (q.map prD)), s5', s6', .un] := by simp [ML.LIM, ML.content, ML.contents, ML.clean, ML.avSl, ML.datas, ML.obD, ML.slL, ML.seqOf, ML.dB, ML.dI, ML.dItems, ML.dTup, ML.dLst, ML.dStr, ML.isNone, ML.gIsN, ML.gNeg, ML.gAdd, ML.bInt, ML.tyName, ML.isTy, ML.ioOk, ML.gT, ML.gCons, ML.gNil, ML.fApp, ML.fExt, ML.fPop]
      rw [fz]
      dsimp only
      have i := ih q (.d d) (.d (.list (q.map prD))) s5' s6' o (by omega)
      refine ⟨fun h => ?_, fun h => ?_⟩
      · obtain ⟨q2, hq2, ha⟩ := l1.mp h
        rw [hq] at hq2
        cases hq2
        exact i.1 ha
      · exact i.2 fun ha => h (l1.mpr ⟨q, hq, ha⟩)
end
theorem same_ok (x y : D) (hx : okT x) (hy : okT y) (hd : y.depth < 30) (hn : nod y ≤ 10000000) : (x = y → ∃ o, F__law_same [.d x, .d y] = .ok (.d (.bool true)) o) ∧ (x ≠ y → ∃ o, F__law_same [.d x, .d y] = .ok (.d (.bool false)) o) := by
  have okp : okP 30 [(x, y)] := fun p hp => by
    have e := List.mem_singleton.mp hp
    subst e
    exact ⟨hx, hy, hd⟩
  have w0 : wgt [(x, y)] ≤ 10000000 := by unfold wgt; simp [ML.LIM, ML.content, ML.contents, ML.clean, ML.avSl, ML.datas, ML.obD, ML.slL, ML.seqOf, ML.dB, ML.dI, ML.dItems, ML.dTup, ML.dLst, ML.dStr, ML.isNone, ML.gIsN, ML.gNeg, ML.gAdd, ML.bInt, ML.tyName, ML.isTy, ML.ioOk, ML.gT, ML.gCons, ML.gNil, ML.fApp, ML.fExt, ML.fPop, nods]; omega
  have al := all_loop (.d x) (.d y) ((List.range 30).map nI) [(x, y)] .un .un .un .un (by simpa [ML.LIM, ML.content, ML.contents, ML.clean, ML.avSl, ML.datas, ML.obD, ML.slL, ML.seqOf, ML.dB, ML.dI, ML.dItems, ML.dTup, ML.dLst, ML.dStr, ML.isNone, ML.gIsN, ML.gNeg, ML.gAdd, ML.bInt, ML.tyName, ML.isTy, ML.ioOk, ML.gT, ML.gCons, ML.gNil, ML.fApp, ML.fExt, ML.fPop] using okp) w0
  have ap : allP [(x, y)] ↔ x = y := by unfold allP; simp [ML.LIM, ML.content, ML.contents, ML.clean, ML.avSl, ML.datas, ML.obD, ML.slL, ML.seqOf, ML.dB, ML.dI, ML.dItems, ML.dTup, ML.dLst, ML.dStr, ML.isNone, ML.gIsN, ML.gNeg, ML.gAdd, ML.bInt, ML.tyName, ML.isTy, ML.ioOk, ML.gT, ML.gCons, ML.gNil, ML.fApp, ML.fExt, ML.fPop]
  have wl : m__law_same_w5 [.d x, .d y, .d (.list [prD (x, y)]), .un, .un, .un, .un, .un] = forL (gN 3) m__law_same_b4 ((List.range 30).map nI) [.d x, .d y, .d (.list [prD (x, y)]), .un, .un, .un, .un, .un] := by
    rw [m__law_same_w5, sFor_e, xS_e, iRg_e, bind_e, aD_e, bind_e, eC_e]
    simp only [bind_e, aNil_e, ret_e, rng1]
    rw [if_pos (by decide)]
    simp only [lift_some]
    rw [show ((30 : Int).toNat) = 30 from rfl, rng_map]
  have p : sSet 2 (eO (oLst (aD (eTup (aD (eV 0) (aD (eV 1) (aNil)))) (aNil)))) [.d x, .d y, .un, .un, .un, .un, .un, .un] = .nx [.d x, .d y, .d (.list [prD (x, y)]), .un, .un, .un, .un, .un] := by
    simp [ML.LIM, ML.content, ML.contents, ML.clean, ML.avSl, ML.datas, ML.obD, ML.slL, ML.seqOf, ML.dB, ML.dI, ML.dItems, ML.dTup, ML.dLst, ML.dStr, ML.isNone, ML.gIsN, ML.gNeg, ML.gAdd, ML.bInt, ML.tyName, ML.isTy, ML.ioOk, ML.gT, ML.gCons, ML.gNil, ML.fApp, ML.fExt, ML.fPop, prD]
  have io : ∀ e, ioOk [.d x, .d y] e = true := fun e => rfl
  constructor
  · intro h
    obtain ⟨a3, a4, a5, a6, e⟩ := al.1 (ap.mpr h)
    have e' := wl.trans e
    have g0 : gEq false (.d (.list [])) (.o true (.lst [])) = some (.bool true) := by
      show (if eqOk (.list []) = true ∧ eqOk (.list []) = true then some (PySem.PyData.bool (false ^^ PySem.PyData.eqv (.list []) (.list []))) else none) = _
      rw [if_pos ⟨by decide +kernel, by decide +kernel⟩]; rfl
    refine ⟨[.d x, .d y], ?_⟩
    simp only [F__law_same, runBody, m__law_same]
    simp [ML.LIM, ML.content, ML.contents, ML.clean, ML.avSl, ML.datas, ML.obD, ML.slL, ML.seqOf, ML.dB, ML.dI, ML.dItems, ML.dTup, ML.dLst, ML.dStr, ML.isNone, ML.gIsN, ML.gNeg, ML.gAdd, ML.bInt, ML.tyName, ML.isTy, ML.gT, ML.gCons, ML.gNil, ML.fApp, ML.fExt, ML.fPop, p, e', g0, io, -sSet_e, -ioOk]
  · intro h
    obtain ⟨e2, e⟩ := al.2 fun z => h (ap.mp z)
    have e' := wl.trans e
    refine ⟨e2.take 2, ?_⟩
    simp only [F__law_same, runBody, m__law_same]
    simp [ML.LIM, ML.content, ML.contents, ML.clean, ML.avSl, ML.datas, ML.obD, ML.slL, ML.seqOf, ML.dB, ML.dI, ML.dItems, ML.dTup, ML.dLst, ML.dStr, ML.isNone, ML.gIsN, ML.gNeg, ML.gAdd, ML.bInt, ML.tyName, ML.isTy, ML.gT, ML.gCons, ML.gNil, ML.fApp, ML.fExt, ML.fPop, p, e', io, -sSet_e, -ioOk]
end K62
end

section
set_option Elab.async false
set_option linter.all false
set_option maxRecDepth 100000
set_option maxHeartbeats 2000000
namespace K62
open PySem (Str)
open L2 (atI ixN)
open ML
/-! ## _law_told -/
theorem told_yes (d : D) (hd : allF d) (hn : nod d ≤ 800) (bs : List Nat) (he : encO d = some bs) : ∃ o, F__law_told [.d d] = .ok (.d (.tuple [.str "told", octD bs])) o := by
  obtain ⟨o, h⟩ := octets_some d hd hn (fun ns e x hx => Nat.lt_trans (enc_lt d ns e x hx) (by decide)) bs he
  have c : eRv (callM F_octets_of (aD (eV 0) aNil)) [.d d, .d (.str "told"), .d .none, .un] = .ok (octD bs) [.d d, .d (.str "told"), .d .none, .un] := call1 rfl h rfl
  refine ⟨[.d d], ?_⟩
  have b : m__law_told_b1 [.d d, .d (.str "told"), .d .none, .un] = .nx [.d d, .d (.str "told"), .d (octD bs), .un] := by
    rw [m__law_told_b1, sSet_e, xS_e, c]; rfl
  have w : m__law_told_w3 [.d d, .d (.str "told"), .d .none, .un] = .nx [.d d, .d (.str "told"), .d (octD bs), .un] := by
    rw [m__law_told_w3, sTryAs, b]
  simp only [F__law_told, runBody, m__law_told]
  generalize octD bs = O at w ⊢
  simp [ML.LIM, ML.content, ML.contents, ML.clean, ML.avSl, ML.datas, ML.obD, ML.slL, ML.seqOf, ML.dB, ML.dI, ML.dItems, ML.dTup, ML.dLst, ML.dStr, ML.isNone, ML.gIsN, ML.gNeg, ML.gAdd, ML.bInt, ML.tyName, ML.isTy, ML.ioOk, ML.gT, ML.gCons, ML.gNil, ML.fApp, ML.fExt, ML.fPop, w]
theorem told_no (d : D) (hd : allF d) (hn : nod d ≤ 800) (he : encO d = none) : ∃ o, F__law_told [.d d] = .ok (.d (.tuple [.str "NoThing", .none])) o := by
  obtain ⟨o, h⟩ := octets_none d hd hn he
  have c : eRv (callM F_octets_of (aD (eV 0) aNil)) [.d d, .d (.str "told"), .d .none, .un] = .ex "NoThing" [.d d, .d (.str "told"), .d .none, .un] := call1x rfl h
  refine ⟨[.d d], ?_⟩
  have b : m__law_told_b1 [.d d, .d (.str "told"), .d .none, .un] = .ex "NoThing" [.d d, .d (.str "told"), .d .none, .un] := by
    rw [m__law_told_b1, sSet_e, xS_e, c]
  have w : m__law_told_w3 [.d d, .d (.str "told"), .d .none, .un] = .nx [.d d, .d (.str "NoThing"), .d .none, .un] := by
    rw [m__law_told_w3, sTryAs, b]
    rfl
  simp only [F__law_told, runBody, m__law_told]
  simp [ML.LIM, ML.content, ML.contents, ML.clean, ML.avSl, ML.datas, ML.obD, ML.slL, ML.seqOf, ML.dB, ML.dI, ML.dItems, ML.dTup, ML.dLst, ML.dStr, ML.isNone, ML.gIsN, ML.gNeg, ML.gAdd, ML.bInt, ML.tyName, ML.isTy, ML.ioOk, ML.gT, ML.gCons, ML.gNil, ML.fApp, ML.fExt, ML.fPop, w]
/-! ## the numbers -/
abbrev BN : Nat := 2147483648
theorem sm_nn (i : Int) (h1 : 0 ≤ i) (h2 : i < 2147483648) : small i = true := by
  unfold small
  exact decide_eq_true (by omega)
section
variable (sc : Sl) (cell rest : Int) (th k : Nat) (f s6 : Sl)
theorem nb1 : ∃ z : Int, 0 ≤ z ∧ z < 2147483647 ∧ sSet 6 (e2 gMod (qD (e2 gMul (qD (e2 gAdd (qD (e2 gAdd (qD (e2 gAdd (qD (e2 gMod (qR 2) (qD (eC (.int 2147483629))))) (qD (e2 gMul (qD (eC (.int 7919))) (qR 5))))) (qD (e2 gMul (qD (eC (.int 611953))) (qR 1))))) (qD (eC (.int 1))))) (qD (eC (.int 48271))))) (qD (eC (.int 2147483647)))) [sc, .d (nI th), .d (.int cell), .d (.int rest), f, .d (nI k), s6] = .nx [sc, .d (nI th), .d (.int cell), .d (.int rest), f, .d (nI k), .d (.int z)] := by
  have m1 : gMul (.d (.int 7919)) (.d (.int (k : Int))) = some (.int (7919 * (k : Int))) := gm1 _ _ (by decide +kernel)
  have m2 : gMul (.d (.int 611953)) (.d (.int (th : Int))) = some (.int (611953 * (th : Int))) := gm1 _ _ (by decide +kernel)
  have m3 : gMul (.d (.int (cell % 2147483629 + 7919 * (k : Int) + 611953 * (th : Int) + 1))) (.d (.int 48271)) = some (.int ((cell % 2147483629 + 7919 * (k : Int) + 611953 * (th : Int) + 1) * 48271)) := gm _ _ (by decide +kernel)
  have ek : nI k = .int (k : Int) := rfl
  have eth : nI th = .int (th : Int) := rfl
  refine ⟨(cell % 2147483629 + 7919 * (k : Int) + 611953 * (th : Int) + 1) * 48271 % 2147483647, Int.emod_nonneg _ (by decide), Int.emod_lt_of_pos _ (by decide), ?_⟩
  simp [ML.LIM, ML.content, ML.contents, ML.clean, ML.avSl, ML.datas, ML.obD, ML.slL, ML.seqOf, ML.dB, ML.dI, ML.dItems, ML.dTup, ML.dLst, ML.dStr, ML.isNone, ML.gIsN, ML.gNeg, ML.gAdd, ML.bInt, ML.tyName, ML.isTy, ML.ioOk, ML.gT, ML.gCons, ML.gNil, ML.fApp, ML.fExt, ML.fPop, ek, eth, m1, m2, m3]
theorem nb2 (a b c : Int) (hb : 0 < b ∧ b < 1000000) (hc : 0 < c ∧ c < 2147483648) (z : Int) (h0 : 0 ≤ z) (h1 : z < 2147483648) : ∃ y : Int, 0 ≤ y ∧ y < c ∧ sSet 6 (e2 gMod (qD (e2 gMul (qR 6) (qD (e2 gAdd (qD (e2 gDiv (qR 6) (qD (eC (.int b))))) (qD (eC (.int a))))))) (qD (eC (.int c)))) [sc, .d (nI th), .d (.int cell), .d (.int rest), f, .d (nI k), .d (.int z)] = .nx [sc, .d (nI th), .d (.int cell), .d (.int rest), f, .d (nI k), .d (.int y)] := by
  have m : gMul (.d (.int z)) (.d (.int (z / b + a))) = some (.int (z * (z / b + a))) := gm1 _ _ (sm_nn z h0 h1)
  have d : gDiv (.d (.int z)) (.d (.int b)) = some (.int (z / b)) := by rw [gDiv_e, if_pos ⟨hb.1, by omega⟩]
  have md : gMod (.d (.int (z * (z / b + a)))) (.d (.int c)) = some (.int (z * (z / b + a) % c)) := by rw [gMod_e, if_pos hc.1]
  refine ⟨z * (z / b + a) % c, Int.emod_nonneg _ (by omega), Int.emod_lt_of_pos _ hc.1, ?_⟩
  simp [ML.LIM, ML.content, ML.contents, ML.clean, ML.avSl, ML.datas, ML.obD, ML.slL, ML.seqOf, ML.dB, ML.dI, ML.dItems, ML.dTup, ML.dLst, ML.dStr, ML.isNone, ML.gIsN, ML.gNeg, ML.gAdd, ML.bInt, ML.tyName, ML.isTy, ML.ioOk, ML.gT, ML.gCons, ML.gNil, ML.fApp, ML.fExt, ML.fPop, m, d, md, -gMod_e, -gDiv_e]
theorem nb4 (z : Int) (h0 : 0 ≤ z) (h1 : z < 2147483648) : ∃ (y rest' : Int), 0 ≤ y ∧ y < 2147483648 ∧ sIf (b2 gGt (qR 3) (qD (eC (.int 0)))) (sSeq (sSet 6 (e2 gMod (qR 3) (qD (eC (.int 1000000007))))) (sSet 3 (e2 gDiv (qR 3) (qD (eC (.int 1000000007)))))) (sNil) [sc, .d (nI th), .d (.int cell), .d (.int rest), f, .d (nI k), .d (.int z)] = .nx [sc, .d (nI th), .d (.int cell), .d (.int rest'), f, .d (nI k), .d (.int y)] := by
  by_cases h : 0 < rest
  · refine ⟨rest % 1000000007, rest / 1000000007, Int.emod_nonneg _ (by decide), by have := Int.emod_lt_of_pos rest (show (0 : Int) < 1000000007 by decide); omega, ?_⟩
    simp [ML.LIM, ML.content, ML.contents, ML.clean, ML.avSl, ML.datas, ML.obD, ML.slL, ML.seqOf, ML.dB, ML.dI, ML.dItems, ML.dTup, ML.dLst, ML.dStr, ML.isNone, ML.gIsN, ML.gNeg, ML.gAdd, ML.bInt, ML.tyName, ML.isTy, ML.ioOk, ML.gT, ML.gCons, ML.gNil, ML.fApp, ML.fExt, ML.fPop, h]
  · exact ⟨z, rest, h0, h1, by simp [ML.LIM, ML.content, ML.contents, ML.clean, ML.avSl, ML.datas, ML.obD, ML.slL, ML.seqOf, ML.dB, ML.dI, ML.dItems, ML.dTup, ML.dLst, ML.dStr, ML.isNone, ML.gIsN, ML.gNeg, ML.gAdd, ML.bInt, ML.tyName, ML.isTy, ML.ioOk, ML.gT, ML.gCons, ML.gNil, ML.fApp, ML.fExt, ML.fPop, h]⟩
end
theorem nb_step (sc : Sl) (cell rest : Int) (th k : Nat) (xs : List Nat) (s6 : Sl) (hl : xs.length < 100) :
    ∃ (y : Nat) (rest' : Int) (s6' : Sl), y < BN ∧ m__law_numbers_b1 [sc, .d (nI th), .d (.int cell), .d (.int rest), .o true (.lst (xs.map nI)), .d (nI k), s6] = .nx [sc, .d (nI th), .d (.int cell), .d (.int rest'), .o true (.lst ((xs ++ [y]).map nI)), .d (nI k), s6'] := by
  have lx : xs.length < 10000000 := by omega
  obtain ⟨z1, a1, b1, e1⟩ := nb1 sc cell rest th k (.o true (.lst (xs.map nI))) s6
  obtain ⟨z2, a2, b2, e2⟩ := nb2 sc cell rest th k (.o true (.lst (xs.map nI))) 69621 1009 2147483647 (by decide) (by decide) z1 a1 (by omega)
  obtain ⟨z3, a3, b3, e3⟩ := nb2 sc cell rest th k (.o true (.lst (xs.map nI))) 40692 2003 2147483399 (by decide) (by decide) z2 a2 (by omega)
  obtain ⟨y, r', a4, b4, e4⟩ := nb4 sc cell rest th k (.o true (.lst (xs.map nI))) z3 a3 (by omega)
  refine ⟨y.toNat, r', .d (.int y), by show y.toNat < 2147483648; omega, ?_⟩
  have ey : nI y.toNat = .int y := by unfold nI; rw [Int.toNat_of_nonneg a4]
  rw [m__law_numbers_b1, sSeq_e, e1]
  dsimp only
  rw [sSeq_e, e2]
  dsimp only
  rw [sSeq_e, e3]
  dsimp only
  rw [sSeq_e, e4]
  simp [ML.LIM, ML.content, ML.contents, ML.clean, ML.avSl, ML.datas, ML.obD, ML.slL, ML.seqOf, ML.dB, ML.dI, ML.dItems, ML.dTup, ML.dLst, ML.dStr, ML.isNone, ML.gIsN, ML.gNeg, ML.gAdd, ML.bInt, ML.tyName, ML.isTy, ML.ioOk, ML.gT, ML.gCons, ML.gNil, ML.fApp, ML.fExt, ML.fPop, lx, ey]
theorem nb_loop (sc : Sl) (cell : Int) (th : Nat) : ∀ (m : Nat) (k : Nat) (rest : Int) (xs : List Nat) (s6 : Sl), (∀ x ∈ xs, x < BN) → xs.length + m < 100 →
    ∃ (ys : List Nat) (rest' : Int) (s5' s6' : Sl), ys.length = xs.length + m ∧ (∀ x ∈ ys, x < BN) ∧ ∀ s5, forL (gN 5) m__law_numbers_b1 ((List.range' k m).map nI) [sc, .d (nI th), .d (.int cell), .d (.int rest), .o true (.lst (xs.map nI)), s5, s6] = .nx [sc, .d (nI th), .d (.int cell), .d (.int rest'), .o true (.lst (ys.map nI)), if m = 0 then s5 else s5', s6'] := by
  intro m
  induction m with
  | zero => intro k rest xs s6 hx _; exact ⟨xs, rest, s6, s6, rfl, hx, fun s5 => by simp [ML.LIM, ML.content, ML.contents, ML.clean, ML.avSl, ML.datas, ML.obD, ML.slL, ML.seqOf, ML.dB, ML.dI, ML.dItems, ML.dTup, ML.dLst, ML.dStr, ML.isNone, ML.gIsN, ML.gNeg, ML.gAdd, ML.bInt, ML.tyName, ML.isTy, ML.ioOk, ML.gT, ML.gCons, ML.gNil, ML.fApp, ML.fExt, ML.fPop, forL]⟩
  | succ m ih =>
    intro k rest xs s6 hx hl
    obtain ⟨y, r', s6', hy, e⟩ := nb_step sc cell rest th k xs s6 (by omega)
    obtain ⟨ys, r2, s5', s62, h1, h2, h3⟩ := ih (k + 1) r' (xs ++ [y]) s6' (fun x h => by
      rcases List.mem_append.mp h with q | q
      · exact hx x q
      · rw [List.mem_singleton.mp q]; exact hy) (by rw [List.length_append, List.length_singleton]; omega)
    refine ⟨ys, r2, if m = 0 then .d (nI k) else s5', s62, by rw [h1, List.length_append, List.length_singleton]; omega, h2, fun s5 => ?_⟩
    rw [List.range'_succ, List.map_cons, forL, gN_e]
    simp only [List.set]
    rw [e]
    dsimp only
    rw [h3 (.d (nI k)), if_neg (Nat.succ_ne_zero m)]
theorem numbers_ok (ns : List Int) (th : Nat) : ∃ (xs : List Nat) (o : List Sl), xs.length = 40 ∧ (∀ x ∈ xs, x < BN) ∧ F__law_numbers [.sc ns, .d (nI th)] = .ok (.o (.lst (xs.map nI))) o := by
  have eth : nI th = .int (th : Int) := rfl
  have bl : bLen [.sc ns] = some (.int (ns.length : Int)) := rfl
  -- cell
  have hcell : ∃ cell : Int, sIf (b2 gGt (qD (eBlt bLen (aR 0 (aNil)))) (qD (eC (.int 0)))) (sSet 2 (eBlt bInt (aD (e2 gIx (qR 0) (qD (e2 gMod (qR 1) (qD (eBlt bLen (aR 0 (aNil))))))) (aNil)))) (sNil) [.sc ns, .d (nI th), .d (.int 0), .un, .un, .un, .un] = .nx [.sc ns, .d (nI th), .d (.int cell), .un, .un, .un, .un] := by
    by_cases h : (0 : Int) < (ns.length : Int)
    · have hm : 0 ≤ (th : Int) % (ns.length : Int) ∧ (th : Int) % (ns.length : Int) < (ns.length : Int) := ⟨Int.emod_nonneg _ (by omega), Int.emod_lt_of_pos _ h⟩
      obtain ⟨j, hj⟩ : ∃ j : Nat, (th : Int) % (ns.length : Int) = (j : Int) := ⟨((th : Int) % (ns.length : Int)).toNat, by omega⟩
      have hjl : j < ns.length := by omega
      have ix : gIx (.sc ns) (.d (.int (j : Int))) = some (.int ns[j]) := by
        show (atI ns (j : Int)).map PySem.PyData.int = _
        unfold L2.atI L2.ixN
        rw [if_pos (by omega), if_pos (by omega)]
        simp [ML.LIM, ML.content, ML.contents, ML.clean, ML.avSl, ML.datas, ML.obD, ML.slL, ML.seqOf, ML.dB, ML.dI, ML.dItems, ML.dTup, ML.dLst, ML.dStr, ML.isNone, ML.gIsN, ML.gNeg, ML.gAdd, ML.bInt, ML.tyName, ML.isTy, ML.ioOk, ML.gT, ML.gCons, ML.gNil, ML.fApp, ML.fExt, ML.fPop, hjl]
      refine ⟨ns[j], ?_⟩
      have h' : 0 < ns.length := by omega
      simp [ML.LIM, ML.content, ML.contents, ML.clean, ML.avSl, ML.datas, ML.obD, ML.slL, ML.seqOf, ML.dB, ML.dI, ML.dItems, ML.dTup, ML.dLst, ML.dStr, ML.isNone, ML.gIsN, ML.gNeg, ML.gAdd, ML.bInt, ML.tyName, ML.isTy, ML.ioOk, ML.gT, ML.gCons, ML.gNil, ML.fApp, ML.fExt, ML.fPop, bl, h, h', eth, hj, ix, -Int.natCast_emod]
    · have e : ns = [] := List.length_eq_zero_iff.mp (by omega)
      subst e
      exact ⟨0, by simp [ML.LIM, ML.content, ML.contents, ML.clean, ML.avSl, ML.datas, ML.obD, ML.slL, ML.seqOf, ML.dB, ML.dI, ML.dItems, ML.dTup, ML.dLst, ML.dStr, ML.isNone, ML.gIsN, ML.gNeg, ML.gAdd, ML.bInt, ML.tyName, ML.isTy, ML.ioOk, ML.gT, ML.gCons, ML.gNil, ML.fApp, ML.fExt, ML.fPop, bLen]⟩
  obtain ⟨cell, hc⟩ := hcell
  have hrest : ∃ rest : Int, sIf (tAnd_ (b2 gLt (qR 1) (qD (eBlt bLen (aR 0 (aNil))))) (b2 gGe (qR 2) (qD (e2 gPow (qD (eC (.int 10))) (qD (eC (.int 18))))))) (sSet 3 (eV 2)) (sNil) [.sc ns, .d (nI th), .d (.int cell), .d (.int 0), .un, .un, .un] = .nx [.sc ns, .d (nI th), .d (.int cell), .d (.int rest), .un, .un, .un] := by
    have pw : gPow (.d (.int 10)) (.d (.int 18)) = some (.int (10 ^ 18)) := by rfl
    by_cases h1 : (th : Int) < (ns.length : Int)
    · by_cases h2 : (1000000000000000000 : Int) ≤ cell
      · exact ⟨cell, by simp [ML.LIM, ML.content, ML.contents, ML.clean, ML.avSl, ML.datas, ML.obD, ML.slL, ML.seqOf, ML.dB, ML.dI, ML.dItems, ML.dTup, ML.dLst, ML.dStr, ML.isNone, ML.gIsN, ML.gNeg, ML.gAdd, ML.bInt, ML.tyName, ML.isTy, ML.ioOk, ML.gT, ML.gCons, ML.gNil, ML.fApp, ML.fExt, ML.fPop, bl, eth, h1, pw, h2]⟩
      · exact ⟨0, by simp [ML.LIM, ML.content, ML.contents, ML.clean, ML.avSl, ML.datas, ML.obD, ML.slL, ML.seqOf, ML.dB, ML.dI, ML.dItems, ML.dTup, ML.dLst, ML.dStr, ML.isNone, ML.gIsN, ML.gNeg, ML.gAdd, ML.bInt, ML.tyName, ML.isTy, ML.ioOk, ML.gT, ML.gCons, ML.gNil, ML.fApp, ML.fExt, ML.fPop, bl, eth, h1, pw, h2]⟩
    · exact ⟨0, by simp [ML.LIM, ML.content, ML.contents, ML.clean, ML.avSl, ML.datas, ML.obD, ML.slL, ML.seqOf, ML.dB, ML.dI, ML.dItems, ML.dTup, ML.dLst, ML.dStr, ML.isNone, ML.gIsN, ML.gNeg, ML.gAdd, ML.bInt, ML.tyName, ML.isTy, ML.ioOk, ML.gT, ML.gCons, ML.gNil, ML.fApp, ML.fExt, ML.fPop, bl, eth, h1]⟩
  obtain ⟨rest, hr⟩ := hrest
  obtain ⟨ys, r2, s5', s6', h1, h2, h3⟩ := nb_loop (.sc ns) cell th 40 0 rest [] .un (fun _ h => (by cases h)) (by decide)
  have w : m__law_numbers_w2 [.sc ns, .d (nI th), .d (.int cell), .d (.int rest), .o true (.lst []), .un, .un] = .nx [.sc ns, .d (nI th), .d (.int cell), .d (.int r2), .o true (.lst (ys.map nI)), s5', s6'] := by
    rw [m__law_numbers_w2, sFor_e, xS_e, iRg_e, bind_e, aD_e, bind_e, eC_e]
    simp only [bind_e, aNil_e, ret_e, rng1]
    rw [if_pos (by decide)]
    simp only [lift_some]
    rw [show ((40 : Int).toNat) = 40 from rfl, rng_map, List.range_eq_range']
    exact h3 .un
  refine ⟨ys, [.sc ns, .d (nI th)], by simpa [ML.LIM, ML.content, ML.contents, ML.clean, ML.avSl, ML.datas, ML.obD, ML.slL, ML.seqOf, ML.dB, ML.dI, ML.dItems, ML.dTup, ML.dLst, ML.dStr, ML.isNone, ML.gIsN, ML.gNeg, ML.gAdd, ML.bInt, ML.tyName, ML.isTy, ML.ioOk, ML.gT, ML.gCons, ML.gNil, ML.fApp, ML.fExt, ML.fPop] using h1, h2, ?_⟩
  have io : ∀ e, ioOk [.sc ns, .d (nI th)] e = true := fun e => rfl
  simp only [F__law_numbers, runBody, m__law_numbers]
  simp [ML.LIM, ML.content, ML.contents, ML.clean, ML.avSl, ML.datas, ML.obD, ML.slL, ML.seqOf, ML.dB, ML.dI, ML.dItems, ML.dTup, ML.dLst, ML.dStr, ML.isNone, ML.gIsN, ML.gNeg, ML.gAdd, ML.bInt, ML.tyName, ML.isTy, ML.gT, ML.gCons, ML.gNil, ML.fApp, ML.fExt, ML.fPop, hc, hr, w, io, -sIf_e, -ioOk]
end K62
end

section
set_option Elab.async false
set_option linter.all false
set_option maxRecDepth 100000
set_option maxHeartbeats 2000000
namespace K62
open PySem (Str)
open L2 (atI ixN)
open ML
/-! ## plain things -/
/-- a thing that can be told -/
structure Good (n dp : Nat) (d : D) : Prop where
  f : allF d
  e : ∃ ns, encO d = some ns
  n : nod d ≤ n
  d : d.depth ≤ dp
theorem g01 {d : D} (g : Good 1 0 d) : Good 1 1 d := ⟨g.f, g.e, g.n, Nat.le_trans g.d (by decide)⟩
theorem good_int {i : Int} (h : i.natAbs < 2 ^ 300) : Good 1 0 (.int i) := by
  refine ⟨?_, ⟨_, rfl⟩, by simp [ML.LIM, ML.content, ML.contents, ML.clean, ML.avSl, ML.datas, ML.obD, ML.slL, ML.seqOf, ML.dB, ML.dI, ML.dItems, ML.dTup, ML.dLst, ML.dStr, ML.isNone, ML.gIsN, ML.gNeg, ML.gAdd, ML.bInt, ML.tyName, ML.isTy, ML.ioOk, ML.gT, ML.gCons, ML.gNil, ML.fApp, ML.fExt, ML.fPop, nod], by simp [ML.LIM, ML.content, ML.contents, ML.clean, ML.avSl, ML.datas, ML.obD, ML.slL, ML.seqOf, ML.dB, ML.dI, ML.dItems, ML.dTup, ML.dLst, ML.dStr, ML.isNone, ML.gIsN, ML.gNeg, ML.gAdd, ML.bInt, ML.tyName, ML.isTy, ML.ioOk, ML.gT, ML.gCons, ML.gNil, ML.fApp, ML.fExt, ML.fPop, PySem.PyData.depth]⟩
  show zig i < BIG
  have h1 : (zig i : Int) ≤ 2 * (i.natAbs : Int) := by rw [zig_cast]; split <;> omega
  have h2 : zig i ≤ 2 * i.natAbs := by omega
  have h3 : (2 : Nat) * 2 ^ 300 < BIG := by decide +kernel
  omega
theorem good_bool (b : Bool) : Good 1 0 (.bool b) := ⟨trivial, ⟨_, rfl⟩, by simp [ML.LIM, ML.content, ML.contents, ML.clean, ML.avSl, ML.datas, ML.obD, ML.slL, ML.seqOf, ML.dB, ML.dI, ML.dItems, ML.dTup, ML.dLst, ML.dStr, ML.isNone, ML.gIsN, ML.gNeg, ML.gAdd, ML.bInt, ML.tyName, ML.isTy, ML.ioOk, ML.gT, ML.gCons, ML.gNil, ML.fApp, ML.fExt, ML.fPop, nod], by simp [ML.LIM, ML.content, ML.contents, ML.clean, ML.avSl, ML.datas, ML.obD, ML.slL, ML.seqOf, ML.dB, ML.dI, ML.dItems, ML.dTup, ML.dLst, ML.dStr, ML.isNone, ML.gIsN, ML.gNeg, ML.gAdd, ML.bInt, ML.tyName, ML.isTy, ML.ioOk, ML.gT, ML.gCons, ML.gNil, ML.fApp, ML.fExt, ML.fPop, PySem.PyData.depth]⟩
theorem good_none : Good 1 0 .none := ⟨trivial, ⟨_, rfl⟩, by simp [ML.LIM, ML.content, ML.contents, ML.clean, ML.avSl, ML.datas, ML.obD, ML.slL, ML.seqOf, ML.dB, ML.dI, ML.dItems, ML.dTup, ML.dLst, ML.dStr, ML.isNone, ML.gIsN, ML.gNeg, ML.gAdd, ML.bInt, ML.tyName, ML.isTy, ML.ioOk, ML.gT, ML.gCons, ML.gNil, ML.fApp, ML.fExt, ML.fPop, nod], by simp [ML.LIM, ML.content, ML.contents, ML.clean, ML.avSl, ML.datas, ML.obD, ML.slL, ML.seqOf, ML.dB, ML.dI, ML.dItems, ML.dTup, ML.dLst, ML.dStr, ML.isNone, ML.gIsN, ML.gNeg, ML.gAdd, ML.bInt, ML.tyName, ML.isTy, ML.ioOk, ML.gT, ML.gCons, ML.gNil, ML.fApp, ML.fExt, ML.fPop, PySem.PyData.depth]⟩
theorem good_str {z : Str} (h : okS z = true) (hl : z.length ≤ 1000) : Good 1 0 (.str z) := by
  refine ⟨hl, ⟨3 :: (sev z.length ++ z.cps.toList), ?_⟩, by simp [ML.LIM, ML.content, ML.contents, ML.clean, ML.avSl, ML.datas, ML.obD, ML.slL, ML.seqOf, ML.dB, ML.dI, ML.dItems, ML.dTup, ML.dLst, ML.dStr, ML.isNone, ML.gIsN, ML.gNeg, ML.gAdd, ML.bInt, ML.tyName, ML.isTy, ML.ioOk, ML.gT, ML.gCons, ML.gNil, ML.fApp, ML.fExt, ML.fPop, nod], by simp [ML.LIM, ML.content, ML.contents, ML.clean, ML.avSl, ML.datas, ML.obD, ML.slL, ML.seqOf, ML.dB, ML.dI, ML.dItems, ML.dTup, ML.dLst, ML.dStr, ML.isNone, ML.gIsN, ML.gNeg, ML.gAdd, ML.bInt, ML.tyName, ML.isTy, ML.ioOk, ML.gT, ML.gCons, ML.gNil, ML.fApp, ML.fExt, ML.fPop, PySem.PyData.depth]⟩
  rw [encO, if_pos h]
theorem good_tup {xs : List D} {n dp : Nat} (hf : allFs xs) (he : ∃ ns, encOs xs = some ns) (hn : nods xs ≤ n) (hd : PySem.PyData.depthAll xs ≤ dp) (hl : xs.length ≤ 1000) : Good (n + 1) (dp + 1) (.tuple xs) := by
  obtain ⟨ns, he⟩ := he
  refine ⟨⟨hl, hf⟩, ⟨4 :: sev xs.length ++ ns, by rw [encO, he]; rfl⟩, by rw [nod]; omega, by rw [PySem.PyData.depth]; omega⟩
/-- n // 9 and n % 9 of what is drawn -/
def PS : List Nat := (Str.ofString " !\"#$&'()*+,-./09:;<=>?@AZ[\\]^_`az{|}~").cps.toList
theorem PS_ok : ∀ c ∈ PS, c ∈ SG := by decide +kernel
theorem mul_a : ∀ m : Fin 150, okS (PySem.Txt.mul (Str.ofString "a") (m.val : Int)) = true ∧ (PySem.Txt.mul (Str.ofString "a") (m.val : Int)).length ≤ 1000 := by decide +kernel
abbrev PSS : Str := Str.ofString " !\"#$&'()*+,-./09:;<=>?@AZ[\\]^_`az{|}~"
theorem PS_len : PSS.length = 38 := by decide +kernel
theorem mulS_ok (m : Nat) (h : m < 150) : gMulS (.d (.str "a")) (.d (.int (m : Int))) = some (.str (PySem.Txt.mul (Str.ofString "a") (m : Int))) := by
  show (if 0 ≤ (m : Int) ∧ (m : Int) ≤ 10000 ∧ (Str.ofString "a").length ≤ 100 then some (PySem.PyData.str (PySem.Txt.mul (Str.ofString "a") (m : Int))) else none) = _
  rw [if_pos ⟨by omega, by omega, by decide⟩]
theorem plain_comp (a b : Sl) (r : Nat) : ∃ cs : List Nat, cs.length ≤ 12 ∧ (∀ c ∈ cs, c ∈ SG) ∧ o__law_plain_1 [a, .d (.str PSS), b, .d (.int (r : Int)), .un] = .ok (.lst (cs.map sg)) [a, .d (.str PSS), b, .d (.int (r : Int)), .un] := by
  let pick : Nat → Nat := fun k => PS.getD ((r + 7 * k) % 38) 0
  have lP : PS.length = 38 := PS_len
  have hp : ∀ k, pick k ∈ SG := fun k => by
    have h : (r + 7 * k) % 38 < PS.length := by rw [lP]; omega
    have e : pick k = PS[(r + 7 * k) % 38] := by
      show PS.getD _ 0 = _
      rw [List.getD_eq_getElem?_getD, List.getElem?_eq_getElem h]; rfl
    rw [e]
    exact PS_ok _ (List.getElem_mem h)
  refine ⟨(List.range (r % 12)).map pick, by simp [ML.LIM, ML.content, ML.contents, ML.clean, ML.avSl, ML.datas, ML.obD, ML.slL, ML.seqOf, ML.dB, ML.dI, ML.dItems, ML.dTup, ML.dLst, ML.dStr, ML.isNone, ML.gIsN, ML.gNeg, ML.gAdd, ML.bInt, ML.tyName, ML.isTy, ML.ioOk, ML.gT, ML.gCons, ML.gNil, ML.fApp, ML.fExt, ML.fPop]; omega, fun c hc => by obtain ⟨k, _, rfl⟩ := List.mem_map.mp hc; exact hp k, ?_⟩
  have e := compL_map (g := gN 4) (tt := ret true) (te := m__law_plain_c1) (vs := [4]) (e0 := [a, .d (.str PSS), b, .d (.int (r : Int)), .un]) (p := fun _ => true) (f := fun d => match d with | .int k => sg (pick k.toNat) | _ => .none) ((List.range (r % 12)).map nI) [] (by
    intro d hd
    obtain ⟨k, hk, rfl⟩ := List.mem_map.mp hd
    have hk' : k < 12 := by have := List.mem_range.mp hk; omega
    refine ⟨[a, .d (.str PSS), b, .d (.int (r : Int)), .d (nI k)], by simp [ML.LIM, ML.content, ML.contents, ML.clean, ML.avSl, ML.datas, ML.obD, ML.slL, ML.seqOf, ML.dB, ML.dI, ML.dItems, ML.dTup, ML.dLst, ML.dStr, ML.isNone, ML.gIsN, ML.gNeg, ML.gAdd, ML.bInt, ML.tyName, ML.isTy, ML.ioOk, ML.gT, ML.gCons, ML.gNil, ML.fApp, ML.fExt, ML.fPop], by simp [ML.LIM, ML.content, ML.contents, ML.clean, ML.avSl, ML.datas, ML.obD, ML.slL, ML.seqOf, ML.dB, ML.dI, ML.dItems, ML.dTup, ML.dLst, ML.dStr, ML.isNone, ML.gIsN, ML.gNeg, ML.gAdd, ML.bInt, ML.tyName, ML.isTy, ML.ioOk, ML.gT, ML.gCons, ML.gNil, ML.fApp, ML.fExt, ML.fPop], fun _ => ?_, by simp [ML.LIM, ML.content, ML.contents, ML.clean, ML.avSl, ML.datas, ML.obD, ML.slL, ML.seqOf, ML.dB, ML.dI, ML.dItems, ML.dTup, ML.dLst, ML.dStr, ML.isNone, ML.gIsN, ML.gNeg, ML.gAdd, ML.bInt, ML.tyName, ML.isTy, ML.ioOk, ML.gT, ML.gCons, ML.gNil, ML.fApp, ML.fExt, ML.fPop, wipeE]⟩
    show m__law_plain_c1 _ = .ok (sg (pick (k : Int).toNat)) _
    rw [Int.toNat_natCast]
    have ek : nI k = .int (k : Int) := rfl
    have m7 : gMul (.d (.int 7)) (.d (.int (k : Int))) = some (.int (7 * (k : Int))) := gm1 _ _ (by decide +kernel)
    have bl : bLen [.d (.str PSS)] = some (.int 38) := by
      show (if PSS.length ≤ LIM then some (PySem.PyData.int (PSS.length : Int)) else none) = _
      rw [PS_len, if_pos (by decide)]; rfl
    have mo : ((r : Int) + 7 * (k : Int)) % 38 = (((r + 7 * k) % 38 : Nat) : Int) := by omega
    have ix : gIx (.d (.str PSS)) (.d (.int (((r + 7 * k) % 38 : Nat) : Int))) = some (sg (pick k)) := by
      show (if PSS.length ≤ LIM then (atI PS (((r + 7 * k) % 38 : Nat) : Int)).map (fun c => PySem.PyData.str (sign c)) else none) = _
      rw [PS_len, if_pos (by decide)]
      unfold L2.atI L2.ixN
      have h : (r + 7 * k) % 38 < PS.length := by rw [lP]; omega
      rw [if_pos (by omega), if_pos (by omega)]
      simp only [Int.toNat_natCast, Option.bind_some, List.getElem?_eq_getElem h, Option.map_some]
      show some (PySem.PyData.str (sign PS[(r + 7 * k) % 38])) = some (.str (sign (PS.getD ((r + 7 * k) % 38) 0)))
      rw [List.getD_eq_getElem?_getD, List.getElem?_eq_getElem h]; rfl
    simp [ML.LIM, ML.content, ML.contents, ML.clean, ML.avSl, ML.datas, ML.obD, ML.slL, ML.seqOf, ML.dB, ML.dI, ML.dItems, ML.dTup, ML.dLst, ML.dStr, ML.isNone, ML.gIsN, ML.gNeg, ML.gAdd, ML.bInt, ML.tyName, ML.isTy, ML.ioOk, ML.gT, ML.gCons, ML.gNil, ML.fApp, ML.fExt, ML.fPop, m__law_plain_c1, ek, m7, bl, mo, ix, -Int.natCast_emod]) (by rw [List.length_nil, List.length_map, List.length_range, Nat.zero_add]; exact lim_ok (by omega))
  rw [List.filter_eq_self.mpr (fun _ _ => rfl), List.nil_append, List.map_map] at e
  have ez : ((List.range (r % 12)).map ((fun d : D => match d with | .int k => sg (pick k.toNat) | _ => .none) ∘ nI)) = ((List.range (r % 12)).map pick).map sg := by
    rw [List.map_map]; rfl
  rw [ez] at e
  have it : iRg rng1 (aD (e2 gMod (qR 3) (qD (eC (.int 12)))) (aNil)) [a, .d (.str PSS), b, .d (.int (r : Int)), .un] = .ok ((List.range (r % 12)).map nI) [a, .d (.str PSS), b, .d (.int (r : Int)), .un] := by
    rw [iRg_e, bind_e, aD_e, bind_e]
    have hb : ML.e2 gMod (qR 3) (qD (eC (.int 12))) [a, .d (.str PSS), b, .d (.int (r : Int)), .un] = .ok (.int ((r % 12 : Nat) : Int)) [a, .d (.str PSS), b, .d (.int (r : Int)), .un] := by simp [ML.LIM, ML.content, ML.contents, ML.clean, ML.avSl, ML.datas, ML.obD, ML.slL, ML.seqOf, ML.dB, ML.dI, ML.dItems, ML.dTup, ML.dLst, ML.dStr, ML.isNone, ML.gIsN, ML.gNeg, ML.gAdd, ML.bInt, ML.tyName, ML.isTy, ML.ioOk, ML.gT, ML.gCons, ML.gNil, ML.fApp, ML.fExt, ML.fPop]
    rw [hb]
    simp only [bind_e, aNil_e, ret_e, rng1]
    rw [if_pos (by omega)]
    simp only [lift_some, Int.toNat_natCast]
    rw [rng_map]
  simp only [o__law_plain_1, oComp, bind_e, it]
  rw [show wipeE [a, .d (.str PSS), b, .d (.int (r : Int)), .un] [4] = [a, .d (.str PSS), b, .d (.int (r : Int)), .un] from rfl, e]
  rfl
theorem plain_ok (n : Nat) (hn : n < BN) : ∃ (d : D) (o : List Sl), Good 1 1 d ∧ F__law_plain [.d (nI n)] = .ok (.d d) o := by
  have hn' : n < 2147483648 := hn
  have en : nI n = .int (n : Int) := rfl
  obtain ⟨w, hw⟩ : ∃ w : Nat, (n : Int) % 9 = (w : Int) := ⟨n % 9, by omega⟩
  obtain ⟨r, hr⟩ : ∃ r : Nat, (n : Int) / 9 = (r : Int) := ⟨n / 9, by omega⟩
  have hw9 : w < 9 := by omega
  have hr9 : r < 2147483648 := by omega
  have cases_w : w = 0 ∨ w = 1 ∨ w = 2 ∨ w = 3 ∨ w = 4 ∨ w = 5 ∨ w = 6 ∨ w = 7 ∨ w = 8 := by omega
  have p20 : gPow (.d (.int 10)) (.d (.int 20)) = some (.int 100000000000000000000) := rfl
  have p59 : gPow (.d (.int 10)) (.d (.int 59)) = some (.int (10 ^ 59)) := rfl
  have mm : gMul (.d (.int (-(r : Int)))) (.d (.int 100000000000000000000)) = some (.int (-(r : Int) * 100000000000000000000)) := gm1 _ _ (by unfold small; exact decide_eq_true (by omega))
  have i0 : ∀ a b c : D, gIx (.o true (.lst [a, b, c])) (.d (.int 0)) = some a := fun _ _ _ => rfl
  have i1 : ∀ a b c : D, gIx (.o true (.lst [a, b, c])) (.d (.int 1)) = some b := fun _ _ _ => rfl
  have i2 : ∀ a b c : D, gIx (.o true (.lst [a, b, c])) (.d (.int 2)) = some c := fun _ _ _ => rfl
  rcases cases_w with rfl | rfl | rfl | rfl | rfl | rfl | rfl | rfl | rfl
  · refine ⟨.int ((r : Int) % 200 - 100), [.d (nI n)], g01 <| good_int (by omega), ?_⟩
    simp only [F__law_plain, runBody, m__law_plain]
    simp [ML.LIM, ML.content, ML.contents, ML.clean, ML.avSl, ML.datas, ML.obD, ML.slL, ML.seqOf, ML.dB, ML.dI, ML.dItems, ML.dTup, ML.dLst, ML.dStr, ML.isNone, ML.gIsN, ML.gNeg, ML.gAdd, ML.bInt, ML.tyName, ML.isTy, ML.ioOk, ML.gT, ML.gCons, ML.gNil, ML.fApp, ML.fExt, ML.fPop, en, hw, hr, p20, mm, i0, -Int.natCast_emod, -Int.natCast_ediv]
  · refine ⟨.int (r : Int), [.d (nI n)], g01 <| good_int (by omega), ?_⟩
    simp only [F__law_plain, runBody, m__law_plain]
    simp [ML.LIM, ML.content, ML.contents, ML.clean, ML.avSl, ML.datas, ML.obD, ML.slL, ML.seqOf, ML.dB, ML.dI, ML.dItems, ML.dTup, ML.dLst, ML.dStr, ML.isNone, ML.gIsN, ML.gNeg, ML.gAdd, ML.bInt, ML.tyName, ML.isTy, ML.ioOk, ML.gT, ML.gCons, ML.gNil, ML.fApp, ML.fExt, ML.fPop, en, hw, hr, p20, mm, i1, -Int.natCast_emod, -Int.natCast_ediv]
  · refine ⟨.int (-(r : Int) * 100000000000000000000 - (r : Int)), [.d (nI n)], g01 <| good_int (by omega), ?_⟩
    simp only [F__law_plain, runBody, m__law_plain]
    simp [ML.LIM, ML.content, ML.contents, ML.clean, ML.avSl, ML.datas, ML.obD, ML.slL, ML.seqOf, ML.dB, ML.dI, ML.dItems, ML.dTup, ML.dLst, ML.dStr, ML.isNone, ML.gIsN, ML.gNeg, ML.gAdd, ML.bInt, ML.tyName, ML.isTy, ML.ioOk, ML.gT, ML.gCons, ML.gNil, ML.fApp, ML.fExt, ML.fPop, en, hw, hr, p20, mm, i2, -Int.natCast_emod, -Int.natCast_ediv]
  · obtain ⟨v, hv⟩ : ∃ v : Nat, (r : Int) % 3 = (v : Int) := ⟨r % 3, by omega⟩
    have cv : v = 0 ∨ v = 1 ∨ v = 2 := by omega
    rcases cv with rfl | rfl | rfl
    · refine ⟨.bool true, [.d (nI n)], g01 <| good_bool _, ?_⟩
      simp only [F__law_plain, runBody, m__law_plain]
      simp [ML.LIM, ML.content, ML.contents, ML.clean, ML.avSl, ML.datas, ML.obD, ML.slL, ML.seqOf, ML.dB, ML.dI, ML.dItems, ML.dTup, ML.dLst, ML.dStr, ML.isNone, ML.gIsN, ML.gNeg, ML.gAdd, ML.bInt, ML.tyName, ML.isTy, ML.ioOk, ML.gT, ML.gCons, ML.gNil, ML.fApp, ML.fExt, ML.fPop, en, hw, hr, hv, eqi, i0, -Int.natCast_emod, -Int.natCast_ediv]
    · refine ⟨.bool false, [.d (nI n)], g01 <| good_bool _, ?_⟩
      simp only [F__law_plain, runBody, m__law_plain]
      simp [ML.LIM, ML.content, ML.contents, ML.clean, ML.avSl, ML.datas, ML.obD, ML.slL, ML.seqOf, ML.dB, ML.dI, ML.dItems, ML.dTup, ML.dLst, ML.dStr, ML.isNone, ML.gIsN, ML.gNeg, ML.gAdd, ML.bInt, ML.tyName, ML.isTy, ML.ioOk, ML.gT, ML.gCons, ML.gNil, ML.fApp, ML.fExt, ML.fPop, en, hw, hr, hv, eqi, i1, -Int.natCast_emod, -Int.natCast_ediv]
    · refine ⟨.none, [.d (nI n)], g01 <| good_none, ?_⟩
      simp only [F__law_plain, runBody, m__law_plain]
      simp [ML.LIM, ML.content, ML.contents, ML.clean, ML.avSl, ML.datas, ML.obD, ML.slL, ML.seqOf, ML.dB, ML.dI, ML.dItems, ML.dTup, ML.dLst, ML.dStr, ML.isNone, ML.gIsN, ML.gNeg, ML.gAdd, ML.bInt, ML.tyName, ML.isTy, ML.ioOk, ML.gT, ML.gCons, ML.gNil, ML.fApp, ML.fExt, ML.fPop, en, hw, hr, hv, eqi, i2, -Int.natCast_emod, -Int.natCast_ediv]
  · refine ⟨.str "", [.d (nI n)], g01 <| good_str (by decide +kernel) (by decide +kernel), ?_⟩
    simp only [F__law_plain, runBody, m__law_plain]
    simp [ML.LIM, ML.content, ML.contents, ML.clean, ML.avSl, ML.datas, ML.obD, ML.slL, ML.seqOf, ML.dB, ML.dI, ML.dItems, ML.dTup, ML.dLst, ML.dStr, ML.isNone, ML.gIsN, ML.gNeg, ML.gAdd, ML.bInt, ML.tyName, ML.isTy, ML.ioOk, ML.gT, ML.gCons, ML.gNil, ML.fApp, ML.fExt, ML.fPop, en, hw, hr, eqi, -Int.natCast_emod, -Int.natCast_ediv]
  · obtain ⟨cs, c1, c2, c3⟩ := plain_comp (.d (nI n)) (.d (.int 5)) r
    have jz : PySem.Txt.join (Str.ofString "") (cs.map sign) = ⟨cs.toArray⟩ := join_sg ⟨cs.toArray⟩
    have jk : joinOk (Str.ofString "") (cs.map sign) = true := by
      unfold joinOk
      rw [sum_len, List.length_map]
      exact decide_eq_true (by have : (Str.ofString "").length = 0 := rfl; rw [this]; omega)
    refine ⟨.str ⟨cs.toArray⟩, [.d (nI n)], g01 <| good_str (List.all_eq_true.mpr fun c hc => decide_eq_true (c2 c hc)) (by show cs.toArray.size ≤ 1000; simp [ML.LIM, ML.content, ML.contents, ML.clean, ML.avSl, ML.datas, ML.obD, ML.slL, ML.seqOf, ML.dB, ML.dI, ML.dItems, ML.dTup, ML.dLst, ML.dStr, ML.isNone, ML.gIsN, ML.gNeg, ML.gAdd, ML.bInt, ML.tyName, ML.isTy, ML.ioOk, ML.gT, ML.gCons, ML.gNil, ML.fApp, ML.fExt, ML.fPop]; omega), ?_⟩
    rw [en] at c3
    simp only [F__law_plain, runBody, m__law_plain]
    simp [ML.LIM, ML.content, ML.contents, ML.clean, ML.avSl, ML.datas, ML.obD, ML.slL, ML.seqOf, ML.dB, ML.dI, ML.dItems, ML.dTup, ML.dLst, ML.dStr, ML.isNone, ML.gIsN, ML.gNeg, ML.gAdd, ML.bInt, ML.tyName, ML.isTy, ML.ioOk, ML.gT, ML.gCons, ML.gNil, ML.fApp, ML.fExt, ML.fPop, en, hw, hr, eqi, c3, dStrs_sg, jk, jz, -Int.natCast_emod, -Int.natCast_ediv]
  · obtain ⟨m, hm⟩ : ∃ m : Nat, (r : Int) % 150 = (m : Int) := ⟨r % 150, by omega⟩
    have hm2 : m < 150 := by omega
    obtain ⟨q1, q2⟩ := mul_a ⟨m, hm2⟩
    refine ⟨.str (PySem.Txt.mul (Str.ofString "a") (m : Int)), [.d (nI n)], g01 <| good_str q1 q2, ?_⟩
    simp only [F__law_plain, runBody, m__law_plain]
    simp [ML.LIM, ML.content, ML.contents, ML.clean, ML.avSl, ML.datas, ML.obD, ML.slL, ML.seqOf, ML.dB, ML.dI, ML.dItems, ML.dTup, ML.dLst, ML.dStr, ML.isNone, ML.gIsN, ML.gNeg, ML.gAdd, ML.bInt, ML.tyName, ML.isTy, ML.ioOk, ML.gT, ML.gCons, ML.gNil, ML.fApp, ML.fExt, ML.fPop, en, hw, hr, eqi, hm, mulS_ok m hm2, -Int.natCast_emod, -Int.natCast_ediv]
  · refine ⟨.tuple [], [.d (nI n)], ⟨⟨Nat.zero_le _, trivial⟩, ⟨_, rfl⟩, by simp [ML.LIM, ML.content, ML.contents, ML.clean, ML.avSl, ML.datas, ML.obD, ML.slL, ML.seqOf, ML.dB, ML.dI, ML.dItems, ML.dTup, ML.dLst, ML.dStr, ML.isNone, ML.gIsN, ML.gNeg, ML.gAdd, ML.bInt, ML.tyName, ML.isTy, ML.ioOk, ML.gT, ML.gCons, ML.gNil, ML.fApp, ML.fExt, ML.fPop, nod, nods], by simp [ML.LIM, ML.content, ML.contents, ML.clean, ML.avSl, ML.datas, ML.obD, ML.slL, ML.seqOf, ML.dB, ML.dI, ML.dItems, ML.dTup, ML.dLst, ML.dStr, ML.isNone, ML.gIsN, ML.gNeg, ML.gAdd, ML.bInt, ML.tyName, ML.isTy, ML.ioOk, ML.gT, ML.gCons, ML.gNil, ML.fApp, ML.fExt, ML.fPop, PySem.PyData.depth, PySem.PyData.depthAll]⟩, ?_⟩
    simp only [F__law_plain, runBody, m__law_plain]
    simp [ML.LIM, ML.content, ML.contents, ML.clean, ML.avSl, ML.datas, ML.obD, ML.slL, ML.seqOf, ML.dB, ML.dI, ML.dItems, ML.dTup, ML.dLst, ML.dStr, ML.isNone, ML.gIsN, ML.gNeg, ML.gAdd, ML.bInt, ML.tyName, ML.isTy, ML.ioOk, ML.gT, ML.gCons, ML.gNil, ML.fApp, ML.fExt, ML.fPop, en, hw, hr, eqi, -Int.natCast_emod, -Int.natCast_ediv]
  · obtain ⟨v, hv⟩ : ∃ v : Nat, (r : Int) % 10 = (v : Int) := ⟨r % 10, by omega⟩
    have cv : v = 0 ∨ v = 1 ∨ v = 2 ∨ v = 3 ∨ v = 4 ∨ v = 5 ∨ v = 6 ∨ v = 7 ∨ v = 8 ∨ v = 9 := by omega
    have hL : oLst (aD (eC (.int 0)) (aD (eC (.int 63)) (aD (eC (.int 64)) (aD (eC (.int 127)) (aD (eC (.int 128)) (aD (e1 gNeg (eC (.int 1))) (aD (e1 gNeg (eC (.int 64))) (aD (e1 gNeg (eC (.int 65))) (aD (e2 gPow (qD (eC (.int 10))) (qD (eC (.int 59)))) (aD (e1 gNeg (e2 gPow (qD (eC (.int 10))) (qD (eC (.int 59))))) (aNil))))))))))) [.d (.int (n : Int)), .d (.str PSS), .d (.int 8), .d (.int (r : Int)), .un] = .ok (.lst [.int 0, .int 63, .int 64, .int 127, .int 128, .int (-1), .int (-64), .int (-65), .int (10 ^ 59), .int (-(10 ^ 59))]) [.d (.int (n : Int)), .d (.str PSS), .d (.int 8), .d (.int (r : Int)), .un] := rfl
    have hx : ∃ i : Int, gIx (.o true (.lst [.int 0, .int 63, .int 64, .int 127, .int 128, .int (-1), .int (-64), .int (-65), .int (10 ^ 59), .int (-(10 ^ 59))])) (.d (.int (v : Int))) = some (.int i) ∧ i.natAbs < 2 ^ 300 := by
      rcases cv with rfl | rfl | rfl | rfl | rfl | rfl | rfl | rfl | rfl | rfl
      · exact ⟨0, rfl, by decide +kernel⟩
      · exact ⟨63, rfl, by decide +kernel⟩
      · exact ⟨64, rfl, by decide +kernel⟩
      · exact ⟨127, rfl, by decide +kernel⟩
      · exact ⟨128, rfl, by decide +kernel⟩
      · exact ⟨-1, rfl, by decide +kernel⟩
      · exact ⟨-64, rfl, by decide +kernel⟩
      · exact ⟨-65, rfl, by decide +kernel⟩
      · exact ⟨10 ^ 59, rfl, by decide +kernel⟩
      · exact ⟨-(10 ^ 59), rfl, by decide +kernel⟩
    obtain ⟨i, hi, hb⟩ := hx
    refine ⟨.int i, [.d (nI n)], g01 <| good_int hb, ?_⟩
    generalize ([.int 0, .int 63, .int 64, .int 127, .int 128, .int (-1), .int (-64), .int (-65), .int (10 ^ 59), .int (-(10 ^ 59))] : List D) = LL at hL hi
    simp only [F__law_plain, runBody, m__law_plain]
    simp [ML.LIM, ML.content, ML.contents, ML.clean, ML.avSl, ML.datas, ML.obD, ML.slL, ML.seqOf, ML.dB, ML.dI, ML.dItems, ML.dTup, ML.dLst, ML.dStr, ML.isNone, ML.gIsN, ML.gNeg, ML.gAdd, ML.bInt, ML.tyName, ML.isTy, ML.ioOk, ML.gT, ML.gCons, ML.gNil, ML.fApp, ML.fExt, ML.fPop, en, hw, hr, eqi, hv, hL, hi, -oLst_e, -Int.natCast_emod, -Int.natCast_ediv]
end K62
end

section
set_option Elab.async false
set_option linter.all false
set_option maxRecDepth 100000
set_option maxHeartbeats 2000000
namespace K62
open PySem (Str)
open L2 (atI ixN)
open ML
structure Pool (n dp : Nat) (ps : List D) : Prop where
  f : allFs ps
  e : ∃ ns, encOs ps = some ns
  n : nods ps ≤ n
  d : PySem.PyData.depthAll ps ≤ dp
  l : 1 ≤ ps.length
theorem pool_add {n dp : Nat} {ps : List D} {d : D} (p : Pool n dp ps) (g : Good 1 1 d) (hd : 1 ≤ dp + 1) : Pool (n + 1) (dp + 1) (ps ++ [d]) := by
  obtain ⟨a, ha⟩ := p.e
  obtain ⟨b, hb⟩ := g.e
  refine ⟨allFs_append.mpr ⟨p.f, g.f, trivial⟩, ⟨a ++ b, by rw [encOs_append, ha, encOs, hb, encOs]; simp [ML.LIM, ML.content, ML.contents, ML.clean, ML.avSl, ML.datas, ML.obD, ML.slL, ML.seqOf, ML.dB, ML.dI, ML.dItems, ML.dTup, ML.dLst, ML.dStr, ML.isNone, ML.gIsN, ML.gNeg, ML.gAdd, ML.bInt, ML.tyName, ML.isTy, ML.ioOk, ML.gT, ML.gCons, ML.gNil, ML.fApp, ML.fExt, ML.fPop]⟩, ?_, ?_, by rw [List.length_append]; have := p.l; omega⟩
  · rw [nods_append, nods, nods]; have := p.n; have := g.n; omega
  · rw [depthAll_append, PySem.PyData.depthAll, PySem.PyData.depthAll]; have := p.d; have := g.d; omega
theorem pool_tup {n dp : Nat} {as bs : List D} (p : Pool n dp (as ++ bs)) (hn : n ≤ 1000) : Pool (n + 1) (dp + 1) (as ++ [.tuple bs]) := by
  obtain ⟨a, ha⟩ := p.e
  rw [encOs_append] at ha
  obtain ⟨x, hx, ha⟩ := Option.bind_eq_some_iff.mp ha
  obtain ⟨y, hy, rfl⟩ := Option.map_eq_some_iff.mp ha
  obtain ⟨f1, f2⟩ := allFs_append.mp p.f
  have pn := p.n
  rw [nods_append] at pn
  have pd := p.d
  rw [depthAll_append] at pd
  have lb := nods_len bs
  refine ⟨allFs_append.mpr ⟨f1, ⟨by omega, f2⟩, trivial⟩, ⟨x ++ (4 :: sev bs.length ++ y), by rw [encOs_append, hx, encOs, encO, hy, encOs]; simp [ML.LIM, ML.content, ML.contents, ML.clean, ML.avSl, ML.datas, ML.obD, ML.slL, ML.seqOf, ML.dB, ML.dI, ML.dItems, ML.dTup, ML.dLst, ML.dStr, ML.isNone, ML.gIsN, ML.gNeg, ML.gAdd, ML.bInt, ML.tyName, ML.isTy, ML.ioOk, ML.gT, ML.gCons, ML.gNil, ML.fApp, ML.fExt, ML.fPop]⟩, ?_, ?_, by rw [List.length_append]; simp [ML.LIM, ML.content, ML.contents, ML.clean, ML.avSl, ML.datas, ML.obD, ML.slL, ML.seqOf, ML.dB, ML.dI, ML.dItems, ML.dTup, ML.dLst, ML.dStr, ML.isNone, ML.gIsN, ML.gNeg, ML.gAdd, ML.bInt, ML.tyName, ML.isTy, ML.ioOk, ML.gT, ML.gCons, ML.gNil, ML.fApp, ML.fExt, ML.fPop]⟩
  · rw [nods_append, nods, nod, nods]; omega
  · rw [depthAll_append, PySem.PyData.depthAll, PySem.PyData.depthAll, PySem.PyData.depth]; omega
theorem ixl (xs : List Nat) (k : Nat) (h : k < xs.length) : gIx (.d (.list (xs.map nI))) (.d (.int (k : Int))) = some (nI (xs[k]'h)) := by
    show (atI (xs.map nI) (k : Int)) = _
    unfold L2.atI L2.ixN
    rw [if_pos (by omega), if_pos (by rw [List.length_map]; omega)]
    simp [ML.LIM, ML.content, ML.contents, ML.clean, ML.avSl, ML.datas, ML.obD, ML.slL, ML.seqOf, ML.dB, ML.dI, ML.dItems, ML.dTup, ML.dLst, ML.dStr, ML.isNone, ML.gIsN, ML.gNeg, ML.gAdd, ML.bInt, ML.tyName, ML.isTy, ML.ioOk, ML.gT, ML.gCons, ML.gNil, ML.fApp, ML.fExt, ML.fPop, h]
theorem th_step (xs : List Nat) (hx : ∀ x ∈ xs, x < BN) (k : Nat) (hk : 1 + k < xs.length) (ps : List D) (n dp : Nat) (s3 s4 : Sl) (p : Pool n dp ps) (hn : n ≤ 900) :
    ∃ (ps' : List D) (s3' s4' : Sl), Pool (n + 1) (dp + 1) ps' ∧ m__law_thing_b1 [.d (.list (xs.map nI)), .o true (.lst ps), .d (nI k), s3, s4] = .nx [.d (.list (xs.map nI)), .o true (.lst ps'), .d (nI k), s3', s4'] := by
  have ix := ixl xs (1 + k) hk
  have hb : xs[1 + k] < 2147483648 := hx _ (List.getElem_mem hk)
  obtain ⟨y, hy⟩ : ∃ y, xs[1 + k] = y := ⟨_, rfl⟩
  rw [hy] at ix hb
  have ek : nI k = .int (k : Int) := rfl
  have ey : nI y = .int (y : Int) := rfl
  have ek1 : (1 : Int) + (k : Int) = ((1 + k : Nat) : Int) := by omega
  have ll := nods_len ps
  have pn := p.n
  have pl := p.l
  have a0 : sSet 3 (eBlt bInt (aD (e2 gIx (qR 0) (qD (e2 gAdd (qD (eC (.int 1))) (qR 2)))) (aNil))) [.d (.list (xs.map nI)), .o true (.lst ps), .d (nI k), s3, s4] = .nx [.d (.list (xs.map nI)), .o true (.lst ps), .d (nI k), .d (nI y), s4] := by
    generalize xs.map nI = L at ix ⊢
    simp [ML.LIM, ML.content, ML.contents, ML.clean, ML.avSl, ML.datas, ML.obD, ML.slL, ML.seqOf, ML.dB, ML.dI, ML.dItems, ML.dTup, ML.dLst, ML.dStr, ML.isNone, ML.gIsN, ML.gNeg, ML.gAdd, ML.bInt, ML.tyName, ML.isTy, ML.ioOk, ML.gT, ML.gCons, ML.gNil, ML.fApp, ML.fExt, ML.fPop, ek, ek1, ix, ey, -Int.natCast_add]
  rw [m__law_thing_b1, sSeq_e, a0]
  dsimp only
  obtain ⟨q, hq⟩ : ∃ q : Nat, (y : Int) / 3 = (q : Int) := ⟨y / 3, by omega⟩
  have hq2 : q < BN := by show q < 2147483648; omega
  by_cases h3 : (y : Int) % 3 = 0
  · -- a tuple of the last
    obtain ⟨sm, hsm⟩ : ∃ sm : Nat, (1 : Int) + (q : Int) % 4 = (sm : Int) := ⟨1 + q % 4, by omega⟩
    obtain ⟨c, hc, hcl⟩ : ∃ c : Nat, (ps.length : Int) - (if ps.length < sm then (ps.length : Int) else (sm : Int)) = (c : Int) ∧ c ≤ ps.length := by
      by_cases h : ps.length < sm
      · exact ⟨0, by rw [if_pos h]; omega, by omega⟩
      · exact ⟨ps.length - sm, by rw [if_neg h]; omega, by omega⟩
    have ct := cut_take ps c hcl
    have cd := cut_drop ps c hcl
    have l1 : min c ps.length ≤ 9999999 := by omega
    have g : gSub (.d (.int (ps.length : Int))) (.d (.int (if ps.length < sm then (ps.length : Int) else (sm : Int)))) = some (.int (c : Int)) := by
      rw [gSub_e, hc]
    refine ⟨ps.take c ++ [.tuple (ps.drop c)], .d (nI y), .d (.int (sm : Int)), ?_, ?_⟩
    · exact pool_tup (by rw [List.take_append_drop]; exact p) (by omega)
    · generalize xs.map nI = L
      simp [ML.LIM, ML.content, ML.contents, ML.clean, ML.avSl, ML.datas, ML.obD, ML.slL, ML.seqOf, ML.dB, ML.dI, ML.dItems, ML.dTup, ML.dLst, ML.dStr, ML.isNone, ML.gIsN, ML.gNeg, ML.gAdd, ML.bInt, ML.tyName, ML.isTy, ML.ioOk, ML.gT, ML.gCons, ML.gNil, ML.fApp, ML.fExt, ML.fPop, ek, ey, eqi, h3, hq, hsm, bLen, seqOf, bMin, g, gSlL, ct, cd, bTupOf, gCat, l1, -gSub_e, -Int.natCast_emod]
  · obtain ⟨d, o, gd, hp⟩ := plain_ok q hq2
    have cp : eRv (callM F__law_plain (aD (e2 gDiv (qR 3) (qD (eC (.int 3)))) (aNil))) [.d (.list (xs.map nI)), .o true (.lst ps), .d (nI k), .d (nI y), s4] = .ok d [.d (.list (xs.map nI)), .o true (.lst ps), .d (nI k), .d (nI y), s4] := call1 (by simp [ML.LIM, ML.content, ML.contents, ML.clean, ML.avSl, ML.datas, ML.obD, ML.slL, ML.seqOf, ML.dB, ML.dI, ML.dItems, ML.dTup, ML.dLst, ML.dStr, ML.isNone, ML.gIsN, ML.gNeg, ML.gAdd, ML.bInt, ML.tyName, ML.isTy, ML.ioOk, ML.gT, ML.gCons, ML.gNil, ML.fApp, ML.fExt, ML.fPop, ey, hq, nI]) hp rfl
    have lp : ps.length < 10000000 := by omega
    refine ⟨ps ++ [d], .d (nI y), s4, pool_add p gd (by omega), ?_⟩
    generalize xs.map nI = L at cp ⊢
    simp only [ey] at cp ⊢
    simp [ML.LIM, ML.content, ML.contents, ML.clean, ML.avSl, ML.datas, ML.obD, ML.slL, ML.seqOf, ML.dB, ML.dI, ML.dItems, ML.dTup, ML.dLst, ML.dStr, ML.isNone, ML.gIsN, ML.gNeg, ML.gAdd, ML.bInt, ML.tyName, ML.isTy, ML.ioOk, ML.gT, ML.gCons, ML.gNil, ML.fApp, ML.fExt, ML.fPop, eqi, h3, cp, lp, -Int.natCast_emod]
theorem th_loop (xs : List Nat) (hx : ∀ x ∈ xs, x < BN) : ∀ (m k : Nat) (ps : List D) (n dp : Nat) (s2 s3 s4 : Sl), k + m < xs.length → Pool n dp ps → n + m ≤ 900 →
    ∃ (ps' : List D) (s2' s3' s4' : Sl), Pool (n + m) (dp + m) ps' ∧ forL (gN 2) m__law_thing_b1 ((List.range' k m).map nI) [.d (.list (xs.map nI)), .o true (.lst ps), s2, s3, s4] = .nx [.d (.list (xs.map nI)), .o true (.lst ps'), s2', s3', s4'] := by
  intro m
  induction m with
  | zero => intro k ps n dp s2 s3 s4 _ p _; exact ⟨ps, s2, s3, s4, p, by simp [ML.LIM, ML.content, ML.contents, ML.clean, ML.avSl, ML.datas, ML.obD, ML.slL, ML.seqOf, ML.dB, ML.dI, ML.dItems, ML.dTup, ML.dLst, ML.dStr, ML.isNone, ML.gIsN, ML.gNeg, ML.gAdd, ML.bInt, ML.tyName, ML.isTy, ML.ioOk, ML.gT, ML.gCons, ML.gNil, ML.fApp, ML.fExt, ML.fPop, forL]⟩
  | succ m ih =>
    intro k ps n dp s2 s3 s4 hk p hn
    obtain ⟨ps1, a3, a4, p1, e⟩ := th_step xs hx k (by omega) ps n dp s3 s4 p (by omega)
    obtain ⟨ps2, b2, b3, b4, p2, e2⟩ := ih (k + 1) ps1 (n + 1) (dp + 1) (.d (nI k)) a3 a4 (by omega) p1 (by omega)
    refine ⟨ps2, b2, b3, b4, ?_, ?_⟩
    · have e1 : n + (m + 1) = n + 1 + m := by omega
      have e3 : dp + (m + 1) = dp + 1 + m := by omega
      rw [e1, e3]; exact p2
    · rw [List.range'_succ, List.map_cons, forL, gN_e]
      simp only [List.set]
      rw [e]
      exact e2
theorem law_thing_ok (xs : List Nat) (hl : xs.length = 40) (hx : ∀ x ∈ xs, x < BN) : ∃ (d : D) (o : List Sl), Good 20 20 d ∧ F__law_thing [.d (.list (xs.map nI))] = .ok (.d d) o := by
  obtain ⟨d0, o0, g0, h0⟩ := plain_ok (xs[0]'(by omega)) (hx _ (List.getElem_mem _))
  have c0 : eRv (callM F__law_plain (aD (e2 gIx (qR 0) (qD (eC (.int 0)))) (aNil))) [.d (.list (xs.map nI)), .un, .un, .un, .un] = .ok d0 [.d (.list (xs.map nI)), .un, .un, .un, .un] := by
    have ix := ixl xs 0 (by omega)
    generalize xs.map nI = L at ix ⊢
    exact call1 (x := nI (xs[0]'(by omega))) (by simp [ML.LIM, ML.content, ML.contents, ML.clean, ML.avSl, ML.datas, ML.obD, ML.slL, ML.seqOf, ML.dB, ML.dI, ML.dItems, ML.dTup, ML.dLst, ML.dStr, ML.isNone, ML.gIsN, ML.gNeg, ML.gAdd, ML.bInt, ML.tyName, ML.isTy, ML.ioOk, ML.gT, ML.gCons, ML.gNil, ML.fApp, ML.fExt, ML.fPop]; rw [show (PySem.PyData.int 0) = .int ((0 : Nat) : Int) from rfl, ix]; rfl) h0 rfl
  have p0 : Pool 1 1 [d0] := by
    obtain ⟨ns, hns⟩ := g0.e
    refine ⟨⟨g0.f, trivial⟩, ⟨ns, by rw [encOs, hns, encOs]; simp [ML.LIM, ML.content, ML.contents, ML.clean, ML.avSl, ML.datas, ML.obD, ML.slL, ML.seqOf, ML.dB, ML.dI, ML.dItems, ML.dTup, ML.dLst, ML.dStr, ML.isNone, ML.gIsN, ML.gNeg, ML.gAdd, ML.bInt, ML.tyName, ML.isTy, ML.ioOk, ML.gT, ML.gCons, ML.gNil, ML.fApp, ML.fExt, ML.fPop]⟩, by rw [nods, nods]; exact g0.n, by rw [PySem.PyData.depthAll, PySem.PyData.depthAll]; have := g0.d; omega, by simp [ML.LIM, ML.content, ML.contents, ML.clean, ML.avSl, ML.datas, ML.obD, ML.slL, ML.seqOf, ML.dB, ML.dI, ML.dItems, ML.dTup, ML.dLst, ML.dStr, ML.isNone, ML.gIsN, ML.gNeg, ML.gAdd, ML.bInt, ML.tyName, ML.isTy, ML.ioOk, ML.gT, ML.gCons, ML.gNil, ML.fApp, ML.fExt, ML.fPop]⟩
  obtain ⟨m, hm⟩ : ∃ m : Nat, ((xs[39]'(by omega) : Nat) : Int) % 14 = (m : Int) := ⟨xs[39] % 14, by omega⟩
  have hm2 : m < 14 := by omega
  obtain ⟨ps, s2, s3, s4, pp, e⟩ := th_loop xs hx m 0 [d0] 1 1 .un .un .un (by omega) p0 (by omega)
  have a0 : sSetO 1 (oLst (aD (eRv (callM F__law_plain (aD (e2 gIx (qR 0) (qD (eC (.int 0)))) (aNil)))) (aNil))) [.d (.list (xs.map nI)), .un, .un, .un, .un] = .nx [.d (.list (xs.map nI)), .o true (.lst [d0]), .un, .un, .un] := by
    generalize xs.map nI = L at c0 ⊢
    simp [ML.LIM, ML.content, ML.contents, ML.clean, ML.avSl, ML.datas, ML.obD, ML.slL, ML.seqOf, ML.dB, ML.dI, ML.dItems, ML.dTup, ML.dLst, ML.dStr, ML.isNone, ML.gIsN, ML.gNeg, ML.gAdd, ML.bInt, ML.tyName, ML.isTy, ML.ioOk, ML.gT, ML.gCons, ML.gNil, ML.fApp, ML.fExt, ML.fPop, c0]
  have w : m__law_thing_w2 [.d (.list (xs.map nI)), .o true (.lst [d0]), .un, .un, .un] = .nx [.d (.list (xs.map nI)), .o true (.lst ps), s2, s3, s4] := by
    rw [m__law_thing_w2, sFor_e, xS_e, iRg_e, bind_e, aD_e, bind_e]
    have ix := ixl xs 39 (by omega)
    have hb : ML.e2 gMod (qD (eBlt bInt (aD (ML.e2 gIx (qR 0) (qD (eC (.int 39)))) (aNil)))) (qD (eC (.int 14))) [.d (.list (xs.map nI)), .o true (.lst [d0]), .un, .un, .un] = .ok (.int (m : Int)) [.d (.list (xs.map nI)), .o true (.lst [d0]), .un, .un, .un] := by
      generalize xs.map nI = L at ix ⊢
      have ix' : gIx (.d (.list L)) (.d (.int 39)) = some (.int ((xs[39]'(by omega) : Nat) : Int)) := ix
      simp [ML.LIM, ML.content, ML.contents, ML.clean, ML.avSl, ML.datas, ML.obD, ML.slL, ML.seqOf, ML.dB, ML.dI, ML.dItems, ML.dTup, ML.dLst, ML.dStr, ML.isNone, ML.gIsN, ML.gNeg, ML.gAdd, ML.bInt, ML.tyName, ML.isTy, ML.ioOk, ML.gT, ML.gCons, ML.gNil, ML.fApp, ML.fExt, ML.fPop, ix', hm, -Int.natCast_emod]
    rw [hb]
    simp only [bind_e, aNil_e, ret_e, rng1]
    rw [if_pos (by omega)]
    simp only [lift_some, Int.toNat_natCast]
    rw [rng_map, List.range_eq_range']
    exact e
  have lps := nods_len ps
  have pn := pp.n
  have pl := pp.l
  have hfin : ∃ d : D, Good 20 20 d ∧ (eIf (b2 gGt (qD (e2 gMod (qD (eBlt bInt (aD (e2 gIx (qR 0) (qD (eC (.int 38)))) (aNil)))) (qD (eC (.int 4))))) (qD (eC (.int 0)))) (eBlt bTupOf (aR 1 (aNil))) (e2 gIx (qR 1) (qD (e1 gNeg (eC (.int 1)))))) [.d (.list (xs.map nI)), .o true (.lst ps), s2, s3, s4] = .ok d [.d (.list (xs.map nI)), .o true (.lst ps), s2, s3, s4] := by
    have ix := ixl xs 38 (by omega)
    generalize xs.map nI = L at ix ⊢
    have ix' : gIx (.d (.list L)) (.d (.int 38)) = some (.int ((xs[38]'(by omega) : Nat) : Int)) := ix
    by_cases h : (0 : Int) < ((xs[38]'(by omega) : Nat) : Int) % 4
    · refine ⟨.tuple ps, ?_, ?_⟩
      · have g := good_tup pp.f pp.e pp.n pp.d (by omega)
        exact ⟨g.f, g.e, by have := g.n; omega, by have := g.d; omega⟩
      · simp [ML.LIM, ML.content, ML.contents, ML.clean, ML.avSl, ML.datas, ML.obD, ML.slL, ML.seqOf, ML.dB, ML.dI, ML.dItems, ML.dTup, ML.dLst, ML.dStr, ML.isNone, ML.gIsN, ML.gNeg, ML.gAdd, ML.bInt, ML.tyName, ML.isTy, ML.ioOk, ML.gT, ML.gCons, ML.gNil, ML.fApp, ML.fExt, ML.fPop, ix', h, bTupOf, seqOf, -Int.natCast_emod]
    · have hne : ps ≠ [] := by intro z; rw [z] at pl; simp [ML.LIM, ML.content, ML.contents, ML.clean, ML.avSl, ML.datas, ML.obD, ML.slL, ML.seqOf, ML.dB, ML.dI, ML.dItems, ML.dTup, ML.dLst, ML.dStr, ML.isNone, ML.gIsN, ML.gNeg, ML.gAdd, ML.bInt, ML.tyName, ML.isTy, ML.ioOk, ML.gT, ML.gCons, ML.gNil, ML.fApp, ML.fExt, ML.fPop] at pl
      obtain ⟨a, hab⟩ : ∃ a, ps = a ++ [ps.getLast hne] := ⟨ps.dropLast, (List.dropLast_concat_getLast hne).symm⟩
      generalize ps.getLast hne = b at hab
      subst hab
      refine ⟨b, ?_, ?_⟩
      · obtain ⟨f1, f2⟩ := allFs_append.mp pp.f
        obtain ⟨ns, he⟩ := pp.e
        rw [encOs_append] at he
        obtain ⟨x, hx2, he⟩ := Option.bind_eq_some_iff.mp he
        obtain ⟨y, hy, _⟩ := Option.map_eq_some_iff.mp he
        rw [encOs] at hy
        obtain ⟨z, hz, _⟩ := Option.bind_eq_some_iff.mp hy
        have pd := pp.d
        rw [nods_append, nods, nods] at pn
        rw [depthAll_append, PySem.PyData.depthAll, PySem.PyData.depthAll] at pd
        exact ⟨f2.1, ⟨z, hz⟩, by omega, by omega⟩
      · have il : gIx (.o true (.lst (a ++ [b]))) (.d (.int (-1))) = some b := by
          show atI (a ++ [b]) (-1) = _
          unfold L2.atI L2.ixN
          rw [if_neg (by decide), if_pos (by rw [List.length_append, List.length_singleton]; omega)]
          have : (-1 + ((a ++ [b]).length : Int)).toNat = a.length := by rw [List.length_append, List.length_singleton]; omega
          simp only [Option.bind_some, this]
          simp [ML.LIM, ML.content, ML.contents, ML.clean, ML.avSl, ML.datas, ML.obD, ML.slL, ML.seqOf, ML.dB, ML.dI, ML.dItems, ML.dTup, ML.dLst, ML.dStr, ML.isNone, ML.gIsN, ML.gNeg, ML.gAdd, ML.bInt, ML.tyName, ML.isTy, ML.ioOk, ML.gT, ML.gCons, ML.gNil, ML.fApp, ML.fExt, ML.fPop]
        simp [ML.LIM, ML.content, ML.contents, ML.clean, ML.avSl, ML.datas, ML.obD, ML.slL, ML.seqOf, ML.dB, ML.dI, ML.dItems, ML.dTup, ML.dLst, ML.dStr, ML.isNone, ML.gIsN, ML.gNeg, ML.gAdd, ML.bInt, ML.tyName, ML.isTy, ML.ioOk, ML.gT, ML.gCons, ML.gNil, ML.fApp, ML.fExt, ML.fPop, ix', h, il, -Int.natCast_emod]
  obtain ⟨d, gd, hd⟩ := hfin
  refine ⟨d, [.d (.list (xs.map nI))], gd, ?_⟩
  simp only [F__law_thing, runBody, m__law_thing]
  generalize xs.map nI = L at a0 w hd ⊢
  simp [ML.LIM, ML.content, ML.contents, ML.clean, ML.avSl, ML.datas, ML.obD, ML.slL, ML.seqOf, ML.dB, ML.dI, ML.dItems, ML.dTup, ML.dLst, ML.dStr, ML.isNone, ML.gIsN, ML.gNeg, ML.gAdd, ML.bInt, ML.tyName, ML.isTy, ML.ioOk, ML.gT, ML.gCons, ML.gNil, ML.fApp, ML.fExt, ML.fPop, a0, w, hd, -sSetO_e, -eIf_e]
end K62
end

section
set_option Elab.async false
set_option linter.all false
set_option maxRecDepth 100000
set_option maxHeartbeats 2000000
namespace K62
open PySem (Str)
open L2 (atI ixN)
open ML
mutual
theorem enc_okT : ∀ (d : D) (a : List Nat), encO d = some a → allF d → okT d
  | .none, _, _, _ => trivial
  | .bool _, _, _, _ => trivial
  | .int _, _, _, _ => trivial
  | .str z, a, h, _ => (enc_eq (.str z) a h).2
  | .tuple xs, a, h, f => by
    rw [encO] at h
    obtain ⟨r, hr, _⟩ := Option.map_eq_some_iff.mp h
    exact ⟨Nat.le_trans f.1 (by decide), encs_okT xs r hr f.2⟩
  | .list _, _, h, _ => by cases h
  | .dict _, _, h, _ => by cases h
theorem encs_okT : ∀ (xs : List D) (a : List Nat), encOs xs = some a → allFs xs → okTs xs
  | [], _, _, _ => trivial
  | x :: xs, a, h, f => by
    rw [encOs] at h
    obtain ⟨b, hb, h⟩ := Option.bind_eq_some_iff.mp h
    obtain ⟨c, hc, _⟩ := Option.map_eq_some_iff.mp h
    exact ⟨enc_okT x b hb f.1, encs_okT xs c hc f.2⟩
end
theorem ints_okT : ∀ ns : List Nat, okTs (ns.map nI) ∧ nods (ns.map nI) = ns.length
  | [] => ⟨trivial, rfl⟩
  | n :: r => by
    obtain ⟨h1, h2⟩ := ints_okT r
    refine ⟨⟨trivial, h1⟩, ?_⟩
    rw [List.map_cons, nods, h2, List.length_cons]
    show 1 + r.length = _
    omega
theorem octD_ok {bs : List Nat} (h : bs.length ≤ 880000) : okT (octD bs) ∧ nod (octD bs) ≤ 1000000 ∧ (octD bs).depth = 1 := by
  have loc : (octs bs).length = bs.length + 4 := by unfold octs; simp [ML.LIM, ML.content, ML.contents, ML.clean, ML.avSl, ML.datas, ML.obD, ML.slL, ML.seqOf, ML.dB, ML.dI, ML.dItems, ML.dTup, ML.dLst, ML.dStr, ML.isNone, ML.gIsN, ML.gNeg, ML.gAdd, ML.bInt, ML.tyName, ML.isTy, ML.ioOk, ML.gT, ML.gCons, ML.gNil, ML.fApp, ML.fExt, ML.fPop]
  obtain ⟨h1, h2⟩ := ints_okT (octs bs)
  refine ⟨⟨by rw [List.length_map, loc]; omega, h1⟩, ?_, ?_⟩
  · show nod (.tuple ((octs bs).map nI)) ≤ _
    rw [nod, h2, loc]; omega
  · show PySem.PyData.depth (.tuple ((octs bs).map nI)) = _
    rw [PySem.PyData.depth, (ints_ok (octs bs)).2.2]
theorem callS {F : List Sl → CR} {ns : List Int} {m : M D} {x v : D} {rest rest' : List Sl} {r : RV} {o : List Sl} (h : m (.sc ns :: rest) = .ok x (.sc ns :: rest')) (hF : F [.sc ns, .d x] = .ok r o) (hv : rvD r = some v) : eRv (callM F (aR 0 (aD m aNil))) (.sc ns :: rest) = .ok v (.sc ns :: rest') := by
  simp only [eRv, callM, aR_e, bind_e, okR_e, List.getElem?_cons_zero, aD_e, h, aNil_e, ret_e]
  rw [show ios (.sc ns :: rest') [.ref 0, .d x] 0 = some none from rfl]
  dsimp only
  rw [show (contents (.sc ns :: rest') [.ref 0, .d x]).map argOf = [.sc ns, .d x] from rfl, hF]
  show lift (rvD r) (.sc ns :: rest') = _
  rw [hv]; rfl
abbrev G (d : D) : Prop := Good 20 20 d
theorem good_oct {d : D} (g : G d) : ∃ (bs : List Nat), encO d = some bs ∧ bs.length ≤ 880000 ∧ (∃ o, F__law_octets [.d d] = .ok (.d (octD bs)) o) ∧ (∃ o, F_octets_of [.d d] = .ok (.d (octD bs)) o) ∧ (∃ o, F__law_told [.d d] = .ok (.d (.tuple [.str "told", octD bs])) o) ∧ (∃ o, F_thing_of [.d (octD bs)] = .ok (.d d) o) := by
  obtain ⟨bs, he⟩ := g.e
  have n8 : nod d ≤ 800 := Nat.le_trans g.n (by decide)
  have lt := fun (ns : List Nat) (e : encO d = some ns) (x : Nat) (hx : x ∈ ns) => Nat.lt_trans (enc_lt d ns e x hx) (show 256 < 1000 by decide)
  exact ⟨bs, he, enc_le g.f n8 he, lawoct_ok d g.f n8 bs he (Nat.le_trans g.d (by decide)) (lt bs he), octets_some d g.f n8 lt bs he, told_yes d g.f n8 bs he, thing_of_ok d g.f n8 bs he⟩
/-! ## one and other -/
theorem pair_ok (e0 : List Sl) (x y : D) (gx : G x) (gy : G y) (hl : e0.length = 8) : m_law_b1 (e0 ++ [.d x, .d y]) = .nx (e0 ++ [.d x, .d y]) := by
  obtain ⟨a, ha, la, ⟨o1, h1⟩, _, _, ⟨o2, h2⟩⟩ := good_oct gx
  obtain ⟨b, hb, lb, _, ⟨o3, h3⟩, _, ⟨o4, h4⟩⟩ := good_oct gy
  have v8 : eV 8 (e0 ++ [.d x, .d y]) = .ok x (e0 ++ [.d x, .d y]) := by simp [ML.LIM, ML.content, ML.contents, ML.clean, ML.avSl, ML.datas, ML.obD, ML.slL, ML.seqOf, ML.dB, ML.dI, ML.dItems, ML.dTup, ML.dLst, ML.dStr, ML.isNone, ML.gIsN, ML.gNeg, ML.gAdd, ML.bInt, ML.tyName, ML.isTy, ML.ioOk, ML.gT, ML.gCons, ML.gNil, ML.fApp, ML.fExt, ML.fPop, hl]
  have v9 : eV 9 (e0 ++ [.d x, .d y]) = .ok y (e0 ++ [.d x, .d y]) := by simp [ML.LIM, ML.content, ML.contents, ML.clean, ML.avSl, ML.datas, ML.obD, ML.slL, ML.seqOf, ML.dB, ML.dI, ML.dItems, ML.dTup, ML.dLst, ML.dStr, ML.isNone, ML.gIsN, ML.gNeg, ML.gAdd, ML.bInt, ML.tyName, ML.isTy, ML.ioOk, ML.gT, ML.gCons, ML.gNil, ML.fApp, ML.fExt, ML.fPop, hl]
  have c1 := call1 (F := F__law_octets) v8 h1 rfl
  have c2 := call1 (F := F_octets_of) v9 h3 rfl
  have q : gEq false (.d (octD a)) (.d (octD b)) = some (.bool (decide (octs a = octs b))) := oct_eq (octs a) (octs b)
  have ok := same_ok x y (enc_okT x a ha gx.f) (enc_okT y b hb gy.f) (Nat.lt_of_le_of_lt gy.d (by decide)) (Nat.le_trans gy.n (by decide))
  have key : ∀ t : Bool, (∃ o, F__law_same [.d x, .d y] = .ok (.d (.bool t)) o) → decide (octs a = octs b) = t → m_law_b1 (e0 ++ [.d x, .d y]) = .nx (e0 ++ [.d x, .d y]) := by
    intro t ⟨o, hs⟩ ht
    have c3 := call2 (F := F__law_same) v8 v9 hs rfl
    rw [ht] at q
    have q2 : gEq true (.d (.bool t)) (.d (.bool t)) = some (.bool false) := by rw [neb]; cases t <;> rfl
    generalize octD a = A at c1 q
    generalize octD b = B at c2 q
    generalize e0 ++ [.d x, .d y] = E at c1 c2 c3 ⊢
    simp [ML.LIM, ML.content, ML.contents, ML.clean, ML.avSl, ML.datas, ML.obD, ML.slL, ML.seqOf, ML.dB, ML.dI, ML.dItems, ML.dTup, ML.dLst, ML.dStr, ML.isNone, ML.gIsN, ML.gNeg, ML.gAdd, ML.bInt, ML.tyName, ML.isTy, ML.ioOk, ML.gT, ML.gCons, ML.gNil, ML.fApp, ML.fExt, ML.fPop, m_law_b1, c1, c2, c3, q, q2]
  by_cases hxy : x = y
  · subst hxy
    rw [ha] at hb
    cases hb
    exact key true (ok.1 rfl) (decide_eq_true rfl)
  · refine key false (ok.2 hxy) (decide_eq_false fun z => hxy ?_)
    have z2 : octD a = octD b := by unfold octD; rw [z]
    rw [z2, h4] at h2
    cases h2
    rfl
theorem inner_ok (e0 : List Sl) (x : D) (gx : G x) (hl : e0.length = 8) : ∀ (ys : List D) (s9 : Sl), (∀ y ∈ ys, G y) → ∃ s9', forL (gN 9) m_law_b1 ys (e0 ++ [.d x, s9]) = .nx (e0 ++ [.d x, s9']) := by
  intro ys
  induction ys with
  | nil => intro s9 _; exact ⟨s9, rfl⟩
  | cons y r ih =>
    intro s9 h
    rw [forL, gN_e]
    have st : (e0 ++ [.d x, s9]).set 9 (.d y) = e0 ++ [.d x, .d y] := by
      rw [List.set_append_right _ _ (by omega), hl]; rfl
    rw [st]
    dsimp only
    rw [pair_ok e0 x y gx (h y List.mem_cons_self) hl]
    exact ih (.d y) fun z hz => h z (List.mem_cons_of_mem _ hz)
theorem outer_ok (e0 : List Sl) (ts : List D) (gt : ∀ y ∈ ts, G y) (hl : e0.length = 8) (h1 : e0[1]? = some (.d (.list ts))) : ∀ (xs : List D) (s8 s9 : Sl), (∀ y ∈ xs, G y) → ∃ s8' s9', forL (gN 8) m_law_b3 xs (e0 ++ [s8, s9]) = .nx (e0 ++ [s8', s9']) := by
  intro xs
  induction xs with
  | nil => intro s8 s9 _; exact ⟨s8, s9, rfl⟩
  | cons x r ih =>
    intro s8 s9 h
    rw [forL, gN_e]
    have st : (e0 ++ [s8, s9]).set 8 (.d x) = e0 ++ [.d x, s9] := by
      rw [List.set_append_right _ _ (by omega), hl]; rfl
    rw [st]
    dsimp only
    obtain ⟨s9', e⟩ := inner_ok e0 x (h x List.mem_cons_self) hl ts s9 gt
    have g1 : (e0 ++ [.d x, s9])[1]? = some (.d (.list ts)) := by rw [List.getElem?_append_left (by omega)]; exact h1
    have w : m_law_b3 (e0 ++ [.d x, s9]) = .nx (e0 ++ [.d x, s9']) := by
      rw [m_law_b3, m_law_w2, sFor_e, xS_e, iD_e, bind_e, eV_e, g1]
      exact e
    rw [w]
    exact ih (.d x) s9' fun z hz => h z (List.mem_cons_of_mem _ hz)
/-! ## what is none -/
structure Bad (n : Nat) (d : D) : Prop where
  f : allF d
  e : encO d = none
  n : nod d ≤ n
theorem bad_ok (t : D) (v : Nat) (hv : v < 8) : ∃ b, Bad 1 b ∧ gIx (.o true (.lst [.list [], .list [t], .dict [(.str "a", .int 1)], .str "a\nb", .str "\n", .dict [], .list [.int 0], .dict [(.str "a", t)]])) (.d (.int (v : Int))) = some b := by
  have cv : v = 0 ∨ v = 1 ∨ v = 2 ∨ v = 3 ∨ v = 4 ∨ v = 5 ∨ v = 6 ∨ v = 7 := by omega
  rcases cv with rfl | rfl | rfl | rfl | rfl | rfl | rfl | rfl
  · exact ⟨.list [], ⟨trivial, rfl, Nat.le_refl _⟩, rfl⟩
  · exact ⟨.list [t], ⟨trivial, rfl, Nat.le_refl _⟩, rfl⟩
  · exact ⟨.dict [(.str "a", .int 1)], ⟨trivial, rfl, Nat.le_refl _⟩, rfl⟩
  · exact ⟨.str "a\nb", ⟨show (Str.ofString "a\nb").length ≤ 1000 by decide +kernel, by rw [encO, if_neg (by decide +kernel)], Nat.le_refl _⟩, rfl⟩
  · exact ⟨.str "\n", ⟨show (Str.ofString "\n").length ≤ 1000 by decide +kernel, by rw [encO, if_neg (by decide +kernel)], Nat.le_refl _⟩, rfl⟩
  · exact ⟨.dict [], ⟨trivial, rfl, Nat.le_refl _⟩, rfl⟩
  · exact ⟨.list [.int 0], ⟨trivial, rfl, Nat.le_refl _⟩, rfl⟩
  · exact ⟨.dict [(.str "a", t)], ⟨trivial, rfl, Nat.le_refl _⟩, rfl⟩
theorem zs (i : Int) (h : i.natAbs < 1000) : zig i < BIG := by
  have h1 : (zig i : Int) ≤ 2 * (i.natAbs : Int) := by rw [zig_cast]; split <;> omega
  have h3 : (2000 : Nat) < BIG := by decide +kernel
  omega
theorem odd_ok (t b : D) (gt : G t) (hb : Bad 1 b) (v : Nat) (hv : v < 5) : ∃ c, Bad 100 c ∧ gIx (.o true (.lst [b, .tuple [t, b], .tuple [b, t], .tuple [.tuple [], .tuple [b]], .tuple [.int 1, .tuple [.int 2, .tuple [.int 3, b]]]])) (.d (.int (v : Int))) = some c := by
  have cv : v = 0 ∨ v = 1 ∨ v = 2 ∨ v = 3 ∨ v = 4 := by omega
  have nt := gt.n
  have nb := hb.n
  rcases cv with rfl | rfl | rfl | rfl | rfl
  · exact ⟨b, ⟨hb.f, hb.e, by omega⟩, rfl⟩
  · obtain ⟨ns, he⟩ := gt.e
    refine ⟨.tuple [t, b], ⟨⟨by simp [ML.LIM, ML.content, ML.contents, ML.clean, ML.avSl, ML.datas, ML.obD, ML.slL, ML.seqOf, ML.dB, ML.dI, ML.dItems, ML.dTup, ML.dLst, ML.dStr, ML.isNone, ML.gIsN, ML.gNeg, ML.gAdd, ML.bInt, ML.tyName, ML.isTy, ML.ioOk, ML.gT, ML.gCons, ML.gNil, ML.fApp, ML.fExt, ML.fPop], gt.f, hb.f, trivial⟩, ?_, ?_⟩, rfl⟩
    · rw [encO, encOs, encOs, he, hb.e]; rfl
    · rw [nod, nods, nods, nods]; omega
  · refine ⟨.tuple [b, t], ⟨⟨by simp [ML.LIM, ML.content, ML.contents, ML.clean, ML.avSl, ML.datas, ML.obD, ML.slL, ML.seqOf, ML.dB, ML.dI, ML.dItems, ML.dTup, ML.dLst, ML.dStr, ML.isNone, ML.gIsN, ML.gNeg, ML.gAdd, ML.bInt, ML.tyName, ML.isTy, ML.ioOk, ML.gT, ML.gCons, ML.gNil, ML.fApp, ML.fExt, ML.fPop], hb.f, gt.f, trivial⟩, ?_, ?_⟩, rfl⟩
    · rw [encO, encOs, hb.e]; rfl
    · rw [nod, nods, nods, nods]; omega
  · refine ⟨.tuple [.tuple [], .tuple [b]], ⟨⟨by simp [ML.LIM, ML.content, ML.contents, ML.clean, ML.avSl, ML.datas, ML.obD, ML.slL, ML.seqOf, ML.dB, ML.dI, ML.dItems, ML.dTup, ML.dLst, ML.dStr, ML.isNone, ML.gIsN, ML.gNeg, ML.gAdd, ML.bInt, ML.tyName, ML.isTy, ML.ioOk, ML.gT, ML.gCons, ML.gNil, ML.fApp, ML.fExt, ML.fPop], ⟨by simp [ML.LIM, ML.content, ML.contents, ML.clean, ML.avSl, ML.datas, ML.obD, ML.slL, ML.seqOf, ML.dB, ML.dI, ML.dItems, ML.dTup, ML.dLst, ML.dStr, ML.isNone, ML.gIsN, ML.gNeg, ML.gAdd, ML.bInt, ML.tyName, ML.isTy, ML.ioOk, ML.gT, ML.gCons, ML.gNil, ML.fApp, ML.fExt, ML.fPop], trivial⟩, ⟨by simp [ML.LIM, ML.content, ML.contents, ML.clean, ML.avSl, ML.datas, ML.obD, ML.slL, ML.seqOf, ML.dB, ML.dI, ML.dItems, ML.dTup, ML.dLst, ML.dStr, ML.isNone, ML.gIsN, ML.gNeg, ML.gAdd, ML.bInt, ML.tyName, ML.isTy, ML.ioOk, ML.gT, ML.gCons, ML.gNil, ML.fApp, ML.fExt, ML.fPop], hb.f, trivial⟩, trivial⟩, ?_, ?_⟩, rfl⟩
    · simp [ML.LIM, ML.content, ML.contents, ML.clean, ML.avSl, ML.datas, ML.obD, ML.slL, ML.seqOf, ML.dB, ML.dI, ML.dItems, ML.dTup, ML.dLst, ML.dStr, ML.isNone, ML.gIsN, ML.gNeg, ML.gAdd, ML.bInt, ML.tyName, ML.isTy, ML.ioOk, ML.gT, ML.gCons, ML.gNil, ML.fApp, ML.fExt, ML.fPop, encO, encOs, hb.e]
    · simp [ML.LIM, ML.content, ML.contents, ML.clean, ML.avSl, ML.datas, ML.obD, ML.slL, ML.seqOf, ML.dB, ML.dI, ML.dItems, ML.dTup, ML.dLst, ML.dStr, ML.isNone, ML.gIsN, ML.gNeg, ML.gAdd, ML.bInt, ML.tyName, ML.isTy, ML.ioOk, ML.gT, ML.gCons, ML.gNil, ML.fApp, ML.fExt, ML.fPop, nod, nods]; omega
  · refine ⟨.tuple [.int 1, .tuple [.int 2, .tuple [.int 3, b]]], ⟨⟨by simp [ML.LIM, ML.content, ML.contents, ML.clean, ML.avSl, ML.datas, ML.obD, ML.slL, ML.seqOf, ML.dB, ML.dI, ML.dItems, ML.dTup, ML.dLst, ML.dStr, ML.isNone, ML.gIsN, ML.gNeg, ML.gAdd, ML.bInt, ML.tyName, ML.isTy, ML.ioOk, ML.gT, ML.gCons, ML.gNil, ML.fApp, ML.fExt, ML.fPop], zs 1 (by decide), ⟨by simp [ML.LIM, ML.content, ML.contents, ML.clean, ML.avSl, ML.datas, ML.obD, ML.slL, ML.seqOf, ML.dB, ML.dI, ML.dItems, ML.dTup, ML.dLst, ML.dStr, ML.isNone, ML.gIsN, ML.gNeg, ML.gAdd, ML.bInt, ML.tyName, ML.isTy, ML.ioOk, ML.gT, ML.gCons, ML.gNil, ML.fApp, ML.fExt, ML.fPop], zs 2 (by decide), ⟨by simp [ML.LIM, ML.content, ML.contents, ML.clean, ML.avSl, ML.datas, ML.obD, ML.slL, ML.seqOf, ML.dB, ML.dI, ML.dItems, ML.dTup, ML.dLst, ML.dStr, ML.isNone, ML.gIsN, ML.gNeg, ML.gAdd, ML.bInt, ML.tyName, ML.isTy, ML.ioOk, ML.gT, ML.gCons, ML.gNil, ML.fApp, ML.fExt, ML.fPop], zs 3 (by decide), hb.f, trivial⟩, trivial⟩, trivial⟩, ?_, ?_⟩, rfl⟩
    · simp [ML.LIM, ML.content, ML.contents, ML.clean, ML.avSl, ML.datas, ML.obD, ML.slL, ML.seqOf, ML.dB, ML.dI, ML.dItems, ML.dTup, ML.dLst, ML.dStr, ML.isNone, ML.gIsN, ML.gNeg, ML.gAdd, ML.bInt, ML.tyName, ML.isTy, ML.ioOk, ML.gT, ML.gCons, ML.gNil, ML.fApp, ML.fExt, ML.fPop, encO, encOs, hb.e]
    · simp [ML.LIM, ML.content, ML.contents, ML.clean, ML.avSl, ML.datas, ML.obD, ML.slL, ML.seqOf, ML.dB, ML.dI, ML.dItems, ML.dTup, ML.dLst, ML.dStr, ML.isNone, ML.gIsN, ML.gNeg, ML.gAdd, ML.bInt, ML.tyName, ML.isTy, ML.ioOk, ML.gT, ML.gCons, ML.gNil, ML.fApp, ML.fExt, ML.fPop, nod, nods]; omega
end K62
end

section
set_option Elab.async false
set_option linter.all false
set_option maxRecDepth 100000
set_option maxHeartbeats 4000000
namespace K62
open PySem (Str)
open L2 (atI ixN)
open ML
section
variable (ns : List Int) (ts : List D) (k : Nat) (s8 s9 : Sl)
abbrev LE (a b c d f : Sl) : List Sl := [.sc ns, .o true (.lst ts), .d (nI k), a, b, c, d, f, s8, s9]
theorem st_thing (a b c d f : Sl) : ∃ t, G t ∧ sSet 3 (eRv (callM F__law_thing (aD (eRv (callM F__law_numbers (aR 0 (aD (eV 2) (aNil))))) (aNil)))) (LE ns ts k s8 s9 a b c d f) = .nx (LE ns ts k s8 s9 (.d t) b c d f) := by
  obtain ⟨xs, o, hl, hx, h⟩ := numbers_ok ns k
  obtain ⟨t, o2, g, h2⟩ := law_thing_ok xs hl hx
  refine ⟨t, g, ?_⟩
  have c1 : eRv (callM F__law_numbers (aR 0 (aD (eV 2) (aNil)))) (LE ns ts k s8 s9 a b c d f) = .ok (.list (xs.map nI)) (LE ns ts k s8 s9 a b c d f) := callS (m := eV 2) (x := nI k) rfl h rfl
  have c2 := call1 (F := F__law_thing) c1 h2 rfl
  rw [sSet_e, xS_e, c2]
  rfl
theorem st_oct (t : D) (bs : List Nat) (ho : ∃ o, F__law_octets [.d t] = .ok (.d (octD bs)) o) (b c d f : Sl) : sSet 4 (eRv (callM F__law_octets (aD (eV 3) (aNil)))) (LE ns ts k s8 s9 (.d t) b c d f) = .nx (LE ns ts k s8 s9 (.d t) (.d (octD bs)) c d f) := by
  obtain ⟨o, h⟩ := ho
  have c1 := call1 (F := F__law_octets) (m := eV 3) (e := LE ns ts k s8 s9 (.d t) b c d f) (e' := LE ns ts k s8 s9 (.d t) b c d f) rfl h rfl
  rw [sSet_e, xS_e, c1]
  rfl
theorem st_chk (t : D) (bs : List Nat) (g : G t) (he : encO t = some bs) (hlen : bs.length ≤ 880000) (ht : ∃ o, F__law_told [.d t] = .ok (.d (.tuple [.str "told", octD bs])) o) (hth : ∃ o, F_thing_of [.d (octD bs)] = .ok (.d t) o) (c d f : Sl) : sIf (tOr_ (tNot_ (tB_ (eRv (callM F__law_same (aD (eRv (callM F__law_told (aD (eV 3) (aNil)))) (aD (eTup (aD (eC (.str "told")) (aD (eV 4) (aNil)))) (aNil))))))) (tNot_ (tB_ (eRv (callM F__law_same (aD (eRv (callM F_thing_of (aD (eV 4) (aNil)))) (aD (eV 3) (aNil)))))))) (sRet (eC (.bool false))) (sNil) (LE ns ts k s8 s9 (.d t) (.d (octD bs)) c d f) = .nx (LE ns ts k s8 s9 (.d t) (.d (octD bs)) c d f) := by
  obtain ⟨o1, h1⟩ := ht
  obtain ⟨o2, h2⟩ := hth
  obtain ⟨k1, k2, k3⟩ := octD_ok hlen
  have v3 : eV 3 (LE ns ts k s8 s9 (.d t) (.d (octD bs)) c d f) = .ok t (LE ns ts k s8 s9 (.d t) (.d (octD bs)) c d f) := rfl
  have v4 : eV 4 (LE ns ts k s8 s9 (.d t) (.d (octD bs)) c d f) = .ok (octD bs) (LE ns ts k s8 s9 (.d t) (.d (octD bs)) c d f) := rfl
  have c1 := call1 (F := F__law_told) v3 h1 rfl
  have c2 := call1 (F := F_thing_of) v4 h2 rfl
  have okU : okT (.tuple [.str "told", octD bs]) := ⟨by simp [ML.LIM, ML.content, ML.contents, ML.clean, ML.avSl, ML.datas, ML.obD, ML.slL, ML.seqOf, ML.dB, ML.dI, ML.dItems, ML.dTup, ML.dLst, ML.dStr, ML.isNone, ML.gIsN, ML.gNeg, ML.gAdd, ML.bInt, ML.tyName, ML.isTy, ML.ioOk, ML.gT, ML.gCons, ML.gNil, ML.fApp, ML.fExt, ML.fPop], (by decide +kernel : PySem.PyData.strOk (Str.ofString "told") = true), k1, trivial⟩
  have dU : PySem.PyData.depth (.tuple [.str "told", octD bs]) < 30 := by
    rw [PySem.PyData.depth, PySem.PyData.depthAll, PySem.PyData.depthAll, PySem.PyData.depthAll, k3]
    rw [PySem.PyData.depth]
    omega
  have nU : nod (.tuple [.str "told", octD bs]) ≤ 10000000 := by
    rw [nod, nods, nods, nods, nod]; omega
  obtain ⟨o3, h3⟩ := (same_ok _ _ okU okU dU nU).1 rfl
  have okt := enc_okT t bs he g.f
  obtain ⟨o4, h4⟩ := (same_ok t t okt okt (Nat.lt_of_le_of_lt g.d (by decide)) (Nat.le_trans g.n (by decide))).1 rfl
  have c3 : eTup (aD (eC (.str "told")) (aD (eV 4) (aNil))) (LE ns ts k s8 s9 (.d t) (.d (octD bs)) c d f) = .ok (.tuple [.str "told", octD bs]) (LE ns ts k s8 s9 (.d t) (.d (octD bs)) c d f) := by
    generalize octD bs = A
    rfl
  have c4 := call2 (F := F__law_same) c1 c3 h3 rfl
  have c5 := call2 (F := F__law_same) c2 v3 h4 rfl
  generalize LE ns ts k s8 s9 (.d t) (.d (octD bs)) c d f = E at c4 c5 ⊢
  simp [ML.LIM, ML.content, ML.contents, ML.clean, ML.avSl, ML.datas, ML.obD, ML.slL, ML.seqOf, ML.dB, ML.dI, ML.dItems, ML.dTup, ML.dLst, ML.dStr, ML.isNone, ML.gIsN, ML.gNeg, ML.gAdd, ML.bInt, ML.tyName, ML.isTy, ML.ioOk, ML.gT, ML.gCons, ML.gNil, ML.fApp, ML.fExt, ML.fPop, c4, c5]
theorem st_app (t : D) (h : ts.length < 100) (b c d f : Sl) : sDrop (eMt 1 fApp (aR 3 (aNil))) (LE ns ts k s8 s9 (.d t) b c d f) = .nx (LE ns (ts ++ [t]) k s8 s9 (.d t) b c d f) := by
  have l1 : ts.length < 10000000 := by omega
  simp [ML.LIM, ML.content, ML.contents, ML.clean, ML.avSl, ML.datas, ML.obD, ML.slL, ML.seqOf, ML.dB, ML.dI, ML.dItems, ML.dTup, ML.dLst, ML.dStr, ML.isNone, ML.gIsN, ML.gNeg, ML.gAdd, ML.bInt, ML.tyName, ML.isTy, ML.ioOk, ML.gT, ML.gCons, ML.gNil, ML.fApp, ML.fExt, ML.fPop, fApp, l1]
theorem st_num (a b c d f : Sl) : ∃ xs : List Nat, xs.length = 40 ∧ (∀ x ∈ xs, x < BN) ∧ sSet 5 (eRv (callM F__law_numbers (aR 0 (aD (e2 gAdd (qD (eC (.int 20))) (qR 2)) (aNil))))) (LE ns ts k s8 s9 a b c d f) = .nx (LE ns ts k s8 s9 a b (.d (.list (xs.map nI))) d f) := by
  obtain ⟨xs, o, hl, hx, h⟩ := numbers_ok ns (20 + k)
  refine ⟨xs, hl, hx, ?_⟩
  have ek : (20 : Int) + (k : Int) = ((20 + k : Nat) : Int) := by omega
  have ar : e2 gAdd (qD (eC (.int 20))) (qR 2) (LE ns ts k s8 s9 a b c d f) = .ok (nI (20 + k)) (LE ns ts k s8 s9 a b c d f) := by
    show (ML.lift (gAdd (.d (.int 20)) (.d (.int (k : Int)))) _) = _
    have g : gAdd (.d (.int 20)) (.d (.int (k : Int))) = some (nI (20 + k)) := by
      show some (PySem.PyData.int ((20 : Int) + (k : Int))) = _
      rw [ek]; rfl
    rw [g]
    rfl
  have c1 := callS (F := F__law_numbers) ar h rfl
  rw [sSet_e, xS_e, c1]
  rfl
theorem st_bad (t : D) (xs : List Nat) (hl : xs.length = 40) (b d f : Sl) : ∃ q, Bad 1 q ∧ sSet 6 (e2 gIx (qF (oLst (aD (eO (oLst (aNil))) (aD (eO (oLst (aD (eV 3) (aNil)))) (aD (eO (oDct (kCons (eC (.str "a")) (eC (.int 1)) (kNil)))) (aD (eC (.str "a\nb")) (aD (eC (.str "\n")) (aD (eO (ret (.dct []))) (aD (eO (oLst (aD (eC (.int 0)) (aNil)))) (aD (eO (oDct (kCons (eC (.str "a")) (eV 3) (kNil)))) (aNil))))))))))) (qD (e2 gMod (qD (eBlt bInt (aD (e2 gIx (qR 5) (qD (eC (.int 0)))) (aNil)))) (qD (eC (.int 8)))))) (LE ns ts k s8 s9 (.d t) b (.d (.list (xs.map nI))) d f) = .nx (LE ns ts k s8 s9 (.d t) b (.d (.list (xs.map nI))) (.d q) f) := by
  have ix := ixl xs 0 (by omega)
  obtain ⟨v, hv⟩ : ∃ v : Nat, ((xs[0]'(by omega) : Nat) : Int) % 8 = (v : Int) := ⟨xs[0] % 8, by omega⟩
  obtain ⟨q, hq, hg⟩ := bad_ok t v (by omega)
  refine ⟨q, hq, ?_⟩
  generalize xs.map nI = L at ix ⊢
  have ix' : gIx (.d (.list L)) (.d (.int 0)) = some (.int ((xs[0]'(by omega) : Nat) : Int)) := ix
  have h1 : (e2 gMod (qD (eBlt bInt (aD (e2 gIx (qR 5) (qD (eC (.int 0)))) (aNil)))) (qD (eC (.int 8)))) (LE ns ts k s8 s9 (.d t) b (.d (.list L)) d f) = .ok (.int (v : Int)) (LE ns ts k s8 s9 (.d t) b (.d (.list L)) d f) := by
    simp [ML.LIM, ML.content, ML.contents, ML.clean, ML.avSl, ML.datas, ML.obD, ML.slL, ML.seqOf, ML.dB, ML.dI, ML.dItems, ML.dTup, ML.dLst, ML.dStr, ML.isNone, ML.gIsN, ML.gNeg, ML.gAdd, ML.bInt, ML.tyName, ML.isTy, ML.ioOk, ML.gT, ML.gCons, ML.gNil, ML.fApp, ML.fExt, ML.fPop, ix', hv, -Int.natCast_emod]
  have h2 : (oLst (aD (eO (oLst (aNil))) (aD (eO (oLst (aD (eV 3) (aNil)))) (aD (eO (oDct (kCons (eC (.str "a")) (eC (.int 1)) (kNil)))) (aD (eC (.str "a\nb")) (aD (eC (.str "\n")) (aD (eO (ret (.dct []))) (aD (eO (oLst (aD (eC (.int 0)) (aNil)))) (aD (eO (oDct (kCons (eC (.str "a")) (eV 3) (kNil)))) (aNil)))))))))) (LE ns ts k s8 s9 (.d t) b (.d (.list L)) d f) = .ok (.lst [.list [], .list [t], .dict [(.str "a", .int 1)], .str "a\nb", .str "\n", .dict [], .list [.int 0], .dict [(.str "a", t)]]) (LE ns ts k s8 s9 (.d t) b (.d (.list L)) d f) := rfl
  rw [sSet_e, xS_e, e2_e, bind_e, qF_e, bind_e, h2]
  simp only [ret_e, bind_e, qD_e, h1, content, hg, lift_some]
  rfl
theorem st_odd (t q : D) (g : G t) (hq : Bad 1 q) (xs : List Nat) (hl : xs.length = 40) (b f : Sl) : ∃ c, Bad 100 c ∧ sSet 7 (e2 gIx (qF (oLst (aD (eV 6) (aD (eTup (aD (eV 3) (aD (eV 6) (aNil)))) (aD (eTup (aD (eV 6) (aD (eV 3) (aNil)))) (aD (eTup (aD (eTup (aNil)) (aD (eTup (aD (eV 6) (aNil))) (aNil)))) (aD (eTup (aD (eC (.int 1)) (aD (eTup (aD (eC (.int 2)) (aD (eTup (aD (eC (.int 3)) (aD (eV 6) (aNil)))) (aNil)))) (aNil)))) (aNil)))))))) (qD (e2 gMod (qD (eBlt bInt (aD (e2 gIx (qR 5) (qD (eC (.int 1)))) (aNil)))) (qD (eC (.int 5)))))) (LE ns ts k s8 s9 (.d t) b (.d (.list (xs.map nI))) (.d q) f) = .nx (LE ns ts k s8 s9 (.d t) b (.d (.list (xs.map nI))) (.d q) (.d c)) := by
  have ix := ixl xs 1 (by omega)
  obtain ⟨v, hv⟩ : ∃ v : Nat, ((xs[1]'(by omega) : Nat) : Int) % 5 = (v : Int) := ⟨xs[1] % 5, by omega⟩
  obtain ⟨c, hc, hg⟩ := odd_ok t q g hq v (by omega)
  refine ⟨c, hc, ?_⟩
  generalize xs.map nI = L at ix ⊢
  have ix' : gIx (.d (.list L)) (.d (.int 1)) = some (.int ((xs[1]'(by omega) : Nat) : Int)) := ix
  have h1 : (e2 gMod (qD (eBlt bInt (aD (e2 gIx (qR 5) (qD (eC (.int 1)))) (aNil)))) (qD (eC (.int 5)))) (LE ns ts k s8 s9 (.d t) b (.d (.list L)) (.d q) f) = .ok (.int (v : Int)) (LE ns ts k s8 s9 (.d t) b (.d (.list L)) (.d q) f) := by
    simp [ML.LIM, ML.content, ML.contents, ML.clean, ML.avSl, ML.datas, ML.obD, ML.slL, ML.seqOf, ML.dB, ML.dI, ML.dItems, ML.dTup, ML.dLst, ML.dStr, ML.isNone, ML.gIsN, ML.gNeg, ML.gAdd, ML.bInt, ML.tyName, ML.isTy, ML.ioOk, ML.gT, ML.gCons, ML.gNil, ML.fApp, ML.fExt, ML.fPop, ix', hv, -Int.natCast_emod]
  have h2 : (oLst (aD (eV 6) (aD (eTup (aD (eV 3) (aD (eV 6) (aNil)))) (aD (eTup (aD (eV 6) (aD (eV 3) (aNil)))) (aD (eTup (aD (eTup (aNil)) (aD (eTup (aD (eV 6) (aNil))) (aNil)))) (aD (eTup (aD (eC (.int 1)) (aD (eTup (aD (eC (.int 2)) (aD (eTup (aD (eC (.int 3)) (aD (eV 6) (aNil)))) (aNil)))) (aNil)))) (aNil))))))) (LE ns ts k s8 s9 (.d t) b (.d (.list L)) (.d q) f) = .ok (.lst [q, .tuple [t, q], .tuple [q, t], .tuple [.tuple [], .tuple [q]], .tuple [.int 1, .tuple [.int 2, .tuple [.int 3, q]]]]) (LE ns ts k s8 s9 (.d t) b (.d (.list L)) (.d q) f) := rfl
  rw [sSet_e, xS_e, e2_e, bind_e, qF_e, bind_e, h2]
  simp only [ret_e, bind_e, qD_e, h1, content, hg, lift_some]
  rfl
theorem st_no (c : D) (hc : Bad 100 c) (a b x d : Sl) : sIf (b2 (gEq true) (qD (eRv (callM F__law_told (aD (eV 7) (aNil))))) (qD (eTup (aD (eC (.str "NoThing")) (aD (eC .none) (aNil)))))) (sRet (eC (.bool false))) (sNil) (LE ns ts k s8 s9 a b x d (.d c)) = .nx (LE ns ts k s8 s9 a b x d (.d c)) := by
  obtain ⟨o, h⟩ := told_no c hc.f (Nat.le_trans hc.n (by decide)) hc.e
  have c1 := call1 (F := F__law_told) (m := eV 7) (e := LE ns ts k s8 s9 a b x d (.d c)) (e' := LE ns ts k s8 s9 a b x d (.d c)) rfl h rfl
  have ne : gEq true (.d (.tuple [.str "NoThing", .none])) (.d (.tuple [.str "NoThing", .none])) = some (.bool false) := gNe_of (b := true) (by decide +kernel) (by decide +kernel) (by decide +kernel)
  generalize LE ns ts k s8 s9 a b x d (.d c) = E at c1 ⊢
  simp [ML.LIM, ML.content, ML.contents, ML.clean, ML.avSl, ML.datas, ML.obD, ML.slL, ML.seqOf, ML.dB, ML.dI, ML.dItems, ML.dTup, ML.dLst, ML.dStr, ML.isNone, ML.gIsN, ML.gNeg, ML.gAdd, ML.bInt, ML.tyName, ML.isTy, ML.ioOk, ML.gT, ML.gCons, ML.gNil, ML.fApp, ML.fExt, ML.fPop, c1, datas, ne]
end
theorem law_step (ns : List Int) (ts : List D) (k : Nat) (s8 s9 : Sl) (h : ts.length < 100) (a b c d f : Sl) : ∃ t a' b' c' d' f', G t ∧ m_law_b5 (LE ns ts k s8 s9 a b c d f) = .nx (LE ns (ts ++ [t]) k s8 s9 a' b' c' d' f') := by
  obtain ⟨t, g, e1⟩ := st_thing ns ts k s8 s9 a b c d f
  obtain ⟨bs, he, hlen, ho, _, ht, hth⟩ := good_oct g
  have e2 := st_oct ns ts k s8 s9 t bs ho b c d f
  have e3 := st_chk ns ts k s8 s9 t bs g he hlen ht hth c d f
  have e4 := st_app ns ts k s8 s9 t h (.d (octD bs)) c d f
  obtain ⟨xs, hl, hx, e5⟩ := st_num ns (ts ++ [t]) k s8 s9 (.d t) (.d (octD bs)) c d f
  obtain ⟨q, hq, e6⟩ := st_bad ns (ts ++ [t]) k s8 s9 t xs hl (.d (octD bs)) d f
  obtain ⟨z, hz, e7⟩ := st_odd ns (ts ++ [t]) k s8 s9 t q g hq xs hl (.d (octD bs)) f
  have e8 := st_no ns (ts ++ [t]) k s8 s9 z hz (.d t) (.d (octD bs)) (.d (.list (xs.map nI))) (.d q)
  refine ⟨t, .d t, .d (octD bs), .d (.list (xs.map nI)), .d q, .d z, g, ?_⟩
  rw [m_law_b5, sSeq_e, e1]
  dsimp only
  rw [sSeq_e, e2]
  dsimp only
  rw [sSeq_e, e3]
  dsimp only
  rw [sSeq_e, e4]
  dsimp only
  rw [sSeq_e, e5]
  dsimp only
  rw [sSeq_e, e6]
  dsimp only
  rw [sSeq_e, e7]
  dsimp only
  exact e8
theorem law_loop (ns : List Int) (s8 s9 : Sl) : ∀ (m k : Nat) (ts : List D) (s2 a b c d f : Sl), ts.length + m < 100 → (∀ t ∈ ts, G t) →
    ∃ (ts' : List D) (s2' a' b' c' d' f' : Sl), (∀ t ∈ ts', G t) ∧ forL (gN 2) m_law_b5 ((List.range' k m).map nI) [.sc ns, .o true (.lst ts), s2, a, b, c, d, f, s8, s9] = .nx [.sc ns, .o true (.lst ts'), s2', a', b', c', d', f', s8, s9] := by
  intro m
  induction m with
  | zero => intro k ts s2 a b c d f _ g; exact ⟨ts, s2, a, b, c, d, f, g, by simp [ML.LIM, ML.content, ML.contents, ML.clean, ML.avSl, ML.datas, ML.obD, ML.slL, ML.seqOf, ML.dB, ML.dI, ML.dItems, ML.dTup, ML.dLst, ML.dStr, ML.isNone, ML.gIsN, ML.gNeg, ML.gAdd, ML.bInt, ML.tyName, ML.isTy, ML.ioOk, ML.gT, ML.gCons, ML.gNil, ML.fApp, ML.fExt, ML.fPop, forL]⟩
  | succ m ih =>
    intro k ts s2 a b c d f hl g
    obtain ⟨t, a1, b1, c1, d1, f1, gt, e⟩ := law_step ns ts k s8 s9 (by omega) a b c d f
    obtain ⟨ts', s2', a', b', c', d', f', g', e'⟩ := ih (k + 1) (ts ++ [t]) (.d (nI k)) a1 b1 c1 d1 f1 (by rw [List.length_append]; simp [ML.LIM, ML.content, ML.contents, ML.clean, ML.avSl, ML.datas, ML.obD, ML.slL, ML.seqOf, ML.dB, ML.dI, ML.dItems, ML.dTup, ML.dLst, ML.dStr, ML.isNone, ML.gIsN, ML.gNeg, ML.gAdd, ML.bInt, ML.tyName, ML.isTy, ML.ioOk, ML.gT, ML.gCons, ML.gNil, ML.fApp, ML.fExt, ML.fPop]; omega) (fun y hy => by
      rcases List.mem_append.mp hy with z | z
      · exact g y z
      · rw [List.mem_singleton.mp z]; exact gt)
    refine ⟨ts', s2', a', b', c', d', f', g', ?_⟩
    rw [List.range'_succ, List.map_cons, forL, gN_e]
    simp only [List.set]
    rw [e]
    exact e'
theorem math (ns : List Int) (h : ns.length ≤ 63) : ∃ outs, F_law [.sc ns] = .ok (.d (.bool true)) outs := by
  obtain ⟨ts, s2, a, b, c, d, f, g, e⟩ := law_loop ns .un .un 4 0 [] .un .un .un .un .un .un (by simp [ML.LIM, ML.content, ML.contents, ML.clean, ML.avSl, ML.datas, ML.obD, ML.slL, ML.seqOf, ML.dB, ML.dI, ML.dItems, ML.dTup, ML.dLst, ML.dStr, ML.isNone, ML.gIsN, ML.gNeg, ML.gAdd, ML.bInt, ML.tyName, ML.isTy, ML.ioOk, ML.gT, ML.gCons, ML.gNil, ML.fApp, ML.fExt, ML.fPop]) (fun t z => by cases z)
  have w6 : m_law_w6 [.sc ns, .o true (.lst []), .un, .un, .un, .un, .un, .un, .un, .un] = .nx [.sc ns, .o true (.lst ts), s2, a, b, c, d, f, .un, .un] := by
    rw [m_law_w6, sFor_e, xS_e]
    have r4 : iRg rng1 (aD (eC (.int 4)) aNil) [.sc ns, .o true (.lst []), .un, .un, .un, .un, .un, .un, .un, .un] = .ok ((List.range' 0 4).map nI) [.sc ns, .o true (.lst []), .un, .un, .un, .un, .un, .un, .un, .un] := by rfl
    rw [r4]
    exact e
  obtain ⟨s8, s9, e2⟩ := outer_ok [.sc ns, .d (.list ts), s2, a, b, c, d, f] ts g rfl rfl ts .un .un g
  have w4 : m_law_w4 [.sc ns, .o true (.lst ts), s2, a, b, c, d, f, .un, .un] = .nx [.sc ns, .d (.list ts), s2, a, b, c, d, f, s8, s9] := by
    rw [m_law_w4, sFor_e, xS_e]
    exact e2
  refine ⟨[.sc ns], ?_⟩
  have z : sSetO 1 (oLst aNil) [.sc ns, .un, .un, .un, .un, .un, .un, .un, .un, .un] = .nx [.sc ns, .o true (.lst []), .un, .un, .un, .un, .un, .un, .un, .un] := rfl
  have fin : m_law [.sc ns, .un, .un, .un, .un, .un, .un, .un, .un, .un] = .rt (.d (.bool true)) [.sc ns, .d (.list ts), s2, a, b, c, d, f, s8, s9] := by
    rw [m_law, sSeq_e, z]
    dsimp only
    rw [sSeq_e, w6]
    dsimp only
    rw [sSeq_e, w4]
    rfl
  show runBody 1 10 m_law [.sc ns] = _
  unfold runBody
  simp [ML.LIM, ML.content, ML.contents, ML.clean, ML.avSl, ML.datas, ML.obD, ML.slL, ML.seqOf, ML.dB, ML.dI, ML.dItems, ML.dTup, ML.dLst, ML.dStr, ML.isNone, ML.gIsN, ML.gNeg, ML.gAdd, ML.bInt, ML.tyName, ML.isTy, ML.ioOk, ML.gT, ML.gCons, ML.gNil, ML.fApp, ML.fExt, ML.fPop, fin]
end K62
end

section
set_option Elab.async false
set_option linter.all false
set_option maxRecDepth 100000
set_option maxHeartbeats 0
open PySem PySem.W PySem.Calls PyProof.Rows
theorem PySem.Challenge.cw_shaperoads_k62_whole_things_as_octets_holds : PySem.Challenge.rw_shaperoads_k62_whole_things_as_octets.Holds := by
  w_on; o_law
  refine HandSHeadRun.head_any (r := OpenLaw.row PySem.Challenge.rw_shaperoads_k62_whole_things_as_octets) (q := view (OpenLaw.row PySem.Challenge.rw_shaperoads_k62_whole_things_as_octets).prog [39]) (H := K62.hk) (ob := K62.ob) (M := 20000) (loose := K62.loose) (d := HandSHeadRun.topDef (OpenLaw.row PySem.Challenge.rw_shaperoads_k62_whole_things_as_octets).prog 39) (kwd := []) K62.ob_eq
    (by kernel_rfl) (fun s => by kernel_rfl) K62.run (by kernel_rfl) (by kernel_rfl) (by kernel_rfl) (by rfl) (by first | assumption | decide +kernel) (by decide +kernel) ⟨rfl, rfl, rfl, rfl, rfl, by decide +kernel⟩ ?hw ?hc
  case hw => w_witness2
  case hc =>
    refine L2.walk_ofE (l := PySem.Challenge.rw_shaperoads_k62_whole_things_as_octets) (n := 63) (k := 10) (x := "script") (CX := L2.CX0) rfl (by decide) (by kernel_rfl) ⟨rfl, by decide, by decide⟩ ?F (fun _ _ _ _ z => z)
    intro w mg fa h Y G hmg0
    obtain ⟨K, KX, c⟩ := Y
    have hmg : mg ("law" : PySem.Str) = some (.ref fa) := by
      have e : (HandSHeadRun.topDef (OpenLaw.row PySem.Challenge.rw_shaperoads_k62_whole_things_as_octets).prog 39).name = ("law" : PySem.Str) := by kernel_rfl
      rw [← e]
      exact hmg0
    obtain ⟨fd, hb, hF⟩ := K62.facts (P := (PySem.Challenge.rw_shaperoads_k62_whole_things_as_octets).prog) (w := w) KX G hmg c
    exact ⟨K, fd, fun vs H Q _ => ML.spM K (He.ga K) 1 K62.F_law vs H Q (fun _ _ _ => False), KX, hb, fun H a ns hl hO hS => ML.sp_law K62.math H a ns hl hO hS, fun base h1 h2 => ML.cx0 (hF base h1 h2)⟩
end
