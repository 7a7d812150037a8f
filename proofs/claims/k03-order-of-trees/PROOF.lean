import PyProof.Rows.All
import Wide.All
import OpenK.AllK
import Wide.FinOn
import PyProof.EqAt
import PyProof.EqKinds
import PyProof.TupleCall
import HandS.ForMost
import HandS.Exc
import HandS.TryOnly
import HandS.ExcOwn
import HandS.WordsExc
import HandS.Lambda
import HandS.Wide
import HandS.WideMore
import HandS.TupAny
import HandS.Style
import HandS.IsInst
import KE.KDictPairs
import KE.SortData
import KE.DataCmp
import KE.DataMinMax
import HandS.Sort
import HandS.SortRule
import HandS.ExcIs
import HandS.TryMany
import HandS.CallRecv
import HandS.StrMore
import HandS.RevTup
import HandS.SortInts
import HandS.Dict
import HandS.Rev
import PyProof.StrBlock2
import HandS.ExcInit
import HandS.Defaults
import HandS.Head0
import HandS.Head1
import HandS.Head2
import HandS.HeadEnd
import HandS.HeadHook1
import HandS.HeadHook2
import HandS.EndTab
import HandS.HeadHook4
import PyProof.ReprReads
import HandS.Zip
import HandS.Conv
import PyProof.ListStr
import PySem.Challenge.RW_shaperoads_k03_whole_order_of_trees
import HandS.Text
section
set_option Elab.async false
set_option linter.all false
set_option maxRecDepth 100000
set_option maxHeartbeats 2000000
/-! # New tuples whose one object is known -/
namespace MK
open PySem PySem.Spec PyProof.Rows L2
/-- the object of a new tuple -/
abbrev tupO (its : List Value) : Obj := { cls := .type "tuple", data := .seq its.toArray }
/-- for a new tuple at any free place: known to its object, that has no dict -/
def NewT (xs : List V) (H : Hp) (Q : VK) : Prop := ∀ (p : Addr) (o : Obj), o.cls = .type "tuple" → o.dict = none → H p = none → Q (.ref p) (upd H p (.frz o (.tup xs)))
section
variable {X : Cx} {pins : List (Addr × Obj)} {σ : L2.St} {H : Hp} {s : Shared}
theorem layT {xs : List V} {its : List Value} {Q : VK} {t' : Nat} (I : Inv X pins σ H s) (z : xs.length ≤ sizeLine) (r : Vals xs its) (q : NewT xs H Q) : EP X pins σ Q (.ref s.heap.objs.size) { s with heap := s.heap.push (tupO its), toks := t' } :=
  ⟨.ref s.heap.objs.size, _, I.laid (t' := t') (o := .frz (tupO its) (.tup xs)) (fun _ _ e => Heap.get?_push_of_some _ e) (Nat.le_refl _) ⟨Heap.get?_push_size _ rfl, z, its, r, IsTup.new _ _⟩, rfl, q _ (tupO its) rfl rfl (I.hok.fresh (Nat.le_refl _))⟩
def tTupZ (t : TA) : TE := fun σ H Q => t σ H fun xs H1 => xs.length ≤ sizeLine ∧ NewT xs H1 Q
theorem pe_tupZ {es : List Expr} {t : TA} {k : Nat} {pos : Pos} (h : PA X es t) : PE X (.Tuple es k pos) (tTupZ t) := ⟨fun pins s σ H Q I hq =>
  wpAny_Tuple_spliced (thn (h.run pos pins s σ H _ I hq) fun us s1 ⟨xs, H1, I1, r, z, q⟩ => ⟨r.length ▸ z, layT I1 z r q⟩)⟩
/-- tuple(xs) -/
theorem cr_tupOfZ : CallR X (.type "tuple") (fun xs H Q => ∃ p ys, xs = [.ref p] ∧ ((SqL X.K H p ys ∧ NewT ys H Q) ∨ (SqT X.K H p ys ∧ Q (.ref p) H))) := fun pins s σ H xs us Q I r ⟨p, ys, e, h⟩ => by
  subst e
  obtain ⟨u, rfl, rx⟩ := vals1 r
  cases rx
  rcases h with ⟨hq, q⟩ | ⟨hq, q⟩
  · obtain ⟨its, r', pl, hz⟩ := I.list hq
    have hl := r'.length
    exact call_tuple_list pl.isList (fun h' kp => layT (s := { s with heap := h' }) (t' := s.toks) (I.kept (t' := s.toks) kp) hz r' q) (by rw [List.size_toArray]; omega)
  · obtain ⟨its, r', pl, hz⟩ := I.tuple hq
    exact call_tuple_same pl ⟨.ref p, _, I, rfl, q⟩
/-- t[lo:hi] -/
def rSlZ (K : PySem.W.Frag) : V → Option Int → Option Int → Hp → VK → Prop := fun x lo hi H Q => ∃ a xs, x = .ref a ∧ SqT K H a xs ∧
  (HT.sIx xs.length 0 lo = 0 ∧ HT.sIx xs.length xs.length hi = xs.length → Q (.ref a) H) ∧ (¬ (HT.sIx xs.length 0 lo = 0 ∧ HT.sIx xs.length xs.length hi = xs.length) → NewT (cutV xs lo hi) H Q)
theorem sl_tupZ : SlR X (rSlZ X.K) := fun pins s σ H x v vl vu lo hi sl Q I rx hs pl pu ⟨a, xs, e, hx, q1, q2⟩ => by
  subst e
  cases rx
  obtain ⟨its, r, ht, hz⟩ := I.tuple hx
  have hl : its.toArray.size = xs.length := by rw [List.size_toArray]; exact r.length.symm
  refine ⟨_, _, PyProof.Rows.slot_tuple_getitem.lookup, ht.typeIs, ?_⟩
  by_cases hw : HT.sIx xs.length 0 lo = 0 ∧ HT.sIx xs.length xs.length hi = xs.length
  · exact getItem_tuple_whole ht hs pl pu (hl ▸ hw) ⟨.ref a, _, I, rfl, q1 hw⟩
  · refine HT.getItem_tuple_cut ht hs pl pu (hl ▸ hw) ?_ (hl ▸ hz)
    rw [hl]
    exact layT (t' := s.toks) I (Nat.le_trans (cutV_length xs lo hi) hz) ((r.drop _).take _) (q2 hw)
/-- t + u -/
def rCatZ (K : PySem.W.Frag) : R2 := fun x y H Q => ∃ a b xs ys, x = .ref a ∧ y = .ref b ∧ SqT K H a xs ∧ SqT K H b ys ∧ xs.length + ys.length ≤ sizeLine ∧
  (xs = [] → Q (.ref b) H) ∧ (xs ≠ [] → ys = [] → Q (.ref a) H) ∧ (xs ≠ [] → ys ≠ [] → NewT (xs ++ ys) H Q)
theorem op_catZ : OpR X (binaryOp .Add) (rCatZ X.K) := fun pins s σ H x y v u Q I rx ry ⟨a, b, xs, ys, e1, e2, ha, hb, hz, q0, q1, q2⟩ => by
  subst e1 e2
  cases rx
  cases ry
  obtain ⟨its, r1, p1, z1⟩ := I.tuple ha
  obtain ⟨its2, r2, p2, z2⟩ := I.tuple hb
  by_cases hx : xs = []
  · subst hx
    cases r1
    exact cat_tup0 p1 p2 ⟨.ref b, _, I, rfl, q0 rfl⟩
  · exact HT.cat_tup p1 p2 (fun z => hx (r1.nil_iff.mp z)) (fun z => ⟨.ref a, _, I, rfl, q1 hx (r2.nil_iff.mp z)⟩) (fun z => layT (t' := s.toks) I (by rw [List.length_append]; exact hz) (r1.append r2) (q2 hx fun w => z (r2.nil_iff.mpr w))) (by rw [← r1.length, ← r2.length]; exact hz)
end
end MK
end

section
set_option Elab.async false
set_option linter.all false
set_option maxRecDepth 100000
set_option maxHeartbeats 2000000
/-! # dict(t) of a tuple of pairs -/
namespace MK
open PySem PySem.Spec PyProof.Rows L2
/-- the tuple at a has an object without a dict -/
def StrK (K : PySem.W.Frag) (H : Hp) (a : Addr) : Prop := (∃ o u, H a = some (.frz o u) ∧ o.dict = none) ∨ ∃ o, K.lookup a = some o ∧ o.dict = none
section
variable {X : Cx} {pins : List (Addr × Obj)} {σ : L2.St} {H : Hp} {s : Shared}
theorem plainTup {a : Addr} {xs : List V} (I : Inv X pins σ H s) (h : SqT X.K H a xs) (st : StrK X.K H a) : ∃ its : List Value, Vals xs its ∧ PlainSeq "tuple" s.heap a its.toArray ∧ xs.length ≤ sizeLine := by
  obtain ⟨its, r, ⟨o, ho, hc, n, hd⟩, hz⟩ := I.tuple h
  refine ⟨its, r, ⟨o, n, ho, hc, ?_, hd⟩, hz⟩
  rcases st with ⟨o2, u, e, d⟩ | ⟨o2, e, d⟩
  · obtain ⟨e2, _⟩ := I.hok a _ e
    rw [ho] at e2; cases e2; exact d
  · have e2 := I.kIn a o2 e
    rw [ho] at e2; cases e2; exact d
theorem cr_dictT (hcalm : X.calm = true) : CallR X (.type "dict") (fun xs H Q => ∃ (a : Addr) (ps : List Addr) (kvs : List (Key × V)), xs = [.ref a] ∧ SqT X.K H a (ps.map V.ref) ∧ StrK X.K H a ∧
    Paired (fun p kv => SqT X.K H p [kV kv.1, kv.2]) ps kvs ∧ ∀ p, H p = none → Q (.ref p) (upd H p (.dK (mergeK [] kvs)))) := fun pins s σ H xs us Q I r ⟨a, ps, kvs, ex, hq, st, hp, q⟩ => by
  subst ex
  obtain ⟨u, rfl, rx⟩ := vals1 r
  cases rx
  obtain ⟨its, rv, pl, hz⟩ := plainTup I hq st
  obtain rfl := refs_at rv
  obtain ⟨prs, rel, hl, hpr⟩ := pairs_of I hp
  rw [List.length_map] at hz
  -- the values of the pairs
  have kk : ∃ kvl : List (Value × Value), kvl.length = prs.length ∧ ∀ (j : Nat) (k v : Value), kvl[j]? = some (k, v) → ∃ (b : Addr) (q' : Key × Value), prs[j]? = some q' ∧ q'.2 = v ∧ ps[j]? = some b ∧ IsTup s.heap b #[k, v] ∧ keyIs q'.1 k = true := by
    have key : ∀ (prs : List (Key × Value)) (ps : List Addr), (∀ (j : Nat) (q : Key × Value), prs[j]? = some q → ∃ (b : Addr) (u : Value), ps[j]? = some b ∧ IsTup s.heap b #[u, q.2] ∧ keyIs q.1 u = true) →
        ∃ kvl : List (Value × Value), kvl.length = prs.length ∧ ∀ (j : Nat) (k v : Value), kvl[j]? = some (k, v) → ∃ (b : Addr) (q' : Key × Value), prs[j]? = some q' ∧ q'.2 = v ∧ ps[j]? = some b ∧ IsTup s.heap b #[k, v] ∧ keyIs q'.1 k = true := by
      intro prs
      induction prs with
      | nil => exact fun ps h => ⟨[], rfl, fun j k v e => by cases e⟩
      | cons q r ih =>
        intro ps h
        obtain ⟨b, u, e1, e2, e3⟩ := h 0 q rfl
        cases ps with
        | nil => cases e1
        | cons p0 ps =>
          obtain ⟨kvl, l, hk⟩ := ih ps fun j q' e => by
            obtain ⟨b, u, a1, a2, a3⟩ := h (j + 1) q' e
            exact ⟨b, u, a1, a2, a3⟩
          refine ⟨(u, q.2) :: kvl, by rw [List.length_cons, List.length_cons, l], fun j k v e => ?_⟩
          cases j with
          | zero => cases e; exact ⟨b, q, rfl, rfl, e1, e2, e3⟩
          | succ j => exact hk j k v e
    exact key prs ps hpr
  obtain ⟨kvl, kl, hk⟩ := kk
  have at_ : ∀ {j : Nat} {b : Addr}, ps[j]? = some b → ps.getD j 0 = b := fun {j b} e => by rw [List.getD_eq_getElem?_getD, e]; rfl
  refine PySem.call_dict_pairs (knd := mixKind X.prog X.w) (kvs := prs) (PairArg.tuple a (ps.map Value.ref).toArray (fun j => ps.getD j 0) kvl) (I.ok.hd hcalm) ⟨pl, ?_, fun j k v e => ?_⟩ ⟨kl.symm, fun j k v e => ?_⟩ (by omega) fun h' tk hd' k => ?_
  · rw [List.size_toArray, List.length_map]; omega
  · obtain ⟨b, q', e1, rfl, e3, e4, e5⟩ := hk j k v e
    dsimp only
    rw [at_ e3]
    exact ⟨by simp [e3], .inl e4⟩
  · obtain ⟨b, q', e1, rfl, e3, e4, e5⟩ := hk j k v e
    exact ⟨q'.1, e1, e5⟩
  · have hm : (s.heap.objs.size == sysModules) = false := beq_eq_false_iff_ne.mpr (Nat.ne_of_gt I.big)
    have hlen : (mergeK [] kvs).length ≤ sizeLine := by
      have z := length_mergeK kvs []
      have z2 := rel.length
      rw [List.length_nil, Nat.zero_add] at z
      omega
    exact ⟨.ref s.heap.objs.size, _, I.laid (t' := tk) (o := .dK (mergeK [] kvs)) (fun b o e => k b o (by simp) e) (Nat.le_refl _) ⟨hlen, hm, merged [] prs, KV.merge rel .nil, hd'⟩, rfl, q _ (I.hok.fresh (Nat.le_refl _))⟩
end
end MK
namespace MK
open PySem PySem.Spec PyProof.Rows L2 AutoSeq1
theorem ext_tup (dst src : Addr) (xs ys : Array Value) (m k : Nat) (dd : Option Addr) (sl : Array (Option Value)) (far : ¬(!xs.isEmpty && Builtin.List.listTooLong (xs.size + ys.size)) = true) (zx : xs.size ≤ sizeLine) (zy : xs.size + ys.size ≤ sizeLine + 1) :
    Meets (Builtin.«list.extend» ⟨[.ref dst, .ref src], []⟩) (fun _ R st => st.heap.get? dst = some { cls := .type "list", dict := none, data := .seq xs m, slots := #[] } ∧
      st.heap.get? src = some { cls := .type "tuple", dict := dd, data := .seq ys k, slots := sl } ∧
      R (.ok (.ret Value.none)) { st with heap := st.heap.update dst (Obj.mapSeq fun z => z ++ ys), toks := st.toks }) :=
  .of_wp fun prog w A R st q => by
    obtain ⟨h0, g0, d0, t0, o0⟩ := st
    obtain ⟨e1, e2, q⟩ := q
    have u1 := idx_int
    have u2 := AutoSeq1.sub_tuple_tuple
    have u3 := AutoSeq1.sub_list_list
    have u4 := AutoSeq1.sub_tuple_list
    have u5 := AutoSeq1.sub_list_tuple
    have both : (xs ++ ys).size ≤ sizeLine + 1 := by rw [Array.size_append]; exact zy
    wp_walk using (wpAny_updateSeq e1 rfl (hz := zx) (_hz' := both)), wpAny_loadPart' e1, wpAny_loadPart' e2
    exact ⟨_, rfl, q⟩
end MK
end

section
set_option Elab.async false
set_option linter.all false
set_option maxRecDepth 100000
set_option maxHeartbeats 2000000
/-! # The order of data: <, sorted, min -/
namespace MK
open PySem PySem.Spec PyProof.Rows L2 PySem.W
/-- the greatest depth of data that are compared -/
abbrev DEEP : Nat := 60
section
variable {X : Cx} {pins : List (Addr × Obj)} {σ : L2.St} {H : Hp} {s : Shared}
def rLtD (K : PySem.W.Frag) (f : PyData → PyData → Bool) : R2 := fun x y H Q => ∃ d e, Dp K H x d ∧ Dp K H y e ∧ alike d e = true ∧ d ≠ .none ∧ d.depth ≤ DEEP ∧ Q (.bl (f d e)) H
theorem op_ltD (hu : X.A.units + 64 < cLine) : OpR X (compareOp .Lt) (rLtD X.K fun d e => dataLt d e) := fun pins s σ H x y v u Q I rx ry ⟨d, e, h1, h2, al, nn, dp, q⟩ => by
  obtain ⟨as, r1⟩ := Dp.reads I d x v h1 rx
  obtain ⟨bs, r2⟩ := Dp.reads I e y u h2 ry
  exact lt_data r1 r2 al nn (by have := Nat.min_le_left d.depth e.depth; have z : d.depth ≤ 60 := dp; omega) ⟨.bl _, H, I, rfl, q⟩
theorem op_gtD (hu : X.A.units + 64 < cLine) : OpR X (compareOp .Gt) (rLtD X.K fun d e => dataLt e d) := fun pins s σ H x y v u Q I rx ry ⟨d, e, h1, h2, al, nn, dp, q⟩ => by
  obtain ⟨as, r1⟩ := Dp.reads I d x v h1 rx
  obtain ⟨bs, r2⟩ := Dp.reads I e y u h2 ry
  exact gt_data r1 r2 al nn (by have := Nat.min_le_left d.depth e.depth; have z : d.depth ≤ 60 := dp; omega) ⟨.bl _, H, I, rfl, q⟩
/-- the order of data, as mergeSort takes it -/
def leD (a b : PyData) : Bool := !dataLt b a
def rSortD (K : PySem.W.Frag) : List V → Hp → VK → Prop := fun vs H Q => ∃ (a : Addr) (bs : List (PyData × V)), vs = [.ref a] ∧ SqL K H a (bs.map (·.2)) ∧ (∀ b ∈ bs, Dp K H b.2 b.1) ∧ AllAlike (bs.map (·.1)) ∧ Sortable (bs.map (·.1)) ∧ (∀ b ∈ bs, b.1.depth ≤ DEEP) ∧
  ∀ p, H p = none → Q (.ref p) (upd H p (.lst ((bs.mergeSort fun x y => leD x.1 y.1).map (·.2))))
theorem each_of {bs : List (PyData × V)} : ∀ {its : List Value}, Vals (bs.map (·.2)) its → EachIs (fun u (b : PyData × V) => RelV b.2 u) its bs := by
  induction bs with
  | nil => intro its r; cases r; exact .nil
  | cons b bs ih => intro its r; cases r with | cons h t => exact .cons h (ih t)
theorem each_vals {its : List Value} {bs : List (PyData × V)} (h : EachIs (fun u (b : PyData × V) => RelV b.2 u) its bs) : Vals (bs.map (·.2)) its := by
  induction h with
  | nil => exact .nil
  | cons h t ih => exact .cons h ih
theorem each_reads {bs : List (PyData × V)} (I : Inv X pins σ H s) : ∀ {its : List Value}, (∀ b ∈ bs, Dp X.K H b.2 b.1) → EachIs (fun u (b : PyData × V) => RelV b.2 u) its bs → EachIs (fun u (b : PyData × V) => ∃ as, Reads s.heap u b.1 as) its bs := by
  intro its hd h
  induction h with
  | nil => exact .nil
  | cons r t ih => exact .cons (Dp.reads I _ _ _ (hd _ List.mem_cons_self) r) (ih fun b hb => hd b (List.mem_cons_of_mem _ hb))
theorem cr_sortD (hu : X.A.units + 64 < cLine) : CallR X (.builtin "sorted") (rSortD X.K) := fun pins s σ H vs us Q I r ⟨a, bs, e, hs, hd, al, so, dp, q⟩ => by
  subst e
  obtain ⟨u, rfl, ru⟩ := vals1 r
  obtain rfl : u = Value.ref a := ru
  obtain ⟨its, rv, hl, hz⟩ := I.list hs
  have ev := each_of rv
  rw [List.length_map] at hz
  refine sorted_data (R := fun u (b : PyData × V) => RelV b.2 u) (enc := fun b => b.1) hl.isList ev (each_reads I hd ev) al so hz (fun b hb => by have z : b.1.depth ≤ 60 := dp b hb; show X.A.units + 2 + b.1.depth < cLine; omega) fun out lo eo => ?_
  obtain ⟨n, at_⟩ := sortedAll_at s.heap its out.toArray
  have eo' : EachIs (fun u (b : PyData × V) => RelV b.2 u) out (bs.mergeSort fun x y => leD x.1 y.1) := eo
  refine ⟨.ref (s.heap.objs.size + 1), _, I.laid (t' := s.toks) (o := .lst ((bs.mergeSort fun x y => leD x.1 y.1).map (·.2))) (fun b o h => sortedAll_old h) (Nat.le_succ _) ⟨?_, out, n, each_vals eo', at_⟩, rfl, q _ (I.hok.fresh (Nat.le_succ _))⟩
  rw [List.length_map, List.length_mergeSort]
  exact hz
def rMinD (K : PySem.W.Frag) : List V → Hp → VK → Prop := fun vs H Q => ∃ (a : Addr) (x : PyData) (xs : List PyData) (us : List V), vs = [.ref a] ∧ SqL K H a us ∧ DpAll K H us (x :: xs) ∧ AlikeAll (x :: xs) ∧ PyData.depthAll (x :: xs) ≤ DEEP ∧
  ∀ (i : Nat) (v : V) (d : PyData), us[i]? = some v → (x :: xs)[i]? = some d → d = minD x xs → Q v H
theorem cr_minD (hc : X.calm = true) (hu : X.A.units + 64 < cLine) : CallR X (.builtin "min") (rMinD X.K) := fun pins s σ H vs us Q I r ⟨a, x, xs, ws, e, hs, hd, al, dp, q⟩ => by
  subst e
  obtain ⟨u, rfl, ru⟩ := vals1 r
  obtain rfl : u = Value.ref a := ru
  obtain ⟨its, rv, hl, hz⟩ := I.list hs
  obtain ⟨as, ra⟩ := Dp.readsAll I _ _ _ hd rv
  refine min_list_data (I.ok.hd hc) hl.isList (vs := its.toArray) (by simpa using ra) al (by have z : PyData.depthAll (x :: xs) ≤ 60 := dp; omega) fun i v h' tk bs hi hr kp => ?_
  have hi' : its[i]? = some v := by simpa using hi
  have hil : i < its.length := (List.getElem?_eq_some_iff.mp hi').1
  have l1 := rv.length
  obtain ⟨w, hw⟩ : ∃ w, ws[i]? = some w := ⟨ws[i]'(by omega), List.getElem?_eq_getElem (by omega)⟩
  obtain ⟨v2, hv2, rw2⟩ := rv.get hw
  have ev : v2 = v := by rw [hi'] at hv2; exact (Option.some.inj hv2).symm
  subst ev
  obtain ⟨cs, rd, hlt, mem, _⟩ := readsAll_at ra i v2 hi'
  have hget : (x :: xs)[i]? = some ((x :: xs).getD i .none) := by rw [List.getD_eq_getElem?_getD, List.getElem?_eq_getElem hlt]; rfl
  have mm : minD x xs ∈ x :: xs := by
    have key : ∀ (ys : List PyData) (z : PyData), ys.foldl (fun a y => if dataLt y a then y else a) z ∈ z :: ys := by
      intro ys
      induction ys with
      | nil => intro z; exact List.mem_cons_self
      | cons y ys ih =>
        intro z
        rw [List.foldl_cons]
        split
        · exact List.mem_cons_of_mem _ (ih y)
        · rcases List.mem_cons.mp (ih z) with h | h
          · rw [h]; exact List.mem_cons_self
          · exact List.mem_cons_of_mem _ (List.mem_cons_of_mem _ h)
    exact key xs x
  have same : (x :: xs).getD i .none = minD x xs := alike_unique _ _ v2 _ _ (al.1 _ mem _ mm) (Reads.keeps kp rd) hr
  exact ⟨w, H, I.kept (t' := tk) kp, rw2, q i w _ hw hget same⟩
end
end MK
end

section
set_option Elab.async false
set_option linter.all false
set_option maxRecDepth 100000
set_option maxHeartbeats 2000000
/-! # The data that stand in a heap, a frame's slots, what a step keeps -/
namespace ML
open PySem L2

abbrev D := PyData

/-- what an object that may change holds -/
inductive Ob where
  | lst (xs : List D)
  | dct (kvs : List (Key × D))
  | ins (c : Str) (fs : List (Str × D))

/-- a slot: not stored yet, a thing that never changes, an object of the frame's own (or a caller's: loc false), the script, an error that is handled -/
inductive Sl where
  | un
  | d (x : D)
  | o (loc : Bool) (k : Ob)
  | sc (ns : List Int)
  | xc

/-- where the classes of the program stand; the tables of code objects that the frames' lambdas use -/
structure CA where
  cls : Str → Addr
  tb : List (Addr × Str) := []
instance : CoeFun CA (fun _ => Str → Addr) := ⟨CA.cls⟩
instance : Coe (Str → Addr) CA := ⟨fun f => ⟨f, []⟩⟩

/-- a tuple at a: laid, or of the written part -/
def TupW (K : PySem.W.Frag) (ow : Addr → Prop) (H : Hp) (a : Addr) (xs : List V) : Prop :=
  (H a = some (.tup xs) ∧ ¬ ow a) ∨ (∃ o, H a = some (.frz o (.tup xs)) ∧ ¬ ow a) ∨
    ∃ (o : Obj) (its : Array Value) (n : Nat), K.lookup a = some o ∧ o.cls = .type "tuple" ∧ o.data = .seq its n ∧ its.size ≤ sizeLine ∧ Vals xs its.toList

/-- a pair of a text and a number; a row of such: a tuple of them has an object without a dict, so that dict() can take it -/
@[simp] def sigP : D → Bool
  | .tuple [.str _, .int _] => true
  | _ => false
def sigD (ds : List D) : Bool := !ds.isEmpty && ds.all sigP
def StrT (K : PySem.W.Frag) (ow : Addr → Prop) (H : Hp) (a : Addr) : Prop := (∃ o xs, H a = some (.frz o (.tup xs)) ∧ o.dict = none ∧ ¬ ow a) ∨ ∃ o, K.lookup a = some o ∧ o.dict = none
structure TupAt (K : PySem.W.Frag) (ow : Addr → Prop) (H : Hp) (ds : List D) (a : Addr) (xs : List V) : Prop where
  at_ : TupW K ow H a xs
  sg : sigD ds = true → StrT K ow H a

/-- the script at a: as the law was called with it, or of the written part -/
def ScAt (K : PySem.W.Frag) (ow : Addr → Prop) (H : Hp) (a : Addr) (ns : List Int) : Prop :=
  (∃ o, H a = some (.frz o (.lst (ns.map V.int))) ∧ ¬ ow a) ∨ (H a = some (.lst (ns.map V.int)) ∧ ¬ ow a) ∨
    ∃ (o : Obj) (its : Array Value) (n : Nat), K.lookup a = some o ∧ o.cls = .type "list" ∧ o.dict = none ∧ o.data = .seq its n ∧ its.size ≤ sizeLine ∧ Vals (ns.map V.int) its.toList

@[simp] def kD : Key → D
  | .inl i => .int i
  | .inr x => .str x

mutual
/-- the value v is the thing d -/
def Rp (K : PySem.W.Frag) (ow : Addr → Prop) (H : Hp) : D → V → Prop
  | .none, v => v = .non
  | .bool b, v => v = .bl b
  | .int i, v => v = .int i
  | .str x, v => v = .str x
  | .list ds, v => ∃ a xs, v = .ref a ∧ H a = some (.lst xs) ∧ ¬ ow a ∧ RpA K ow H ds xs
  | .tuple ds, v => ∃ a xs, v = .ref a ∧ TupAt K ow H ds a xs ∧ RpA K ow H ds xs
  | .dict kvs, v => ∃ a us, v = .ref a ∧ H a = some (.dK us) ∧ ¬ ow a ∧ RpK K ow H kvs us
def RpA (K : PySem.W.Frag) (ow : Addr → Prop) (H : Hp) : List D → List V → Prop
  | [], xs => xs = []
  | d :: ds, xs => ∃ v vs, xs = v :: vs ∧ Rp K ow H d v ∧ RpA K ow H ds vs
def RpK (K : PySem.W.Frag) (ow : Addr → Prop) (H : Hp) : List (D × D) → List (Key × V) → Prop
  | [], us => us = []
  | kd :: r, us => ∃ k v us', us = (k, v) :: us' ∧ kd.1 = kD k ∧ Rp K ow H kd.2 v ∧ RpK K ow H r us'
end

/-- what is kept from one moment to another: all that nobody owns -/
def NT (o : HO) : Prop := ∀ ps : Array Value, o ≠ .tbl ps
def Stp (ow : Addr → Prop) (H : Hp) (ow' : Addr → Prop) (H' : Hp) : Prop := ∀ a o, H a = some o → ¬ ow a → NT o → H' a = some o ∧ ¬ ow' a
theorem nt_tup {xs : List V} : NT (.tup xs) := fun _ z => by cases z
theorem nt_lst {xs : List V} : NT (.lst xs) := fun _ z => by cases z
theorem nt_dK {us : List (Key × V)} : NT (.dK us) := fun _ z => by cases z
theorem nt_frz {o : Obj} {u : HO} : NT (.frz o u) := fun _ z => by cases z
theorem nt_code {c : Addr} {q : Str} : NT (LamX.CodeO c q) := fun ps z => LamX.codeO_ne ps z
theorem Stp.refl {ow : Addr → Prop} {H : Hp} : Stp ow H ow H := fun _ _ h n _ => ⟨h, n⟩
theorem Stp.trans {ow ow1 ow2 : Addr → Prop} {H H1 H2 : Hp} (a : Stp ow H ow1 H1) (b : Stp ow1 H1 ow2 H2) : Stp ow H ow2 H2 := fun x o h n t => let ⟨h1, n1⟩ := a x o h n t; b x o h1 n1 t

section
variable {K : PySem.W.Frag} {ow ow' : Addr → Prop} {H H' : Hp}
theorem ScAt.stp {a : Addr} {ns : List Int} (s : Stp ow H ow' H') (h : ScAt K ow H a ns) : ScAt K ow' H' a ns := by
  rcases h with ⟨o, h, n⟩ | ⟨h, n⟩ | h
  · exact .inl ⟨o, s a _ h n nt_frz⟩
  · exact .inr (.inl (s a _ h n nt_lst))
  · exact .inr (.inr h)
theorem ScAt.sq {a : Addr} {ns : List Int} (h : ScAt K ow H a ns) : SqL K H a (ns.map V.int) := by
  rcases h with ⟨o, h, n⟩ | ⟨h, n⟩ | h
  · exact .inl (.inr ⟨o, h⟩)
  · exact .inl (.inl h)
  · exact .inr h
theorem StrT.stp {a : Addr} (s : Stp ow H ow' H') (h : StrT K ow H a) : StrT K ow' H' a := by
  rcases h with ⟨o, xs, h, d, n⟩ | h
  · obtain ⟨h', n'⟩ := s a _ h n nt_frz
    exact .inl ⟨o, xs, h', d, n'⟩
  · exact .inr h
theorem TupAt.stp {ds : List D} {a : Addr} {xs : List V} (s : Stp ow H ow' H') (h : TupAt K ow H ds a xs) : TupAt K ow' H' ds a xs := by
  refine ⟨?_, fun z => (h.sg z).stp s⟩
  rcases h.at_ with ⟨h, n⟩ | ⟨o, h, n⟩ | h
  · exact .inl (s a _ h n nt_tup)
  · exact .inr (.inl ⟨o, s a _ h n nt_frz⟩)
  · exact .inr (.inr h)
theorem TupAt.sq {ds : List D} {a : Addr} {xs : List V} (h : TupAt K ow H ds a xs) : SqT K H a xs := by
  rcases h.at_ with ⟨h, n⟩ | ⟨o, h, n⟩ | h
  · exact .inl (.inl h)
  · exact .inl (.inr ⟨o, h⟩)
  · exact .inr h
theorem TupAt.frz {ds : List D} {a : Addr} {xs : List V} {o : Obj} (h : H a = some (.frz o (.tup xs))) (d : o.dict = none) (n : ¬ ow a) : TupAt K ow H ds a xs := ⟨.inr (.inl ⟨o, h, n⟩), fun _ => .inl ⟨o, xs, h, d, n⟩⟩
theorem TupAt.weak {ds : List D} {a : Addr} {xs : List V} (h : H a = some (.tup xs)) (n : ¬ ow a) (d : sigD ds = false) : TupAt K ow H ds a xs := ⟨.inl ⟨h, n⟩, fun z => by rw [d] at z; cases z⟩
mutual
theorem Rp.stp (s : Stp ow H ow' H') : ∀ (d : D) (v : V), Rp K ow H d v → Rp K ow' H' d v
  | .none, v, h => h
  | .bool b, v, h => h
  | .int i, v, h => h
  | .str x, v, h => h
  | .list ds, v, h => by
    unfold Rp at h ⊢
    obtain ⟨a, xs, e, h1, n, h2⟩ := h
    obtain ⟨h1', n'⟩ := s a _ h1 n nt_lst
    exact ⟨a, xs, e, h1', n', RpA.stp s ds xs h2⟩
  | .tuple ds, v, h => by
    unfold Rp at h ⊢
    obtain ⟨a, xs, e, h1, h2⟩ := h
    exact ⟨a, xs, e, h1.stp s, RpA.stp s ds xs h2⟩
  | .dict kvs, v, h => by
    unfold Rp at h ⊢
    obtain ⟨a, us, e, h1, n, h2⟩ := h
    obtain ⟨h1', n'⟩ := s a _ h1 n nt_dK
    exact ⟨a, us, e, h1', n', RpK.stp s kvs us h2⟩
theorem RpA.stp (s : Stp ow H ow' H') : ∀ (ds : List D) (xs : List V), RpA K ow H ds xs → RpA K ow' H' ds xs
  | [], xs, h => h
  | d :: ds, xs, h => by
    unfold RpA at h ⊢
    obtain ⟨v, vs, e, h1, h2⟩ := h
    exact ⟨v, vs, e, Rp.stp s d v h1, RpA.stp s ds vs h2⟩
theorem RpK.stp (s : Stp ow H ow' H') : ∀ (ds : List (D × D)) (us : List (Key × V)), RpK K ow H ds us → RpK K ow' H' ds us
  | [], us, h => h
  | kd :: ds, us, h => by
    unfold RpK at h ⊢
    obtain ⟨k, v, us', e, ek, h1, h2⟩ := h
    exact ⟨k, v, us', e, ek, Rp.stp s kd.2 v h1, RpK.stp s ds us' h2⟩
end
end

/-- dict entries by their keys -/
def RpE (K : PySem.W.Frag) (ow : Addr → Prop) (H : Hp) (kvs : List (Key × D)) (us : List (Key × V)) : Prop :=
  Paired (fun (p : Key × D) (q : Key × V) => p.1 = q.1 ∧ Rp K ow H p.2 q.2) kvs us
def RpF (K : PySem.W.Frag) (ow : Addr → Prop) (H : Hp) (fs : List (Str × D)) (us : List (Str × V)) : Prop :=
  Paired (fun (p : Str × D) (q : Str × V) => p.1 = q.1 ∧ Rp K ow H p.2 q.2) fs us
/-- the object at p holds k -/
def OwnR (K : PySem.W.Frag) (ca : CA) (ow : Addr → Prop) (H : Hp) (p : Addr) : Ob → Prop
  | .lst xs => ∃ vs, H p = some (.lst vs) ∧ RpA K ow H xs vs
  | .dct kvs => ∃ us, H p = some (.dK us) ∧ RpE K ow H kvs us
  | .ins c fs => ∃ dx us, H p = some (.ins (ca c) dx us) ∧ RpF K ow H fs us
section
variable {K : PySem.W.Frag} {ca : CA} {ow ow' : Addr → Prop} {H H' : Hp}
theorem RpE.stp {kvs : List (Key × D)} {us : List (Key × V)} (s : Stp ow H ow' H') (h : RpE K ow H kvs us) : RpE K ow' H' kvs us := Paired.mapP h fun _ _ z => ⟨z.1, z.2.stp s⟩
theorem RpF.stp {kvs : List (Str × D)} {us : List (Str × V)} (s : Stp ow H ow' H') (h : RpF K ow H kvs us) : RpF K ow' H' kvs us := Paired.mapP h fun _ _ z => ⟨z.1, z.2.stp s⟩
/-- its own object apart -/
theorem OwnR.stp {p : Addr} {k : Ob} (s : Stp ow H ow' H') (e : H' p = H p) (h : OwnR K ca ow H p k) : OwnR K ca ow' H' p k := by
  cases k with
  | lst xs => obtain ⟨vs, h1, h2⟩ := h; exact ⟨vs, e.trans h1, h2.stp s⟩
  | dct kvs => obtain ⟨vs, h1, h2⟩ := h; exact ⟨vs, e.trans h1, h2.stp s⟩
  | ins c fs => obtain ⟨dx, vs, h1, h2⟩ := h; exact ⟨dx, vs, e.trans h1, h2.stp s⟩
theorem OwnR.there {p : Addr} {k : Ob} (h : OwnR K ca ow H p k) : ∃ o, H p = some o := by
  cases k with
  | lst xs => obtain ⟨vs, h1, h2⟩ := h; exact ⟨_, h1⟩
  | dct kvs => obtain ⟨vs, h1, h2⟩ := h; exact ⟨_, h1⟩
  | ins c fs => obtain ⟨dx, vs, h1, h2⟩ := h; exact ⟨_, h1⟩
end

/-- the table at P: all that it tells are code objects of the name q -/
def TbR (ow : Addr → Prop) (H : Hp) (P : Addr) (q : Str) : Prop := ∃ ps : Array Value, H P = some (.tbl ps) ∧ TriplesOk ps.toList ∧ ∀ (pos : Pos) (cv : Value), codeAmong pos ps.toList = some cv → ∃ c, cv = .ref c ∧ H c = some (LamX.CodeO c q) ∧ ¬ ow c
theorem TbR.stp {ow ow' : Addr → Prop} {H H' : Hp} {P : Addr} {q : Str} (s : Stp ow H ow' H') (e : H' P = H P) (h : TbR ow H P q) : TbR ow' H' P q := by
  obtain ⟨ps, h1, h2, h3⟩ := h
  refine ⟨ps, e.trans h1, h2, fun pos cv hc => ?_⟩
  obtain ⟨c, e1, e2, n⟩ := h3 pos cv hc
  obtain ⟨e3, n'⟩ := s c _ e2 n nt_code
  exact ⟨c, e1, e3, n'⟩
theorem TbR.tbl {ow : Addr → Prop} {H : Hp} {P : Addr} {q : Str} (h : TbR ow H P q) : ∃ ps, H P = some (.tbl ps) := by
  obtain ⟨ps, h1, _⟩ := h
  exact ⟨ps, h1⟩
theorem OwnR.noTbl {K : PySem.W.Frag} {ca : CA} {ow : Addr → Prop} {H : Hp} {p : Addr} {k : Ob} {ps : Array Value} (h : OwnR K ca ow H p k) : H p ≠ some (.tbl ps) := by
  intro e
  cases k with
  | lst xs => obtain ⟨vs, h1, h2⟩ := h; rw [e] at h1; cases h1
  | dct kvs => obtain ⟨vs, h1, h2⟩ := h; rw [e] at h1; cases h1
  | ins c fs => obtain ⟨dx, vs, h1, h2⟩ := h; rw [e] at h1; cases h1

/-- a table of code objects -/
def IsT (o : Option HO) : Prop := ∃ ps : Array Value, o = some (.tbl ps)
theorem OwnR.noT {K : PySem.W.Frag} {ca : CA} {ow : Addr → Prop} {H : Hp} {p : Addr} {k : Ob} (h : OwnR K ca ow H p k) : ¬ IsT (H p) := fun ⟨_, e⟩ => h.noTbl e
theorem noT_lst {H : Hp} {p : Addr} {vs : List V} (h : H p = some (.lst vs)) : ¬ IsT (H p) := fun ⟨_, e⟩ => by rw [h] at e; cases e
/-- what may be owned, but tables -/
def MutO (o : Option HO) : Prop := (∃ xs, o = some (.lst xs)) ∨ (∃ us, o = some (.dK us)) ∨ ∃ c d us, o = some (.ins c d us)
theorem OwnR.mutO {K : PySem.W.Frag} {ca : CA} {ow : Addr → Prop} {H : Hp} {p : Addr} {k : Ob} (h : OwnR K ca ow H p k) : MutO (H p) := by
  cases k with
  | lst xs => obtain ⟨vs, h1, h2⟩ := h; exact .inl ⟨_, h1⟩
  | dct kvs => obtain ⟨us, h1, h2⟩ := h; exact .inr (.inl ⟨_, h1⟩)
  | ins c fs => obtain ⟨dx, us, h1, h2⟩ := h; exact .inr (.inr ⟨_, _, _, h1⟩)
theorem MutO.nt {o : HO} (h : MutO (some o)) : NT o := fun ps z => by
  subst z
  rcases h with ⟨_, h⟩ | ⟨_, h⟩ | ⟨_, _, _, h⟩ <;> cases h
theorem MutO.noCode {c : Addr} {q : Str} (h : MutO (some (LamX.CodeO c q))) : False := by
  unfold LamX.CodeO at h
  rcases h with ⟨_, h⟩ | ⟨_, h⟩ | ⟨_, _, _, h⟩ <;> cases h
theorem MutO.there {o : Option HO} (h : MutO o) : ∃ u, o = some u := by
  rcases h with ⟨_, h⟩ | ⟨_, h⟩ | ⟨_, _, _, h⟩ <;> exact ⟨_, h⟩
def Knd (ca : CA) (ow : Addr → Prop) (H : Hp) : Prop := ∀ a, ow a → (∃ q ∈ ca.tb, q.1 = a) ∨ MutO (H a)
/-- a frame: the heap at its entry, what its callers own, which of these it may change, its arguments, the error that is handled -/
structure Fr where
  H0 : Hp
  ow0 : Addr → Prop
  io : Addr → Prop
  vs : List V
  xa : Addr := 0

/-- a slot's value -/
def SlR (K : PySem.W.Frag) (ca : CA) (F : Fr) (ow : Addr → Prop) (H : Hp) (i : Nat) : Sl → Option V → Prop
  | .un, _ => True
  | .d x, v => ∃ u, v = some u ∧ Rp K ow H x u
  | .o true k, v => ∃ p, v = some (.ref p) ∧ ow p ∧ OwnR K ca ow H p k ∧ F.H0 p = none ∧ ¬ F.ow0 p
  | .o false k, v => ∃ p, v = some (.ref p) ∧ ow p ∧ OwnR K ca ow H p k ∧ F.io p ∧ F.vs[i]? = some (.ref p)
  | .sc ns, v => ∃ a, v = some (.ref a) ∧ ScAt K ow H a ns
  | .xc, v => v = some (.ref F.xa)

structure Rel (K : PySem.W.Frag) (ca : CA) (F : Fr) (ow : Addr → Prop) (env : List Sl) (σ : St) (H : Hp) : Prop where
  len : env.length = σ.length
  sl : ∀ (i : Nat) (s : Sl) (v : Option V), env[i]? = some s → σ[i]? = some v → SlR K ca F ow H i s v
  dis : ∀ (i j : Nat) (p : Addr) (l l' : Bool) (k k' : Ob), env[i]? = some (.o l k) → env[j]? = some (.o l' k') → σ[i]? = some (some (.ref p)) → σ[j]? = some (some (.ref p)) → i = j
  keep : ∀ a o, F.H0 a = some o → ¬ F.io a → NT o → H a = some o
  dom : ∀ a, H a = none → F.H0 a = none
  sub : ∀ a, F.ow0 a → ow a
  trk : ∀ a, ow a → ∃ o, H a = some o
  knd : Knd ca ow H
  tab : ∀ q ∈ ca.tb, ow q.1 ∧ F.io q.1 ∧ (∃ o, F.H0 q.1 = some o) ∧ TbR ow H q.1 q.2

section
variable {K : PySem.W.Frag} {ca : CA} {F : Fr} {ow ow' : Addr → Prop} {H H' : Hp} {env : List Sl} {σ : St}
theorem SlR.at (R : Rel K ca F ow env σ H) {i : Nat} {s : Sl} (h : env[i]? = some s) : ∃ v, σ[i]? = some v ∧ SlR K ca F ow H i s v := by
  have hi : i < σ.length := by rw [← R.len]; exact (List.getElem?_eq_some_iff.mp h).1
  exact ⟨σ[i], List.getElem?_eq_getElem hi, R.sl i s _ h (List.getElem?_eq_getElem hi)⟩
theorem Rel.nT (R : Rel K ca F ow env σ H) {a : Addr} (n : ¬ IsT (H a)) : ¬ ∃ q ∈ ca.tb, q.1 = a := fun ⟨q, hq, e⟩ => by
  obtain ⟨ps, h⟩ := (R.tab q hq).2.2.2.tbl
  exact n ⟨ps, by rw [← e]; exact h⟩
theorem Rel.data (R : Rel K ca F ow env σ H) {i : Nat} {x : D} (h : env[i]? = some (.d x)) : ∃ v, σ[i]? = some (some v) ∧ Rp K ow H x v := by
  obtain ⟨v, e, u, rfl, r⟩ := SlR.at R h
  exact ⟨u, e, r⟩
theorem Rel.own (R : Rel K ca F ow env σ H) {i : Nat} {l : Bool} {k : Ob} (h : env[i]? = some (.o l k)) :
    ∃ p, σ[i]? = some (some (.ref p)) ∧ ow p ∧ OwnR K ca ow H p k := by
  obtain ⟨v, e, r⟩ := SlR.at R h
  cases l with
  | true => obtain ⟨p, rfl, h1, h2, _⟩ := r; exact ⟨p, e, h1, h2⟩
  | false => obtain ⟨p, rfl, h1, h2, _⟩ := r; exact ⟨p, e, h1, h2⟩
/-- the heap grows: a new object at p -/
def Gr (H H' : Hp) : Prop := ∀ a o, H a = some o → H' a = some o
theorem Gr.refl {H : Hp} : Gr H H := fun _ _ h => h
theorem Gr.trans {H H1 H2 : Hp} (a : Gr H H1) (b : Gr H1 H2) : Gr H H2 := fun x o h => b x o (a x o h)
theorem Gr.new {p : Addr} {o : HO} (h : H p = none) : Gr H (upd H p o) := fun a u e => by
  rw [upd_ne (ne_of_none e h)]; exact e
theorem Gr.none (g : Gr H H') {a : Addr} (h : H' a = none) : H a = none := by
  cases e : H a with
  | none => rfl
  | some o => rw [g a o e] at h; cases h
theorem Gr.stp (g : Gr H H') : Stp ow H ow H' := fun a o h n _ => ⟨g a o h, n⟩
theorem MutO.gr {a : Addr} (g : Gr H H') (h : MutO (H a)) : MutO (H' a) := by
  rcases h with ⟨xs, h⟩ | ⟨us, h⟩ | ⟨c, d, us, h⟩
  · exact .inl ⟨_, g _ _ h⟩
  · exact .inr (.inl ⟨_, g _ _ h⟩)
  · exact .inr (.inr ⟨_, _, _, g _ _ h⟩)
theorem OwnR.gr {p : Addr} {k : Ob} (g : Gr H H') (h : OwnR K ca ow H p k) : OwnR K ca ow H' p k := by
  obtain ⟨o, e⟩ := h.there
  exact h.stp g.stp (by rw [g p o e, e])
theorem Rel.gr (R : Rel K ca F ow env σ H) (g : Gr H H') : Rel K ca F ow env σ H' where
  len := R.len
  sl := fun i s v h1 h2 => by
    have q := R.sl i s v h1 h2
    cases s with
    | un => exact q
    | d x => obtain ⟨u, e, r⟩ := q; exact ⟨u, e, r.stp g.stp⟩
    | o l k =>
      cases l with
      | true => obtain ⟨p, e, a, b, c⟩ := q; exact ⟨p, e, a, b.gr g, c⟩
      | false => obtain ⟨p, e, a, b, c⟩ := q; exact ⟨p, e, a, b.gr g, c⟩
    | sc ns => obtain ⟨a, e, h⟩ := q; exact ⟨a, e, h.stp g.stp⟩
    | xc => exact q
  dis := R.dis
  keep := fun a o h n t => g a o (R.keep a o h n t)
  dom := fun a h => R.dom a (g.none h)
  sub := R.sub
  trk := fun a h => let ⟨o, e⟩ := R.trk a h; ⟨o, g a o e⟩
  knd := fun a h => (R.knd a h).imp id fun z => z.gr g
  tab := fun q hq => let ⟨a, b, c, d⟩ := R.tab q hq; ⟨a, b, c, d.stp g.stp (by obtain ⟨ps, e⟩ := d.tbl; rw [g _ _ e, e])⟩
theorem Rel.free (R : Rel K ca F ow env σ H) {p : Addr} (h : H p = none) : ¬ ow p := fun z => by
  obtain ⟨o, e⟩ := R.trk p z
  rw [h] at e; cases e

/-- a slot of data is stored -/
theorem Rel.set (R : Rel K ca F ow env σ H) {i : Nat} {x : D} {v : V} (r : Rp K ow H x v) : Rel K ca F ow (env.set i (.d x)) (σ.set i (some v)) H where
  len := by rw [List.length_set, List.length_set]; exact R.len
  sl := fun j s u h1 h2 => by
    by_cases e : i = j
    · subst e
      by_cases hl : i < env.length
      · rw [List.getElem?_set_self hl] at h1
        rw [List.getElem?_set_self (by rw [← R.len]; exact hl)] at h2
        cases h1; cases h2
        exact ⟨v, rfl, r⟩
      · rw [List.getElem?_eq_none (by simpa using hl)] at h1; cases h1
    · rw [List.getElem?_set_ne e] at h1 h2
      exact R.sl j s u h1 h2
  dis := fun j j' p l l' k k' h1 h2 h3 h4 => by
    have ne : ∀ {j l k}, (env.set i (.d x))[j]? = some (Sl.o l k) → i ≠ j := fun {j l k} h e => by
      subst e
      by_cases hl : i < env.length
      · rw [List.getElem?_set_self hl] at h; cases h
      · rw [List.getElem?_eq_none (by simpa using hl)] at h; cases h
    have n1 := ne h1
    have n2 := ne h2
    rw [List.getElem?_set_ne n1] at h1 h3
    rw [List.getElem?_set_ne n2] at h2 h4
    exact R.dis j j' p l l' k k' h1 h2 h3 h4
  keep := R.keep
  dom := R.dom
  sub := R.sub
  trk := R.trk
  knd := R.knd
  tab := R.tab
/-- a slot is forgotten -/
theorem Rel.drop (R : Rel K ca F ow env σ H) {i : Nat} {v : Option V} : Rel K ca F ow (env.set i .un) (σ.set i v) H where
  len := by rw [List.length_set, List.length_set]; exact R.len
  sl := fun j s u h1 h2 => by
    by_cases e : i = j
    · subst e
      by_cases hl : i < env.length
      · rw [List.getElem?_set_self hl] at h1
        cases h1
        exact True.intro
      · rw [List.getElem?_eq_none (by simpa using hl)] at h1; cases h1
    · rw [List.getElem?_set_ne e] at h1 h2
      exact R.sl j s u h1 h2
  dis := fun j j' p l l' k k' h1 h2 h3 h4 => by
    have ne : ∀ {j l k}, (env.set i .un)[j]? = some (Sl.o l k) → i ≠ j := fun {j l k} h e => by
      subst e
      by_cases hl : i < env.length
      · rw [List.getElem?_set_self hl] at h; cases h
      · rw [List.getElem?_eq_none (by simpa using hl)] at h; cases h
    have n1 := ne h1
    have n2 := ne h2
    rw [List.getElem?_set_ne n1] at h1 h3
    rw [List.getElem?_set_ne n2] at h2 h4
    exact R.dis j j' p l l' k k' h1 h2 h3 h4
  keep := R.keep
  dom := R.dom
  sub := R.sub
  trk := R.trk
  knd := R.knd
  tab := R.tab
/-- an object that nobody's slot holds yet: free of the slots -/
def Loose (F : Fr) (ow : Addr → Prop) (env : List Sl) (σ : St) (p : Addr) : Prop :=
  ow p ∧ F.H0 p = none ∧ ¬ F.ow0 p ∧ ∀ (i : Nat) (l : Bool) (k : Ob), env[i]? = some (.o l k) → σ[i]? ≠ some (some (.ref p))
theorem Rel.setO (R : Rel K ca F ow env σ H) {i : Nat} {k : Ob} {p : Addr} (L : Loose F ow env σ p) (r : OwnR K ca ow H p k) : Rel K ca F ow (env.set i (.o true k)) (σ.set i (some (.ref p))) H where
  len := by rw [List.length_set, List.length_set]; exact R.len
  sl := fun j s u h1 h2 => by
    by_cases e : i = j
    · subst e
      by_cases hl : i < env.length
      · rw [List.getElem?_set_self hl] at h1
        rw [List.getElem?_set_self (by rw [← R.len]; exact hl)] at h2
        cases h1; cases h2
        exact ⟨p, rfl, L.1, r, L.2.1, L.2.2.1⟩
      · rw [List.getElem?_eq_none (by simpa using hl)] at h1; cases h1
    · rw [List.getElem?_set_ne e] at h1 h2
      exact R.sl j s u h1 h2
  dis := fun j j' q l l' k1 k2 h1 h2 h3 h4 => by
    have at_ : ∀ {j l k' q}, (env.set i (.o true k))[j]? = some (Sl.o l k') → (σ.set i (some (.ref p)))[j]? = some (some (.ref q)) →
        (i = j ∧ q = p) ∨ (i ≠ j ∧ env[j]? = some (Sl.o l k') ∧ σ[j]? = some (some (.ref q)) ∧ q ≠ p) := fun {j l k' q} a b => by
      by_cases e : i = j
      · subst e
        have hl : i < env.length := by
          have := (List.getElem?_eq_some_iff.mp a).1
          rwa [List.length_set] at this
        rw [List.getElem?_set_self (by rw [← R.len]; exact hl)] at b
        cases b
        exact .inl ⟨rfl, rfl⟩
      · rw [List.getElem?_set_ne e] at a b
        exact .inr ⟨e, a, b, fun z => L.2.2.2 j l k' a (by rw [← z]; exact b)⟩
    rcases at_ h1 h3 with ⟨e1, q1⟩ | ⟨n1, a1, b1, q1⟩
    · rcases at_ h2 h4 with ⟨e2, q2⟩ | ⟨n2, a2, b2, q2⟩
      · exact e1.symm.trans e2
      · exact absurd q1 q2
    · rcases at_ h2 h4 with ⟨e2, q2⟩ | ⟨n2, a2, b2, q2⟩
      · exact absurd q2 q1
      · exact R.dis j j' q l l' k1 k2 a1 a2 b1 b2
  keep := R.keep
  dom := R.dom
  sub := R.sub
  trk := R.trk
  knd := R.knd
  tab := R.tab

/-- one address less is owned -/
abbrev less (ow : Addr → Prop) (p : Addr) : Addr → Prop := fun a => ow a ∧ a ≠ p
abbrev more (ow : Addr → Prop) (p : Addr) : Addr → Prop := fun a => ow a ∨ a = p
theorem stp_less {p : Addr} : Stp ow H (less ow p) H := fun a o h n _ => ⟨h, fun z => n z.1⟩
theorem stp_more {p : Addr} {o : HO} (h : H p = none) : Stp ow H (more ow p) (upd H p o) := fun a u e n _ =>
  ⟨by rw [upd_ne (ne_of_none e h)]; exact e, fun z => by
    rcases z with z | z
    · exact n z
    · rw [z, h] at e; cases e⟩
/-- a new object of one's own -/
theorem Rel.more (R : Rel K ca F ow env σ H) {p : Addr} {o : HO} (h : H p = none) (mu : MutO (some o) := by first | exact .inl ⟨_, rfl⟩ | exact .inr (.inl ⟨_, rfl⟩) | exact .inr (.inr ⟨_, _, _, rfl⟩)) : Rel K ca F (more ow p) env σ (upd H p o) ∧ Loose F (ML.more ow p) env σ p := by
  have hp : ∀ {a : Addr} {u : HO}, H a = some u → upd H p o a = some u := fun {a u} e => by rw [upd_ne (ne_of_none e h)]; exact e
  have st : Stp ow H (ML.more ow p) (upd H p o) := stp_more h
  have no : ∀ (i : Nat) (l : Bool) (k : Ob), env[i]? = some (.o l k) → σ[i]? ≠ some (some (.ref p)) := fun i l k e z => by
    obtain ⟨q, eq, wq, rq⟩ := R.own e
    rw [eq] at z
    cases z
    obtain ⟨u, hu⟩ := rq.there
    rw [h] at hu; cases hu
  refine ⟨⟨R.len, fun i s v h1 h2 => ?_, R.dis, fun a u e n t => hp (R.keep a u e n t), fun a e => ?_, fun a z => .inl (R.sub a z), fun a z => ?_, fun a z => ?_, fun q hq => let ⟨a, b, c, d⟩ := R.tab q hq; ⟨.inl a, b, c, d.stp st (by obtain ⟨ps, e⟩ := d.tbl; rw [hp e, e])⟩⟩, .inr rfl, R.dom p h, fun z => R.free h (R.sub p z), no⟩
  · have q := R.sl i s v h1 h2
    cases s with
    | un => exact q
    | d x => obtain ⟨u, e, r⟩ := q; exact ⟨u, e, r.stp st⟩
    | o l k =>
      cases l with
      | true =>
        obtain ⟨q, e, a, b, c⟩ := q
        obtain ⟨u, hu⟩ := b.there
        exact ⟨q, e, .inl a, b.stp st (by rw [hp hu, hu]), c⟩
      | false =>
        obtain ⟨q, e, a, b, c⟩ := q
        obtain ⟨u, hu⟩ := b.there
        exact ⟨q, e, .inl a, b.stp st (by rw [hp hu, hu]), c⟩
    | sc ns => obtain ⟨a, e, h3⟩ := q; exact ⟨a, e, h3.stp st⟩
    | xc => exact q
  · refine R.dom a ?_
    cases e2 : H a with
    | none => rfl
    | some u => rw [hp e2] at e; cases e
  · rcases z with z | z
    · obtain ⟨u, hu⟩ := R.trk a z
      exact ⟨u, hp hu⟩
    · rw [z]; exact ⟨o, upd_same⟩
  · rcases z with z | z
    · refine (R.knd a z).imp id fun k => ?_
      obtain ⟨u, hu⟩ := R.trk a z
      rw [hp hu, ← hu]; exact k
    · rw [z, upd_same]; exact .inr mu
/-- what nobody's slot holds is let go: it never changes any more -/
theorem Rel.loose (R : Rel K ca F ow env σ H) {p : Addr} (L : Loose F ow env σ p) : Rel K ca F (less ow p) env σ H where
  len := R.len
  sl := fun i s v h1 h2 => by
    have q := R.sl i s v h1 h2
    cases s with
    | un => exact q
    | d x => obtain ⟨u, e, r⟩ := q; exact ⟨u, e, r.stp stp_less⟩
    | o l k =>
      cases l with
      | true =>
        obtain ⟨q, e, a, b, c⟩ := q
        exact ⟨q, e, ⟨a, fun z => L.2.2.2 i true k h1 (by rw [h2, e, z])⟩, b.stp stp_less rfl, c⟩
      | false =>
        obtain ⟨q, e, a, b, c⟩ := q
        exact ⟨q, e, ⟨a, fun z => L.2.2.2 i false k h1 (by rw [h2, e, z])⟩, b.stp stp_less rfl, c⟩
    | sc ns => obtain ⟨a, e, h⟩ := q; exact ⟨a, e, h.stp stp_less⟩
    | xc => exact q
  dis := R.dis
  keep := R.keep
  dom := R.dom
  sub := fun a z => ⟨R.sub a z, fun e => L.2.2.1 (e ▸ z)⟩
  trk := fun a z => R.trk a z.1
  knd := fun a z => R.knd a z.1
  tab := fun q hq => let ⟨a, b, c, d⟩ := R.tab q hq; ⟨⟨a, fun e => by obtain ⟨o, h⟩ := c; rw [e, L.2.1] at h; cases h⟩, b, c, d.stp stp_less rfl⟩
/-- a slot lets its object go; it is loose then -/
theorem Rel.let_ (R : Rel K ca F ow env σ H) {i : Nat} {k : Ob} (h : env[i]? = some (.o true k)) : ∃ p, σ[i]? = some (some (.ref p)) ∧ OwnR K ca ow H p k ∧ Rel K ca F ow (env.set i .un) σ H ∧ Loose F ow (env.set i .un) σ p := by
  obtain ⟨v, e, p, rfl, w, r, h0, n0⟩ := SlR.at R h
  have R1 : Rel K ca F ow (env.set i .un) (σ.set i (some (.ref p))) H := R.drop
  have es : σ.set i (some (.ref p)) = σ := by
    apply List.ext_getElem?
    intro j
    by_cases ej : i = j
    · subst ej
      rw [List.getElem?_set_self (List.getElem?_eq_some_iff.mp e).1, e]
    · rw [List.getElem?_set_ne ej]
  rw [es] at R1
  refine ⟨p, e, r, R1, w, h0, n0, fun j l k' h1 h2 => ?_⟩
  by_cases ej : i = j
  · subst ej
    rw [List.getElem?_set_self (List.getElem?_eq_some_iff.mp h).1] at h1
    cases h1
  · rw [List.getElem?_set_ne ej] at h1
    exact ej (R.dis i j p _ _ _ _ h h1 e h2)
/-- .. a list's: it is data from then on -/
theorem Rel.freeze (R : Rel K ca F ow env σ H) {i : Nat} {xs : List D} (h : env[i]? = some (.o true (.lst xs))) :
    ∃ p, σ[i]? = some (some (.ref p)) ∧ Rp K (less ow p) H (.list xs) (.ref p) ∧ Rel K ca F (less ow p) (env.set i (.d (.list xs))) σ H := by
  obtain ⟨p, e, ⟨vs, hp, ra⟩, R1, L⟩ := R.let_ h
  have rp : Rp K (less ow p) H (.list xs) (.ref p) := by
    unfold Rp
    exact ⟨p, vs, rfl, hp, fun z => z.2 rfl, ra.stp stp_less⟩
  have R2 := (R1.loose L).set (i := i) rp
  have es : σ.set i (some (.ref p)) = σ := by
    apply List.ext_getElem?
    intro j
    by_cases ej : i = j
    · subst ej
      rw [List.getElem?_set_self (List.getElem?_eq_some_iff.mp e).1, e]
    · rw [List.getElem?_set_ne ej]
  rw [es, List.set_set] at R2
  exact ⟨p, e, rp, R2⟩
theorem stp_mut {p : Addr} {o : HO} (w : ow p) : Stp ow H ow (upd H p o) := fun a u e n _ => by
  have hne : a ≠ p := fun z => n (by rw [z]; exact w)
  exact ⟨by rw [upd_ne hne]; exact e, n⟩
/-- the object of a slot changes -/
theorem Rel.mut (R : Rel K ca F ow env σ H) {i : Nat} {l : Bool} {k k' : Ob} {p : Addr} {o : HO} (h : env[i]? = some (.o l k)) (e : σ[i]? = some (some (.ref p))) (new : OwnR K ca ow (upd H p o) p k') :
    Rel K ca F ow (env.set i (.o l k')) σ (upd H p o) := by
  have wp : ow p := by
    obtain ⟨q, eq, w, _⟩ := R.own h
    rw [e] at eq; cases eq
    exact w
  have st : Stp ow H ow (upd H p o) := stp_mut wp
  have hl : i < env.length := (List.getElem?_eq_some_iff.mp h).1
  refine ⟨by rw [List.length_set]; exact R.len, fun j s v h1 h2 => ?_, fun j j' q l1 l2 k1 k2 h1 h2 h3 h4 => ?_, fun a u ha n t => ?_, fun a ha => ?_, R.sub, fun a z => ?_, fun a z => ?_, fun q hq => ?_⟩
  · by_cases ej : i = j
    · subst ej
      rw [List.getElem?_set_self hl] at h1
      cases h1
      rw [e] at h2
      cases h2
      have q := R.sl i _ _ h e
      cases l with
      | true => obtain ⟨p', e', a, b, c⟩ := q; cases e'; exact ⟨p, rfl, a, new, c⟩
      | false => obtain ⟨p', e', a, b, c⟩ := q; cases e'; exact ⟨p, rfl, a, new, c⟩
    · rw [List.getElem?_set_ne ej] at h1
      have q := R.sl j s v h1 h2
      cases s with
      | un => exact q
      | d x => obtain ⟨u, e1, r⟩ := q; exact ⟨u, e1, r.stp st⟩
      | o l1 k1 =>
        have ne : ∀ q, v = some (.ref q) → q ≠ p := fun q ev z => ej (R.dis i j p _ _ _ _ h h1 e (by rw [h2, ev, z]))
        cases l1 with
        | true => obtain ⟨q, e1, a, b, c⟩ := q; exact ⟨q, e1, a, b.stp st (upd_ne (ne q e1)), c⟩
        | false => obtain ⟨q, e1, a, b, c⟩ := q; exact ⟨q, e1, a, b.stp st (upd_ne (ne q e1)), c⟩
      | sc ns => obtain ⟨a, e1, h3⟩ := q; exact ⟨a, e1, h3.stp st⟩
      | xc => exact q
  · have back : ∀ {j : Nat} {l1 : Bool} {k1 : Ob}, (env.set i (.o l k'))[j]? = some (.o l1 k1) → ∃ l2 k2, env[j]? = some (.o l2 k2) := fun {j l1 k1} a => by
      by_cases ej : i = j
      · subst ej; exact ⟨_, _, h⟩
      · rw [List.getElem?_set_ne ej] at a; exact ⟨_, _, a⟩
    obtain ⟨_, _, a1⟩ := back h1
    obtain ⟨_, _, a2⟩ := back h2
    exact R.dis j j' q _ _ _ _ a1 a2 h3 h4
  · have hne : a ≠ p := fun z => by
      subst z
      have q := R.sl i _ _ h e
      cases l with
      | true => obtain ⟨p', e', _, _, c, _⟩ := q; cases e'; rw [c] at ha; cases ha
      | false => obtain ⟨p', e', _, _, c, _⟩ := q; cases e'; exact n c
    rw [upd_ne hne]; exact R.keep a u ha n t
  · by_cases z : a = p
    · rw [z, upd_same] at ha; cases ha
    · rw [upd_ne z] at ha; exact R.dom a ha
  · by_cases ea : a = p
    · rw [ea]; exact ⟨o, upd_same⟩
    · rw [upd_ne ea]; exact R.trk a z
  · by_cases ea : a = p
    · subst ea; exact .inr new.mutO
    · rw [upd_ne ea]; exact R.knd a z
  · obtain ⟨a, b, c, d⟩ := R.tab q hq
    refine ⟨a, b, c, d.stp st (upd_ne fun z => ?_)⟩
    obtain ⟨ps, hps⟩ := d.tbl
    obtain ⟨p', ep, _, r⟩ := R.own h
    rw [e] at ep; cases ep
    exact r.noTbl (by rw [← z]; exact hps)
/-- a general step that leaves the slots' values: a slot stands as it did, or its object holds something else -/
theorem Rel.step (R : Rel K ca F ow env σ H) {e' : List Sl} (len : e'.length = env.length)
    (slots : ∀ (i : Nat) (s' : Sl), e'[i]? = some s' → (env[i]? = some s' ∧ ∀ (l : Bool) (k : Ob) (p : Addr), s' = .o l k → σ[i]? = some (some (.ref p)) → H' p = H p) ∨ (∃ (l : Bool) (k k' : Ob) (p : Addr), env[i]? = some (.o l k) ∧ s' = .o l k' ∧ σ[i]? = some (some (.ref p)) ∧ OwnR K ca ow' H' p k'))
    (st : Stp ow H ow' H') (sub : ∀ a, ow a → ow' a) (trk : ∀ a, ow' a → ∃ o, H' a = some o) (knd : Knd ca ow' H') (keep : ∀ a o, F.H0 a = some o → ¬ F.io a → NT o → H' a = some o) (dom : ∀ a, H' a = none → H a = none) (tab : ∀ q ∈ ca.tb, TbR ow' H' q.1 q.2) : Rel K ca F ow' e' σ H' where
  len := len.trans R.len
  sl := fun i s v h1 h2 => by
    rcases slots i s h1 with ⟨he, hn⟩ | ⟨l, k, k', p, he, rfl, hp, r⟩
    · have q := R.sl i s v he h2
      cases s with
      | un => exact q
      | d x => obtain ⟨u, e, r⟩ := q; exact ⟨u, e, r.stp st⟩
      | o l k =>
        cases l with
        | true => obtain ⟨p, rfl, a, b, c⟩ := q; exact ⟨p, rfl, sub p a, b.stp st (hn _ _ p rfl h2), c⟩
        | false => obtain ⟨p, rfl, a, b, c⟩ := q; exact ⟨p, rfl, sub p a, b.stp st (hn _ _ p rfl h2), c⟩
      | sc ns => obtain ⟨a, rfl, h⟩ := q; exact ⟨a, rfl, h.stp st⟩
      | xc => exact q
    · rw [hp] at h2
      cases h2
      have q := R.sl i _ _ he hp
      cases l with
      | true => obtain ⟨p', e, a, b, c⟩ := q; cases e; exact ⟨p, rfl, sub p a, r, c⟩
      | false => obtain ⟨p', e, a, b, c⟩ := q; cases e; exact ⟨p, rfl, sub p a, r, c⟩
  dis := fun i j p l l' k k' h1 h2 h3 h4 => by
    have back : ∀ {j : Nat} {l1 : Bool} {k1 : Ob}, e'[j]? = some (.o l1 k1) → ∃ l2 k2, env[j]? = some (.o l2 k2) := fun {j l1 k1} a => by
      rcases slots j _ a with ⟨he, _⟩ | ⟨l, k, k', p, he, _⟩
      · exact ⟨_, _, he⟩
      · exact ⟨_, _, he⟩
    obtain ⟨_, _, a1⟩ := back h1
    obtain ⟨_, _, a2⟩ := back h2
    exact R.dis i j p _ _ _ _ a1 a2 h3 h4
  keep := keep
  dom := fun a h => R.dom a (dom a h)
  sub := fun a h => sub a (R.sub a h)
  trk := trk
  knd := knd
  tab := fun q hq => let ⟨a, b, c, _⟩ := R.tab q hq; ⟨sub _ a, b, c, tab q hq⟩
end
end ML
end

section
set_option Elab.async false
set_option linter.all false
set_option maxRecDepth 100000
set_option maxHeartbeats 2000000
/-! # The judgements: an expression, a test, arguments, a fresh object, a statement, against a plain function of the slots -/
namespace ML
open PySem L2

/-- what comes of an expression: its value and the slots behind it; an error of an own class; or nothing is told -/
inductive R (α : Type) where
  | ok (a : α) (e : List Sl)
  | ex (c : Str) (e : List Sl)
  | bad
abbrev M (α : Type) := List Sl → R α
def ret {α : Type} (a : α) : M α := fun e => .ok a e
def bind {α β : Type} (m : M α) (f : α → M β) : M β := fun e => match m e with
  | .ok a e' => f a e'
  | .ex c e' => .ex c e'
  | .bad => .bad
/-- a partial step -/
def lift {α : Type} (o : Option α) : M α := fun e => match o with
  | some a => .ok a e
  | none => .bad

def Held (env : List Sl) (σ : St) (p : Addr) : Prop := ∃ (i : Nat) (l : Bool) (k : Ob), env[i]? = some (.o l k) ∧ σ[i]? = some (some (.ref p))

/-- what an expression leaves as it was -/
structure Go (σ : St) (ow : Addr → Prop) (env : List Sl) (H : Hp) (ow' : Addr → Prop) (e : List Sl) (H' : Hp) : Prop where
  stp : Stp ow H ow' H'
  lo : ∀ p, ow p → ¬ IsT (H p) → ¬ Held env σ p → ow' p ∧ H' p = H p ∧ ¬ Held e σ p
  dom : ∀ a, H' a = none → H a = none

section
variable {K : PySem.W.Frag} {ca : CA} {F : Fr} {ow ow' ow1 ow2 : Addr → Prop} {H H' H1 H2 : Hp} {env e e' e1 e2 : List Sl} {σ : St}
theorem Go.refl : Go σ ow env H ow env H := ⟨Stp.refl, fun _ a _ b => ⟨a, rfl, b⟩, fun _ h => h⟩
theorem Go.trans (a : Go σ ow env H ow1 e1 H1) (b : Go σ ow1 e1 H1 ow2 e2 H2) : Go σ ow env H ow2 e2 H2 where
  stp := a.stp.trans b.stp
  lo := fun p w nt n => by
    obtain ⟨w1, h1, n1⟩ := a.lo p w nt n
    obtain ⟨w2, h2, n2⟩ := b.lo p w1 (by rw [h1]; exact nt) n1
    exact ⟨w2, h2.trans h1, n2⟩
  dom := fun x h => a.dom x (b.dom x h)
theorem Loose.held {p : Addr} (L : Loose F ow env σ p) : ¬ Held env σ p := fun ⟨i, l, k, h1, h2⟩ => L.2.2.2 i l k h1 h2
theorem loose_of {p : Addr} (w : ow p) (h0 : F.H0 p = none) (n : ¬ F.ow0 p) (h : ¬ Held env σ p) : Loose F ow env σ p := ⟨w, h0, n, fun i l k a b => h ⟨i, l, k, a, b⟩⟩
theorem Loose.go {p : Addr} (L : Loose F ow env σ p) (g : Go σ ow env H ow' e H') (nt : ¬ IsT (H p)) : Loose F ow' e σ p ∧ H' p = H p := by
  obtain ⟨w, h, n⟩ := g.lo p L.1 nt L.held
  exact ⟨loose_of w L.2.1 L.2.2.1 n, h⟩
theorem Go.gr (R : Rel K ca F ow env σ H) (g : Gr H H') : Go σ ow env H ow env H' := ⟨g.stp, fun p w _ n => ⟨w, by
  obtain ⟨o, h⟩ := R.trk p w
  rw [g p o h, h], n⟩, fun _ h => g.none h⟩
theorem Go.more (R : Rel K ca F ow env σ H) {p : Addr} {o : HO} (h : H p = none) : Go σ ow env H (ML.more ow p) env (upd H p o) where
  stp := stp_more h
  lo := fun q w _ n => ⟨.inl w, by
    obtain ⟨u, hu⟩ := R.trk q w
    exact upd_ne (fun z => by rw [z, h] at hu; cases hu), n⟩
  dom := fun a ha => by
    by_cases z : a = p
    · rw [z]; exact h
    · rw [upd_ne z] at ha; exact ha
theorem Go.loose {p : Addr} (L : Loose F ow env σ p) : Stp ow H (less ow p) H := stp_less
end

/-- an error's wish, of a class of the program -/
abbrev WSat (ca : CA) (W : WX) (c : Str) (σ : St) (H : Hp) : Prop := W (.ref (ca c)) none σ H

section
variable {α β γ δ : Type}
abbrev PP (α β : Type) := α → β → Hp → (Addr → Prop) → Hp → List Sl → St → Prop
def GoG (K : PySem.W.Frag) (ca : CA) (F : Fr) (W : WX) (P : PP α β) (Hs : Hp) (ow : Addr → Prop) (env : List Sl) (H : Hp) (σ : St) (Q : β → Hp → Prop) : R α → Prop
  | .ok a e => ∀ b ow' H', Go σ ow env H ow' e H' → Rel K ca F ow' e σ H' → P a b Hs ow' H' e σ → Q b H'
  | .ex c e => ∀ ow' H', Go σ ow env H ow' e H' → Rel K ca F ow' e σ H' → WSat ca W c σ H'
  | .bad => False
def tG (K : PySem.W.Frag) (ca : CA) (F : Fr) (W : WX) (P : PP α β) (m : M α) : St → Hp → (β → Hp → Prop) → Prop := fun σ H Q =>
  ∃ ow env, Rel K ca F ow env σ H ∧ GoG K ca F W P H ow env H σ Q (m env)

variable {K : PySem.W.Frag} {ca : CA} {F : Fr} {W : WX} {P : PP α β} {P' : PP γ δ} {ow ow1 : Addr → Prop} {env e1 : List Sl} {Hs H H1 : Hp} {σ : St} {Q' : δ → Hp → Prop} {C : β → Hp → Prop}
theorem GoG.mono (g : Go σ ow env H ow1 e1 H1) {r : R γ} (h : GoG K ca F W P' Hs ow env H σ Q' r) : GoG K ca F W P' Hs ow1 e1 H1 σ Q' r := by
  cases r with
  | ok a e => exact fun b ow' H' g' R p => h b ow' H' (g.trans g') R p
  | ex c e => exact fun ow' H' s R => h ow' H' (g.trans s) R
  | bad => exact h
/-- m, then f -/
theorem go_bind {m : M α} {f : α → M γ} (R : Rel K ca F ow env σ H) (h : GoG K ca F W P' Hs ow env H σ Q' (bind m f env))
    (k : ∀ a e b ow1 H1, Go σ ow env H ow1 e H1 → Rel K ca F ow1 e σ H1 → P a b H ow1 H1 e σ → GoG K ca F W P' Hs ow1 e H1 σ Q' (f a e) → C b H1) : tG K ca F W P m σ H C := by
  refine ⟨ow, env, R, ?_⟩
  unfold bind at h
  cases hm : m env with
  | ok a e =>
    rw [hm] at h
    exact fun b ow1 H1 g R1 p => k a e b ow1 H1 g R1 p (h.mono g)
  | ex c e => rw [hm] at h; exact h
  | bad => rw [hm] at h; exact h
theorem go_last {m : M α} (R : Rel K ca F ow env σ H) (h : GoG K ca F W P H ow env H σ C (m env)) : tG K ca F W P m σ H C := ⟨ow, env, R, h⟩
end

/-! ### values, tests, arguments, fresh objects -/
/-- an argument: data, the object of a slot, a fresh object -/
inductive AV where
  | d (x : D)
  | ref (i : Nat)
  | fr (k : Ob)

def PD (K : PySem.W.Frag) : PP D V := fun d v _ ow H _ _ => Rp K ow H d v
def PB : PP Bool Bool := fun a b _ _ _ _ _ => b = a
/-- a fresh object -/
def PO_ (K : PySem.W.Frag) (ca : CA) (F : Fr) : PP Ob V := fun k v H0 ow H e σ => ∃ p, v = .ref p ∧ H0 p = none ∧ OwnR K ca ow H p k ∧ Loose F ow e σ p
def AvR (K : PySem.W.Frag) (ca : CA) (F : Fr) (ow : Addr → Prop) (H : Hp) (e : List Sl) (σ : St) : AV → V → Prop
  | .d x, v => Rp K ow H x v
  | .ref i, v => σ[i]? = some (some v)
  | .fr k, v => ∃ p, v = .ref p ∧ OwnR K ca ow H p k ∧ Loose F ow e σ p
def isFr : AV → Bool
  | .fr _ => true
  | _ => false
/-- no fresh one stands at p -/
def FrNot (p : Addr) : List AV → List V → Prop
  | a :: r, v :: us => (isFr a = true → v ≠ .ref p) ∧ FrNot p r us
  | _, _ => True
/-- arguments from the left: fresh ones stand apart -/
def AvA (K : PySem.W.Frag) (ca : CA) (F : Fr) (H0 : Hp) (ow : Addr → Prop) (H : Hp) (e : List Sl) (σ : St) : List AV → List V → Prop
  | [], vs => vs = []
  | a :: r, vs => ∃ v us, vs = v :: us ∧ AvR K ca F ow H e σ a v ∧ (isFr a = true → ∀ p, v = .ref p → H0 p = none ∧ FrNot p r us) ∧ AvA K ca F H0 ow H e σ r us
def PA_ (K : PySem.W.Frag) (ca : CA) (F : Fr) : PP (List AV) (List V) := fun a b H0 ow H e σ => AvA K ca F H0 ow H e σ a b

theorem AvA.back {K : PySem.W.Frag} {ca : CA} {F : Fr} {H H1 : Hp} {ow : Addr → Prop} {H' : Hp} {e : List Sl} {σ : St} (d : ∀ x, H1 x = none → H x = none) : ∀ {as : List AV} {vs : List V}, AvA K ca F H1 ow H' e σ as vs → AvA K ca F H ow H' e σ as vs
  | [], _, h => h
  | _ :: _, _, h => by
    unfold AvA at h ⊢
    obtain ⟨v, us, e1, r, n, t⟩ := h
    exact ⟨v, us, e1, r, fun z p q => ⟨d p (n z p q).1, (n z p q).2⟩, AvA.back d t⟩
theorem AvA.frNot {K : PySem.W.Frag} {ca : CA} {F : Fr} {H1 : Hp} {ow : Addr → Prop} {H' : Hp} {e : List Sl} {σ : St} {p : Addr} {o : HO} (hp : H1 p = some o) : ∀ {as : List AV} {vs : List V}, AvA K ca F H1 ow H' e σ as vs → FrNot p as vs
  | [], _, _ => by unfold FrNot; trivial
  | _ :: _, _, h => by
    unfold AvA at h
    obtain ⟨v, us, rfl, r, n, t⟩ := h
    unfold FrNot
    refine And.intro (fun z q => ?_) (AvA.frNot hp t)
    have q2 := (n z p q).1
    rw [hp] at q2
    cases q2

abbrev tE (K : PySem.W.Frag) (ca : CA) (F : Fr) (W : WX) (m : M D) : TE := tG K ca F W (PD K) m
abbrev tT (K : PySem.W.Frag) (ca : CA) (F : Fr) (W : WX) (m : M Bool) : TT := tG K ca F W PB m
abbrev tO (K : PySem.W.Frag) (ca : CA) (F : Fr) (W : WX) (m : M Ob) : TE := tG K ca F W (PO_ K ca F) m
abbrev tA (K : PySem.W.Frag) (ca : CA) (F : Fr) (W : WX) (m : M (List AV)) : TA := tG K ca F W (PA_ K ca F) m

theorem PE.imp {X : Cx} {e : Expr} {t t' : TE} (h : PE X e t) (k : ∀ σ H Q, t' σ H Q → t σ H Q) : PE X e t' := ⟨fun pins s σ H Q I q => h.run pins s σ H Q I (k _ _ _ q)⟩
theorem PT.imp {X : Cx} {e : Expr} {t t' : TT} (h : PT X e t) (k : ∀ σ H Q, t' σ H Q → t σ H Q) : PT X e t' := ⟨fun pins s σ H Q I q => h.run pins s σ H Q I (k _ _ _ q)⟩
theorem PW.imp {X : Cx} {e : Expr} {t t' : TT} (h : PW X e t) (k : ∀ σ H Q, t' σ H Q → t σ H Q) : PW X e t' := ⟨fun wh pins s σ H Q I q => h.run wh pins s σ H Q I (k _ _ _ q)⟩
theorem PA.imp {X : Cx} {es : List Expr} {t t' : TA} (h : PA X es t) (k : ∀ σ H Q, t' σ H Q → t σ H Q) : PA X es t' := ⟨fun pos pins s σ H Q I q => h.run pos pins s σ H Q I (k _ _ _ q)⟩
theorem PS.imp {X : Cx} {st : Stmt} {t t' : TS} (h : PS X st t) (k : ∀ D σ H, t' D σ H → t D σ H) : PS X st t' := ⟨fun pins s σ H D I q => h.run pins s σ H D I (k _ _ _ q)⟩
theorem PSs.imp {X : Cx} {st : List Stmt} {t t' : TS} (h : PSs X st t) (k : ∀ D σ H, t' D σ H → t D σ H) : PSs X st t' := ⟨fun pins s σ H D I q => h.run pins s σ H D I (k _ _ _ q)⟩

/-- what leaves is taken; the error that is handled is the frame's -/
structure Tk (X : Cx) (F : Fr) (W : WX) : Prop where
  t : Takes X W
  h : ∀ a, X.A.handled = some (.ref a) → F.xa = a
/-- an expression's value is data -/
def ME (ca : CA) (X : Cx) (e : Expr) (m : M D) : Prop := ∀ F W, Tk X F W → PE X e (tE X.K ca F W m)
/-- .. is a fresh object -/
def MO (ca : CA) (X : Cx) (e : Expr) (m : M Ob) : Prop := ∀ F W, Tk X F W → PE X e (tO X.K ca F W m)
def MT (ca : CA) (X : Cx) (e : Expr) (m : M Bool) : Prop := ∀ F W, Tk X F W → PT X e (tT X.K ca F W m)
def MW (ca : CA) (X : Cx) (e : Expr) (m : M Bool) : Prop := ∀ F W, Tk X F W → PW X e (tT X.K ca F W m)
def MA (ca : CA) (X : Cx) (es : List Expr) (m : M (List AV)) : Prop := ∀ F W, Tk X F W → PA X es (tA X.K ca F W m)

section
variable {ca : CA} {X : Cx} {pos : Pos}
/-! ### constants and names -/
def eC (d : D) : M D := ret d
theorem go_pure {K : PySem.W.Frag} {ca : CA} {F : Fr} {W : WX} {d : D} {v : V} {σ : St} {H : Hp} {Q : VK} (h : tE K ca F W (eC d) σ H Q) (r : ∀ ow, Rp K ow H d v) : Q v H := by
  obtain ⟨ow, env, R, g⟩ := h
  exact g v ow H Go.refl R (r ow)
theorem me_int {i j} : ME ca X (.Constant (.int i) j pos) (eC (.int i)) := fun F W _ => PE.imp pe_int fun σ H Q h => go_pure h fun _ => by unfold Rp; rfl
theorem me_bl {b j} : ME ca X (.Constant (.bool b) j pos) (eC (.bool b)) := fun F W _ => PE.imp pe_bl fun σ H Q h => go_pure h fun _ => by unfold Rp; rfl
theorem me_non {j} : ME ca X (.Constant .none j pos) (eC .none) := fun F W _ => PE.imp pe_non fun σ H Q h => go_pure h fun _ => by unfold Rp; rfl
theorem me_str {x j} : ME ca X (.Constant (.str x) j pos) (eC (.str x)) := fun F W _ => PE.imp pe_str fun σ H Q h => go_pure h fun _ => by unfold Rp; rfl
/-- a name is read: data; an own list is data from then on -/
def eV (i : Nat) : M D := fun e => match e[i]? with
  | some (.d x) => .ok x e
  | some (.o true (.lst xs)) => .ok (.list xs) (e.set i (.d (.list xs)))
  | _ => .bad
theorem held_set {env : List Sl} {σ : St} {i : Nat} {x : D} {p : Addr} (h : Held (env.set i (.d x)) σ p) : Held env σ p := by
  obtain ⟨j, l, k, h1, h2⟩ := h
  by_cases e : i = j
  · subst e
    by_cases hl : i < env.length
    · rw [List.getElem?_set_self hl] at h1; cases h1
    · rw [List.getElem?_eq_none (by simpa using hl)] at h1; cases h1
  · rw [List.getElem?_set_ne e] at h1
    exact ⟨j, l, k, h1, h2⟩
theorem me_var (i : Nat) {x : Str} (hN : X.N[i]? = some x := by rfl) (hv : Vis X.env.scope x := by first | exact Or.inl rfl | exact Or.inr (Or.inl rfl) | exact Or.inr (Or.inr rfl)) (hd : (x == ("__debug__" : Str)) = false := by decide)
    (hcd : (x == ("__classdict__" : Str)) = false := by decide) : ME ca X (.Name x pos) (eV i) := fun F W _ => PE.imp (pe_var hN hv hd hcd) fun σ H Q h => by
  obtain ⟨ow, env, R, g⟩ := h
  unfold eV at g
  split at g
  · rename_i x e
    obtain ⟨v, h1, h2⟩ := R.data e
    exact ⟨v, h1, g v ow H Go.refl R h2⟩
  · rename_i xs e
    obtain ⟨p, h1, h2, h3⟩ := R.freeze e
    refine ⟨.ref p, h1, g (.ref p) (less ow p) H ⟨stp_less, fun q w _ n => ⟨⟨w, fun z => n ⟨i, true, .lst xs, e, by rw [h1, z]⟩⟩, rfl, fun z => n (held_set z)⟩, fun _ h => h⟩ h3 h2⟩
  · exact g.elim
/-- .. kept as it is: for what looks at it at once -/
def eR (i : Nat) : M AV := ret (.ref i)

/-! ### arguments -/
def aNil : M (List AV) := ret []
def aD (m : M D) (r : M (List AV)) : M (List AV) := bind m fun x => bind r fun xs => ret (.d x :: xs)
/-- the slot is stored -/
def okR (i : Nat) : M Unit := fun e => match e[i]? with
  | some .un => .bad
  | some _ => .ok () e
  | none => .bad
def aR (i : Nat) (r : M (List AV)) : M (List AV) := bind (okR i) fun _ => bind r fun xs => ret (.ref i :: xs)
def aF (m : M Ob) (r : M (List AV)) : M (List AV) := bind m fun k => bind r fun xs => ret (.fr k :: xs)
theorem ma_nil : MA ca X [] aNil := fun F W _ => PA.imp pa_nil fun σ H Q h => by
  obtain ⟨ow, env, R, g⟩ := h
  exact g [] ow H Go.refl R (by show AvA _ _ _ _ _ _ _ _ [] []; unfold AvA; rfl)
variable {e : Expr} {es : List Expr}
theorem ma_d {m : M D} {r : M (List AV)} (h : ME ca X e m) (hr : MA ca X es r) (hs : starEach (e :: es) X.env = (false, eval e X.env) :: starEach es X.env := by rfl) : MA ca X (e :: es) (aD m r) := fun F W tk => PA.imp (pa_cons (h F W tk) (hr F W tk) hs) fun σ H Q ⟨ow, env, R, g⟩ => by
  refine go_bind R g fun x e1 v ow1 H1 g1 R1 p1 q1 => go_bind R1 q1 fun xs e2 vs ow2 H2 g2 R2 p2 q2 => ?_
  refine q2 _ ow2 H2 Go.refl R2 ?_
  show AvA _ _ _ _ _ _ _ _ (_ :: _) _
  unfold AvA
  exact ⟨v, vs, rfl, Rp.stp g2.stp _ _ p1, fun z => (by cases z), AvA.back (fun a h => g1.dom a h) p2⟩
theorem Rel.at (R : Rel K ca F ow env σ H) {i : Nat} {s : Sl} (h : env[i]? = some s) (n : s ≠ .un) : ∃ v, σ[i]? = some (some v) := by
  obtain ⟨v, e, r⟩ := SlR.at R h
  cases s with
  | un => exact absurd rfl n
  | d x => obtain ⟨u, rfl, _⟩ := r; exact ⟨u, e⟩
  | o l k => cases l <;> (obtain ⟨p, rfl, _⟩ := r; exact ⟨_, e⟩)
  | sc ns => obtain ⟨a, rfl, _⟩ := r; exact ⟨_, e⟩
  | xc => subst r; exact ⟨_, e⟩
theorem ma_r (i : Nat) {x : Str} {p : Pos} {r : M (List AV)} (hr : MA ca X es r) (hN : X.N[i]? = some x := by rfl) (hv : Vis X.env.scope x := by first | exact Or.inl rfl | exact Or.inr (Or.inl rfl) | exact Or.inr (Or.inr rfl)) (hd : (x == ("__debug__" : Str)) = false := by decide)
    (hcd : (x == ("__classdict__" : Str)) = false := by decide) (hs : starEach (.Name x p :: es) X.env = (false, eval (.Name x p) X.env) :: starEach es X.env := by rfl) : MA ca X (.Name x p :: es) (aR i r) := fun F W tk => PA.imp (pa_cons (pe_var hN hv hd hcd) (hr F W tk) hs) fun σ H Q ⟨ow, env, R, g⟩ => by
  have hz : ∃ v, σ[i]? = some (some v) ∧ GoG X.K ca F W (PA_ X.K ca F) H ow env H σ Q (bind r (fun xs => ret (.ref i :: xs)) env) := by
    unfold aR at g
    cases ho : env[i]? with
    | none =>
      have z : bind (okR i) (fun _ => bind r fun xs => ret (.ref i :: xs)) env = .bad := by simp only [bind, okR, ho]
      rw [z] at g; exact g.elim
    | some s =>
      by_cases hs : s = .un
      · have z : bind (okR i) (fun _ => bind r fun xs => ret (.ref i :: xs)) env = .bad := by subst hs; simp only [bind, okR, ho]
        rw [z] at g; exact g.elim
      · obtain ⟨v, hv⟩ := Rel.at R ho hs
        have z : bind (okR i) (fun _ => bind r fun xs => ret (.ref i :: xs)) env = bind r (fun xs => ret (.ref i :: xs)) env := by
          cases s with
          | un => exact absurd rfl hs
          | d x => simp only [bind, okR, ho]
          | o l k => simp only [bind, okR, ho]
          | sc ns => simp only [bind, okR, ho]
          | xc => simp only [bind, okR, ho]
        rw [z] at g
        exact ⟨v, hv, g⟩
  obtain ⟨v, hv, g⟩ := hz
  refine ⟨v, hv, go_bind R g fun xs e2 vs ow2 H2 g2 R2 p2 q2 => q2 _ ow2 H2 Go.refl R2 ?_⟩
  show AvA _ _ _ _ _ _ _ _ (_ :: _) _
  unfold AvA
  exact ⟨v, vs, rfl, hv, fun z => (by cases z), p2⟩
theorem ma_f {m : M Ob} {r : M (List AV)} (h : MO ca X e m) (hr : MA ca X es r) (hs : starEach (e :: es) X.env = (false, eval e X.env) :: starEach es X.env := by rfl) : MA ca X (e :: es) (aF m r) := fun F W tk => PA.imp (pa_cons (h F W tk) (hr F W tk) hs) fun σ H Q ⟨ow, env, R, g⟩ => by
  refine go_bind R g fun k e1 v ow1 H1 g1 R1 p1 q1 => go_bind R1 q1 fun xs e2 vs ow2 H2 g2 R2 p2 q2 => ?_
  refine q2 _ ow2 H2 Go.refl R2 ?_
  show AvA _ _ _ _ _ _ _ _ (_ :: _) _
  unfold AvA
  obtain ⟨p, rfl, n, r1, L⟩ := p1
  obtain ⟨L2, e2'⟩ := L.go g2 r1.noT
  obtain ⟨u, hu⟩ := r1.there
  exact ⟨_, vs, rfl, ⟨p, rfl, r1.stp g2.stp e2', L2⟩, fun _ q eq => by cases eq; exact ⟨n, AvA.frNot hu p2⟩, AvA.back (fun a h => g1.dom a h) p2⟩
end
end ML
end

section
set_option Elab.async false
set_option linter.all false
set_option maxRecDepth 100000
set_option maxHeartbeats 2000000
/-! # Operators, comparisons, tests, displays, subscripts, built-in functions: by what their operands hold -/
namespace ML
open PySem L2

/-- what a value holds: data, an object's content, the script -/
def SvR (K : PySem.W.Frag) (ca : CA) (ow : Addr → Prop) (H : Hp) : Sl → V → Prop
  | .un, _ => False
  | .d x, v => Rp K ow H x v
  | .o _ k, v => ∃ p, v = .ref p ∧ ow p ∧ OwnR K ca ow H p k
  | .sc ns, v => ∃ a, v = .ref a ∧ ScAt K ow H a ns
  | .xc, _ => False
@[simp] def clean : Sl → Sl
  | .xc => .un
  | s => s
@[simp] def content (e : List Sl) : AV → Sl
  | .d x => .d x
  | .ref i => clean (e.getD i .un)
  | .fr k => .o true k
@[simp] def contents (e : List Sl) (as : List AV) : List Sl := as.map (content e)
def SvA (K : PySem.W.Frag) (ca : CA) (ow : Addr → Prop) (H : Hp) : List Sl → List V → Prop
  | [], vs => vs = []
  | s :: r, vs => ∃ v us, vs = v :: us ∧ (s ≠ .un → SvR K ca ow H s v) ∧ SvA K ca ow H r us
abbrev Trk (ow : Addr → Prop) (H : Hp) : Prop := ∀ a, ow a → ∃ o, H a = some o

section
variable {K : PySem.W.Frag} {ca : CA} {F : Fr} {ow ow' : Addr → Prop} {H H' Hs : Hp} {env e e' : List Sl} {σ : St}
theorem AvR.go {a : AV} {v : V} (g : Go σ ow e H ow' e' H') (h : AvR K ca F ow H e σ a v) : AvR K ca F ow' H' e' σ a v := by
  cases a with
  | d x => exact Rp.stp g.stp _ _ h
  | ref i => exact h
  | fr k =>
    obtain ⟨p, rfl, r, L⟩ := h
    obtain ⟨L2, eq⟩ := L.go g r.noT
    exact ⟨p, rfl, r.stp g.stp eq, L2⟩
theorem AvR.sv {a : AV} {v : V} (R : Rel K ca F ow e σ H) (h : AvR K ca F ow H e σ a v) (n : content e a ≠ .un) : SvR K ca ow H (content e a) v := by
  cases a with
  | d x => exact h
  | fr k => obtain ⟨p, rfl, r, L⟩ := h; exact ⟨p, rfl, L.1, r⟩
  | ref i =>
    have hs : content e (.ref i) = clean (e.getD i .un) := rfl
    rw [hs] at n ⊢
    cases he : e[i]? with
    | none => rw [List.getD_eq_getElem?_getD, he] at n; exact absurd rfl n
    | some s =>
      have es : e.getD i .un = s := by rw [List.getD_eq_getElem?_getD, he]; rfl
      rw [es] at n ⊢
      have hv : σ[i]? = some (some v) := h
      have q := R.sl i s (some v) he hv
      cases s with
      | un => exact absurd rfl n
      | d x => obtain ⟨u, eu, r⟩ := q; cases eu; exact r
      | o l k =>
        cases l with
        | true => obtain ⟨p, eu, w, r, _⟩ := q; cases eu; exact ⟨p, rfl, w, r⟩
        | false => obtain ⟨p, eu, w, r, _⟩ := q; cases eu; exact ⟨p, rfl, w, r⟩
      | sc ns => obtain ⟨a, eu, r⟩ := q; cases eu; exact ⟨a, rfl, r⟩
      | xc => exact absurd rfl n
theorem AvA.sv (R : Rel K ca F ow e σ H) : ∀ {as : List AV} {vs : List V}, AvA K ca F Hs ow H e σ as vs → SvA K ca ow H (contents e as) vs
  | [], _, h => h
  | a :: r, _, h => by
    unfold AvA at h
    obtain ⟨v, us, rfl, ra, _, t⟩ := h
    show SvA K ca ow H (content e a :: contents e r) _
    unfold SvA
    exact ⟨v, us, rfl, fun n => ra.sv R n, AvA.sv R t⟩
end

/-- one operand: data, a slot's object as it stands, a fresh object -/
def PQ (K : PySem.W.Frag) (ca : CA) (F : Fr) : PP AV V := fun a v H0 ow H e σ => AvR K ca F ow H e σ a v ∧ (isFr a = true → ∀ p, v = .ref p → H0 p = none)
abbrev tQ (K : PySem.W.Frag) (ca : CA) (F : Fr) (W : WX) (m : M AV) : TE := tG K ca F W (PQ K ca F) m
def MQ (ca : CA) (X : Cx) (e : Expr) (m : M AV) : Prop := ∀ F W, Tk X F W → PE X e (tQ X.K ca F W m)
def qD (m : M D) : M AV := bind m fun x => ret (.d x)
def qR (i : Nat) : M AV := bind (okR i) fun _ => ret (.ref i)
def qF (m : M Ob) : M AV := bind m fun k => ret (.fr k)

section
variable {ca : CA} {X : Cx} {pos : Pos} {e a b c : Expr} {es : List Expr}
theorem mq_d {m : M D} (h : ME ca X e m) : MQ ca X e (qD m) := fun F W tk => PE.imp (h F W tk) fun σ H Q ⟨ow, env, R, g⟩ =>
  go_bind R g fun x e1 v ow1 H1 g1 R1 p1 q1 => q1 v ow1 H1 Go.refl R1 ⟨p1, fun z => by cases z⟩
theorem mq_f {m : M Ob} (h : MO ca X e m) : MQ ca X e (qF m) := fun F W tk => PE.imp (h F W tk) fun σ H Q ⟨ow, env, R, g⟩ =>
  go_bind R g fun x e1 v ow1 H1 g1 R1 ⟨p, ev, n, r, L⟩ q1 => q1 v ow1 H1 Go.refl R1 ⟨⟨p, ev, r, L⟩, fun _ q eq => by rw [ev] at eq; cases eq; exact n⟩
theorem okR_go {K : PySem.W.Frag} {F : Fr} {W : WX} {β γ : Type} {P : PP γ β} {Hs H : Hp} {ow : Addr → Prop} {env : List Sl} {σ : St} {Q : β → Hp → Prop} {i : Nat} {f : Unit → M γ} (R : Rel K ca F ow env σ H) (g : GoG K ca F W P Hs ow env H σ Q (bind (okR i) f env)) :
    ∃ v, σ[i]? = some (some v) ∧ GoG K ca F W P Hs ow env H σ Q (f () env) := by
  cases ho : env[i]? with
  | none =>
    have z : bind (okR i) f env = .bad := by simp only [bind, okR, ho]
    rw [z] at g; exact g.elim
  | some s =>
    by_cases hs : s = .un
    · have z : bind (okR i) f env = .bad := by subst hs; simp only [bind, okR, ho]
      rw [z] at g; exact g.elim
    · obtain ⟨v, hv⟩ := Rel.at R ho hs
      have z : bind (okR i) f env = f () env := by
        cases s with
        | un => exact absurd rfl hs
        | d x => simp only [bind, okR, ho]
        | o l k => simp only [bind, okR, ho]
        | sc ns => simp only [bind, okR, ho]
        | xc => simp only [bind, okR, ho]
      rw [z] at g
      exact ⟨v, hv, g⟩
theorem mq_r (i : Nat) {x : Str} (hN : X.N[i]? = some x := by rfl) (hv : Vis X.env.scope x := by first | exact Or.inl rfl | exact Or.inr (Or.inl rfl) | exact Or.inr (Or.inr rfl)) (hd : (x == ("__debug__" : Str)) = false := by decide)
    (hcd : (x == ("__classdict__" : Str)) = false := by decide) : MQ ca X (.Name x pos) (qR i) := fun F W tk => PE.imp (pe_var hN hv hd hcd) fun σ H Q ⟨ow, env, R, g⟩ => by
  obtain ⟨v, hv, g⟩ := okR_go R g
  exact ⟨v, hv, g v ow H Go.refl R ⟨hv, fun z => by cases z⟩⟩
/-- a fresh list is data, from now on -/
@[simp] def obD : Ob → Option D
  | .lst xs => some (.list xs)
  | .dct kvs => some (.dict (kvs.map fun p => (kD p.1, p.2)))
  | .ins _ _ => none
def eO (m : M Ob) : M D := bind m fun k => lift (obD k)
theorem rpK_of {K : PySem.W.Frag} {ow : Addr → Prop} {H : Hp} : ∀ {kvs : List (Key × D)} {us : List (Key × V)}, RpE K ow H kvs us → RpK K ow H (kvs.map fun p => (kD p.1, p.2)) us
  | _, _, .nil => by unfold RpK; rfl
  | _, _, .cons h t => by
    show RpK K ow H (_ :: _) _
    unfold RpK
    exact ⟨_, _, _, rfl, congrArg kD h.1, h.2, rpK_of t⟩
theorem Loose.data {K : PySem.W.Frag} {F : Fr} {ow : Addr → Prop} {H : Hp} {env : List Sl} {σ : St} {p : Addr} {k : Ob} {d : D} (L : Loose F ow env σ p) (r : OwnR K ca ow H p k) (h : obD k = some d) : Rp K (less ow p) H d (.ref p) := by
  cases k with
  | lst xs =>
    cases h
    obtain ⟨vs, h1, h2⟩ := r
    unfold Rp
    exact ⟨p, vs, rfl, h1, fun z => z.2 rfl, h2.stp stp_less⟩
  | dct kvs =>
    cases h
    obtain ⟨us, h1, h2⟩ := r
    unfold Rp
    exact ⟨p, us, rfl, h1, fun z => z.2 rfl, rpK_of (h2.stp stp_less)⟩
  | ins c fs => cases h
theorem me_o {m : M Ob} (h : MO ca X e m) : ME ca X e (eO m) := fun F W tk => PE.imp (h F W tk) fun σ H Q ⟨ow, env, R, g⟩ => by
  refine ⟨ow, env, R, ?_⟩
  unfold eO bind at g
  cases hm : m env with
  | ok k e =>
    rw [hm] at g
    rintro v ow1 H1 g1 R1 ⟨p, rfl, n, r, L⟩
    cases hk : obD k with
    | none => simp only [lift, hk] at g; exact g.elim
    | some d =>
      simp only [lift, hk] at g
      refine g (.ref p) (less ow1 p) H1 ⟨g1.stp.trans stp_less, fun q w nt nh => ?_, g1.dom⟩ (R1.loose L) (L.data r hk)
      obtain ⟨w1, h1, n1⟩ := g1.lo q w nt nh
      refine ⟨⟨w1, fun z => ?_⟩, h1, n1⟩
      obtain ⟨u, hu⟩ := R.trk q w
      rw [z, n] at hu
      cases hu
  | ex c e => rw [hm] at g; exact g
  | bad => rw [hm] at g; exact g

/-! ### operators by contents -/
/-- an operator's answer is data -/
def OpS (K : PySem.W.Frag) (ca : CA) (r : R2) (g : Sl → Sl → Option D) : Prop :=
  ∀ s t z ow H v1 v2 Q, g s t = some z → (s ≠ .un → SvR K ca ow H s v1) → (t ≠ .un → SvR K ca ow H t v2) → Trk ow H → (∀ v H', Gr H H' → Rp K ow H' z v → Q v H') → r v1 v2 H Q
/-- .. is a new list -/
def OpF (K : PySem.W.Frag) (ca : CA) (r : R2) (g : Sl → Sl → Option (List D)) : Prop :=
  ∀ s t z ow H v1 v2 Q, g s t = some z → (s ≠ .un → SvR K ca ow H s v1) → (t ≠ .un → SvR K ca ow H t v2) → Trk ow H → (∀ p vs, H p = none → RpA K ow H z vs → Q (.ref p) (upd H p (.lst vs))) → r v1 v2 H Q
def e2 (g : Sl → Sl → Option D) (ma mb : M AV) : M D := bind ma fun a => bind mb fun b => fun e => lift (g (content e a) (content e b)) e
def o2 (g : Sl → Sl → Option (List D)) (ma mb : M AV) : M Ob := bind ma fun a => bind mb fun b => fun e => lift ((g (content e a) (content e b)).map Ob.lst) e
section
variable {K : PySem.W.Frag} {F : Fr} {W : WX} {ow : Addr → Prop} {env : List Sl} {Hs H : Hp} {σ : St} {Q : VK}
theorem go_val {z : D} {v : V} {H' : Hp} (R : Rel K ca F ow env σ H) (g : GoG K ca F W (PD K) Hs ow env H σ Q (.ok z env)) (gr : Gr H H') (r : Rp K ow H' z v) : Q v H' := g v ow H' (Go.gr R gr) (R.gr gr) r
theorem go_new {xs : List D} {vs : List V} {p : Addr} (R : Rel K ca F ow env σ H) (g : GoG K ca F W (PO_ K ca F) Hs ow env H σ Q (.ok (.lst xs) env)) (back : ∀ x, H x = none → Hs x = none) (h : H p = none) (r : RpA K ow H xs vs) : Q (.ref p) (upd H p (.lst vs)) := by
  obtain ⟨R1, L⟩ := R.more (o := .lst vs) h
  exact g (.ref p) _ _ (Go.more R h) R1 ⟨p, rfl, back p h, ⟨vs, upd_same, r.stp (stp_more h)⟩, L⟩
theorem lift_go {α β : Type} {P : PP α β} {Q : β → Hp → Prop} {o : Option α} (g : GoG K ca F W P Hs ow env H σ Q (lift o env)) : ∃ z, o = some z ∧ GoG K ca F W P Hs ow env H σ Q (.ok z env) := by
  cases o with
  | none => exact g.elim
  | some z => exact ⟨z, rfl, g⟩
end
theorem two_go {K : PySem.W.Frag} {F : Fr} {W : WX} {ma mb : M AV} {f : AV → AV → M D} {σ : St} {H : Hp} {Q : VK} {r : V → V → Hp → VK → Prop} (h : tE K ca F W (bind ma fun a => bind mb fun b => f a b) σ H Q)
    (k : ∀ x y v1 v2 ow e H1 Hs, Rel K ca F ow e σ H1 → AvR K ca F ow H1 e σ x v1 → AvR K ca F ow H1 e σ y v2 → GoG K ca F W (PD K) Hs ow e H1 σ Q (f x y e) → r v1 v2 H1 Q) :
    tQ K ca F W ma σ H fun x H1 => tQ K ca F W mb σ H1 fun y H2 => r x y H2 Q := by
  obtain ⟨ow, env, R, g⟩ := h
  exact go_bind R g fun x e1 v1 ow1 H1 g1 R1 p1 q1 => go_bind R1 q1 fun y e2 v2 ow2 H2 g2 R2 p2 q2 => k x y v1 v2 ow2 e2 H2 H R2 (p1.1.go g2) p2.1 q2
theorem me_op {op : Operator} {r : R2} {g : Sl → Sl → Option D} {ma mb : M AV} (ho : OpR X (binaryOp op) r) (hs : OpS X.K ca r g) (ha : MQ ca X a ma) (hb : MQ ca X b mb) : ME ca X (.BinOp a op b pos) (e2 g ma mb) := fun F W tk =>
  PE.imp (pe_op ho (ha F W tk) (hb F W tk)) fun σ H Q h => two_go h fun x y v1 v2 ow e H1 Hs R p1 p2 q => by
    obtain ⟨z, ez, q⟩ := lift_go q
    exact hs _ _ z ow H1 v1 v2 Q ez (fun n => p1.sv R n) (fun n => p2.sv R n) R.trk fun v H' gr rp => go_val R q gr rp
theorem mo_op {op : Operator} {r : R2} {g : Sl → Sl → Option (List D)} {ma mb : M AV} (ho : OpR X (binaryOp op) r) (hs : OpF X.K ca r g) (ha : MQ ca X a ma) (hb : MQ ca X b mb) : MO ca X (.BinOp a op b pos) (o2 g ma mb) := fun F W tk =>
  PE.imp (pe_op ho (ha F W tk) (hb F W tk)) fun σ H Q ⟨ow, env, R, gg⟩ =>
    go_bind R gg fun x e1 v1 ow1 H1 g1 R1 p1 q1 => go_bind R1 q1 fun y e2 v2 ow2 H2 g2 R2 p2 q2 => by
      obtain ⟨z, ez, q⟩ := lift_go q2
      obtain ⟨xs, exs, rfl⟩ := Option.map_eq_some_iff.mp ez
      exact hs _ _ xs ow2 H2 v1 v2 _ exs (fun n => (p1.1.go g2).sv R2 n) (fun n => p2.1.sv R2 n) R2.trk fun p vs hp rp => go_new R2 q (fun x h => g1.dom x (g2.dom x h)) hp rp
/-- a comparison -/
theorem me_cmp {op : CmpOp} {r : R2} {g : Sl → Sl → Option D} {ma mb : M AV} (ho : OpR X (compareOp op) r) (hs : OpS X.K ca r g) (ha : MQ ca X a ma) (hb : MQ ca X b mb) (hm : behindInMarks op b = false := by first | exact nomark _ | with_unfolding_all rfl) : ME ca X (.Compare a [op] [b] pos) (e2 g ma mb) := fun F W tk =>
  PE.imp (pe_cmpR ho (ha F W tk) (hb F W tk) hm) fun σ H Q h => two_go h fun x y v1 v2 ow e H1 Hs R p1 p2 q => by
    obtain ⟨z, ez, q⟩ := lift_go q
    exact hs _ _ z ow H1 v1 v2 Q ez (fun n => p1.sv R n) (fun n => p2.sv R n) R.trk fun v H' gr rp => go_val R q gr rp
/-- data as a truth value -/
@[simp] def dB : D → Option Bool
  | .bool b => some b
  | _ => none
def b2 (g : Sl → Sl → Option D) (ma mb : M AV) : M Bool := bind ma fun a => bind mb fun b => fun e => lift ((g (content e a) (content e b)).bind dB) e
theorem dB_some {d : D} {b : Bool} (h : dB d = some b) : d = .bool b := by
  cases d <;> first | cases h | skip
  rfl
theorem mt_cmp {op : CmpOp} {r : R2} {g : Sl → Sl → Option D} {ma mb : M AV} (ho : OpR X (compareOp op) r) (hs : OpS X.K ca r g) (ha : MQ ca X a ma) (hb : MQ ca X b mb) (hm : behindInMarks op b = false := by first | exact nomark _ | with_unfolding_all rfl) : MT ca X (.Compare a [op] [b] pos) (b2 g ma mb) := fun F W tk =>
  PT.imp (pt_cmpR ho (ha F W tk) (hb F W tk) hm) fun σ H Q ⟨ow, env, R, gg⟩ =>
    go_bind R gg fun x e1 v1 ow1 H1 g1 R1 p1 q1 => go_bind R1 q1 fun y e2 v2 ow2 H2 g2 R2 p2 q2 => by
      obtain ⟨z, ez, q⟩ := lift_go q2
      obtain ⟨d, ed, ez⟩ := Option.bind_eq_some_iff.mp ez
      have ed' := dB_some ez
      subst ed'
      refine hs _ _ _ ow2 H2 v1 v2 _ ed (fun n => (p1.1.go g2).sv R2 n) (fun n => p2.1.sv R2 n) R2.trk fun v H' gr rp => ?_
      unfold Rp at rp
      exact ⟨z, rp, q z ow2 H' (Go.gr R2 gr) (R2.gr gr) rfl⟩
def tB_ (m : M D) : M Bool := bind m fun x => lift (dB x)
/-- an expression that gives True or False, as a test -/
theorem mt_val {m : M D} (h : ME ca X e m) (he : ∀ whole, isTrue e X.env whole = (do let v ← whole; standAt e.pos; holding [v] (truthy v)) := by intro _; rfl) : MT ca X e (tB_ m) := fun F W tk =>
  PT.imp (pt_val (h F W tk) he) fun σ H Q ⟨ow, env, R, g⟩ => go_bind R g fun x e1 v1 ow1 H1 g1 R1 p1 q1 => by
    obtain ⟨z, ez, q⟩ := lift_go q1
    have ed := dB_some ez
    subst ed
    have p1' : Rp X.K ow1 H1 (.bool z) v1 := p1
    unfold Rp at p1'
    exact ⟨z, p1', q z ow1 H1 Go.refl R1 rfl⟩
def tNot_ (m : M Bool) : M Bool := bind m fun b => ret (!b)
theorem mt_not {m : M Bool} (h : MT ca X a m) : MT ca X (.UnaryOp .Not a pos) (tNot_ m) := fun F W tk =>
  PT.imp (pt_not (h F W tk)) fun σ H Q ⟨ow, env, R, g⟩ => go_bind R g fun x e1 v1 ow1 H1 g1 R1 p1 q1 => by
    have p1' : v1 = x := p1
    subst p1'
    exact q1 _ ow1 H1 Go.refl R1 rfl
def tAnd_ (m n : M Bool) : M Bool := bind m fun b => if b = true then n else ret false
def tOr_ (m n : M Bool) : M Bool := bind m fun b => if b = true then ret true else n
variable {rest : List Expr}
theorem mw_mt {m : M Bool} (h : MW ca X a m) : MT ca X a m := fun F W tk => (h F W tk).pt
theorem mw_and1 {m : M Bool} (h : MT ca X a m) : MW ca X (.BoolOp .And [a] pos) m := fun F W tk => pw_and1 (h F W tk)
theorem mw_or1 {m : M Bool} (h : MT ca X a m) : MW ca X (.BoolOp .Or [a] pos) m := fun F W tk => pw_or1 (h F W tk)
theorem mw_and {m n : M Bool} (h : MT ca X a m) (h2 : MW ca X (.BoolOp .And (b :: rest) pos) n) : MW ca X (.BoolOp .And (a :: b :: rest) pos) (tAnd_ m n) := fun F W tk =>
  PW.imp (pw_and (h F W tk) (h2 F W tk)) fun σ H Q ⟨ow, env, R, g⟩ => go_bind R g fun x e1 v1 ow1 H1 g1 R1 p1 q1 => by
    have p1' : v1 = x := p1
    subst p1'
    cases v1 with
    | true => rw [if_pos rfl] at q1 ⊢; exact ⟨ow1, e1, R1, q1⟩
    | false => rw [if_neg Bool.false_ne_true] at q1 ⊢; exact q1 _ ow1 H1 Go.refl R1 rfl
theorem mw_or {m n : M Bool} (h : MT ca X a m) (h2 : MW ca X (.BoolOp .Or (b :: rest) pos) n) : MW ca X (.BoolOp .Or (a :: b :: rest) pos) (tOr_ m n) := fun F W tk =>
  PW.imp (pw_or (h F W tk) (h2 F W tk)) fun σ H Q ⟨ow, env, R, g⟩ => go_bind R g fun x e1 v1 ow1 H1 g1 R1 p1 q1 => by
    have p1' : v1 = x := p1
    subst p1'
    cases v1 with
    | false => rw [if_neg Bool.false_ne_true] at q1 ⊢; exact ⟨ow1, e1, R1, q1⟩
    | true => rw [if_pos rfl] at q1 ⊢; exact q1 _ ow1 H1 Go.refl R1 rfl
end
end ML
end

section
set_option Elab.async false
set_option linter.all false
set_option maxRecDepth 100000
set_option maxHeartbeats 2000000
/-! # Values by and, or, not, if; displays; subscripts; slices; built-in functions; calls -/
namespace ML
open PySem L2
section
variable {ca : CA} {X : Cx} {pos : Pos} {e a b c : Expr} {es rest : List Expr}
def eAnd (m n : M D) : M D := bind m fun x => fun e => match x with
  | .bool true => n e
  | .bool false => .ok (.bool false) e
  | _ => .bad
def eOr (m n : M D) : M D := bind m fun x => fun e => match x with
  | .bool true => .ok (.bool true) e
  | .bool false => n e
  | _ => .bad
def eNot (m : M D) : M D := bind m fun x => lift ((dB x).map fun b => .bool (!b))
def eIf (t : M Bool) (m n : M D) : M D := bind t fun b => if b = true then m else n
def oIf (t : M Bool) (m n : M Ob) : M Ob := bind t fun b => if b = true then m else n
theorem me_one {op} {m : M D} (h : ME ca X a m) : ME ca X (.BoolOp op [a] pos) m := fun F W tk => pe_one (h F W tk)
theorem me_and {m n : M D} (h : ME ca X a m) (h2 : ME ca X (.BoolOp .And (b :: rest) pos) n) : ME ca X (.BoolOp .And (a :: b :: rest) pos) (eAnd m n) := fun F W tk =>
  PE.imp (pe_and (h F W tk) (h2 F W tk)) fun σ H Q ⟨ow, env, R, g⟩ => go_bind R g fun x e1 v1 ow1 H1 g1 R1 p1 q1 => by
    cases x with
    | bool b =>
      have p1' : Rp X.K ow1 H1 (.bool b) v1 := p1
      unfold Rp at p1'
      refine ⟨b, p1', ?_⟩
      cases b with
      | true => rw [if_pos rfl]; exact ⟨ow1, e1, R1, q1⟩
      | false => rw [if_neg Bool.false_ne_true]; exact q1 _ ow1 H1 Go.refl R1 (by show Rp _ _ _ (.bool false) _; unfold Rp; rfl)
    | _ => exact q1.elim
theorem me_or {m n : M D} (h : ME ca X a m) (h2 : ME ca X (.BoolOp .Or (b :: rest) pos) n) : ME ca X (.BoolOp .Or (a :: b :: rest) pos) (eOr m n) := fun F W tk =>
  PE.imp (pe_or (h F W tk) (h2 F W tk)) fun σ H Q ⟨ow, env, R, g⟩ => go_bind R g fun x e1 v1 ow1 H1 g1 R1 p1 q1 => by
    cases x with
    | bool b =>
      have p1' : Rp X.K ow1 H1 (.bool b) v1 := p1
      unfold Rp at p1'
      refine ⟨b, p1', ?_⟩
      cases b with
      | false => rw [if_neg Bool.false_ne_true]; exact ⟨ow1, e1, R1, q1⟩
      | true => rw [if_pos rfl]; exact q1 _ ow1 H1 Go.refl R1 (by show Rp _ _ _ (.bool true) _; unfold Rp; rfl)
    | _ => exact q1.elim
theorem me_not {m : M D} (h : ME ca X a m) : ME ca X (.UnaryOp .Not a pos) (eNot m) := fun F W tk =>
  PE.imp (pe_not (h F W tk)) fun σ H Q ⟨ow, env, R, g⟩ => go_bind R g fun x e1 v1 ow1 H1 g1 R1 p1 q1 => by
    obtain ⟨z, ez, q⟩ := lift_go q1
    obtain ⟨b, eb, rfl⟩ := Option.map_eq_some_iff.mp ez
    have ed := dB_some eb
    subst ed
    have p1' : Rp X.K ow1 H1 (.bool b) v1 := p1
    unfold Rp at p1'
    exact ⟨b, p1', q _ ow1 H1 Go.refl R1 (by show Rp _ _ _ (.bool (!b)) _; unfold Rp; rfl)⟩
theorem me_if {t : M Bool} {m n : M D} (hc : MT ca X c t) (h : ME ca X a m) (h2 : ME ca X b n) : ME ca X (.IfExp c a b pos) (eIf t m n) := fun F W tk =>
  PE.imp (pe_ifExp (hc F W tk) (h F W tk) (h2 F W tk)) fun σ H Q ⟨ow, env, R, g⟩ => go_bind R g fun x e1 v1 ow1 H1 g1 R1 p1 q1 => by
    have p1' : v1 = x := p1
    subst p1'
    cases v1 with
    | true => rw [if_pos rfl] at q1 ⊢; exact ⟨ow1, e1, R1, q1⟩
    | false => rw [if_neg Bool.false_ne_true] at q1 ⊢; exact ⟨ow1, e1, R1, q1⟩
theorem GoG.start {K : PySem.W.Frag} {F : Fr} {W : WX} {ow : Addr → Prop} {env : List Sl} {Hs H1 H : Hp} {σ : St} {Q : VK} {r : R Ob} (d : ∀ x, H1 x = none → Hs x = none) (g : GoG K ca F W (PO_ K ca F) Hs ow env H σ Q r) : GoG K ca F W (PO_ K ca F) H1 ow env H σ Q r := by
  cases r with
  | ok k e => exact fun b ow' H' g' R' ⟨p, ev, n, r⟩ => g b ow' H' g' R' ⟨p, ev, d p n, r⟩
  | ex c e => exact g
  | bad => exact g
theorem mo_if {t : M Bool} {m n : M Ob} (hc : MT ca X c t) (h : MO ca X a m) (h2 : MO ca X b n) : MO ca X (.IfExp c a b pos) (oIf t m n) := fun F W tk =>
  PE.imp (pe_ifExp (hc F W tk) (h F W tk) (h2 F W tk)) fun σ H Q ⟨ow, env, R, g⟩ => go_bind R g fun x e1 v1 ow1 H1 g1 R1 p1 q1 => by
    have p1' : v1 = x := p1
    subst p1'
    cases v1 with
    | true => rw [if_pos rfl] at q1 ⊢; exact ⟨ow1, e1, R1, q1.start fun x h => g1.dom x h⟩
    | false => rw [if_neg Bool.false_ne_true] at q1 ⊢; exact ⟨ow1, e1, R1, q1.start fun x h => g1.dom x h⟩
/-! ### displays -/
/-- all arguments are data -/
@[simp] def datas : List AV → Option (List D)
  | [] => some []
  | .d x :: r => (datas r).map fun xs => x :: xs
  | _ :: _ => none
theorem AvA.datas {K : PySem.W.Frag} {F : Fr} {Hs H : Hp} {ow : Addr → Prop} {e : List Sl} {σ : St} : ∀ {as : List AV} {vs : List V} {xs : List D}, AvA K ca F Hs ow H e σ as vs → datas as = some xs → RpA K ow H xs vs
  | [], _, _, h, e => by
    cases e
    unfold AvA at h
    unfold RpA
    exact h
  | .d x :: r, _, _, h, e => by
    unfold ML.datas at e
    obtain ⟨ys, ey, rfl⟩ := Option.map_eq_some_iff.mp e
    unfold AvA at h
    obtain ⟨v, us, rfl, ra, _, t⟩ := h
    unfold RpA
    exact ⟨v, us, rfl, ra, AvA.datas t ey⟩
  | .ref i :: r, _, _, h, e => by cases e
  | .fr k :: r, _, _, h, e => by cases e
theorem RpA.length {K : PySem.W.Frag} {ow : Addr → Prop} {H : Hp} : ∀ {xs : List D} {vs : List V}, RpA K ow H xs vs → xs.length = vs.length
  | [], _, h => by unfold RpA at h; rw [h]; rfl
  | _ :: _, _, h => by
    unfold RpA at h
    obtain ⟨v, us, rfl, _, t⟩ := h
    rw [List.length_cons, List.length_cons, t.length]
/-- below the length that memory lets -/
abbrev LIM : Nat := 10000000
theorem lim_line {n : Nat} (h : n ≤ LIM) : n ≤ sizeLine := Nat.le_trans h (by rw [sizeLine_eq]; decide)
theorem lim_lt {n : Nat} (h : n < LIM) : n < sizeLine := Nat.lt_of_lt_of_le h (by rw [sizeLine_eq]; decide)
def eTup (m : M (List AV)) : M D := bind m fun as => lift ((datas as).bind fun xs => if xs.length ≤ LIM then some (.tuple xs) else none)
def oLst (m : M (List AV)) : M Ob := bind m fun as => lift ((datas as).bind fun xs => if xs.length ≤ LIM then some (.lst xs) else none)
theorem ite_some {α : Type} {c : Prop} [Decidable c] {x z : α} (h : (if c then some x else none) = some z) : c ∧ x = z := by
  by_cases q : c
  · rw [if_pos q] at h; exact ⟨q, Option.some.inj h⟩
  · rw [if_neg q] at h; cases h
theorem me_tup {x1} {m : M (List AV)} (h : MA ca X es m) : ME ca X (.Tuple es x1 pos) (eTup m) := fun F W tk =>
  PE.imp (MK.pe_tupZ (h F W tk)) fun σ H Q ⟨ow, env, R, g⟩ => go_bind R g fun as e1 vs ow1 H1 g1 R1 p1 q1 => by
    obtain ⟨z, ez, q⟩ := lift_go q1
    obtain ⟨xs, ex, ez⟩ := Option.bind_eq_some_iff.mp ez
    obtain ⟨hl, rfl⟩ := ite_some ez
    have rp := AvA.datas p1 ex
    refine ⟨lim_line (by rw [← rp.length]; exact hl), fun p o hc hd hp => go_val R1 q (Gr.new hp) ?_⟩
    unfold Rp
    exact ⟨p, vs, rfl, .frz upd_same hd (R1.free hp), rp.stp (Gr.new hp).stp⟩
theorem mo_lst {m : M (List AV)} (h : MA ca X es m) : MO ca X (.List es pos) (oLst m) := fun F W tk =>
  PE.imp (pe_lst (h F W tk)) fun σ H Q ⟨ow, env, R, g⟩ => go_bind R g fun as e1 vs ow1 H1 g1 R1 p1 q1 => by
    obtain ⟨z, ez, q⟩ := lift_go q1
    obtain ⟨xs, ex, ez⟩ := Option.bind_eq_some_iff.mp ez
    obtain ⟨hl, rfl⟩ := ite_some ez
    have rp := AvA.datas p1 ex
    exact ⟨lim_line (by rw [← rp.length]; exact hl), fun p hp => go_new R1 q (fun x h => g1.dom x h) hp rp⟩
/-! ### built-in functions and types -/
def BltS (K : PySem.W.Frag) (ca : CA) (r : List V → Hp → VK → Prop) (g : List Sl → Option D) : Prop :=
  ∀ ss z ow H vs Q, g ss = some z → SvA K ca ow H ss vs → Trk ow H → (∀ v H', Gr H H' → Rp K ow H' z v → Q v H') → r vs H Q
def BltF (K : PySem.W.Frag) (ca : CA) (r : List V → Hp → VK → Prop) (g : List Sl → Option (List D)) : Prop :=
  ∀ ss z ow H vs Q, g ss = some z → SvA K ca ow H ss vs → Trk ow H → (∀ p us, H p = none → RpA K ow H z us → Q (.ref p) (upd H p (.lst us))) → r vs H Q
def eBlt (g : List Sl → Option D) (m : M (List AV)) : M D := bind m fun as => fun e => lift (g (contents e as)) e
def oBlt (g : List Sl → Option (List D)) (m : M (List AV)) : M Ob := bind m fun as => fun e => lift ((g (contents e as)).map Ob.lst) e
theorem me_blt {id : String} {x : Str} {p : Pos} {r : List V → Hp → VK → Prop} {g : List Sl → Option D} {m : M (List AV)} (hc : CallR X (.builtin id) r) (hs : BltS X.K ca r g) (ha : MA ca X (e :: es) m) (hm : X.mg x = none) (hv : bootBuiltins x = some (.builtin id)) (hg : Gl X x := by rfl)
    (hn : x ≠ "__name__" := by decide) (hdb : (x == ("__debug__" : Str)) = false := by decide)
    (he : starEach (e :: es) X.env = (false, eval e X.env) :: starEach es X.env := by rfl) (hpl : (backTo pos (starEach es X.env)).any (·.1) = false := by rfl) : ME ca X (.Call (.Name x p) (e :: es) [] pos) (eBlt g m) := fun F W tk =>
  PE.imp (pe_callB hc hg hm hv (ha F W tk) hn hdb he hpl) fun σ H Q ⟨ow, env, R, gg⟩ => go_bind R gg fun as e1 vs ow1 H1 g1 R1 p1 q1 => by
    obtain ⟨z, ez, q⟩ := lift_go q1
    exact hs _ z ow1 H1 vs Q ez (AvA.sv R1 p1) R1.trk fun v H' gr rp => go_val R1 q gr rp
theorem me_bltT {T : String} {x : Str} {p : Pos} {r : List V → Hp → VK → Prop} {g : List Sl → Option D} {m : M (List AV)} (hc : CallR X (.type T) r) (hs : BltS X.K ca r g) (ha : MA ca X (e :: es) m) (hm : X.mg x = none) (hv : bootBuiltins x = some (.type T)) (hg : Gl X x := by rfl)
    (hn : x ≠ "__name__" := by decide) (hdb : (x == ("__debug__" : Str)) = false := by decide)
    (he : starEach (e :: es) X.env = (false, eval e X.env) :: starEach es X.env := by rfl) (hpl : (backTo pos (starEach es X.env)).any (·.1) = false := by rfl) : ME ca X (.Call (.Name x p) (e :: es) [] pos) (eBlt g m) := fun F W tk =>
  PE.imp (pe_callTy hc hg hm hv (ha F W tk) hn hdb he hpl) fun σ H Q ⟨ow, env, R, gg⟩ => go_bind R gg fun as e1 vs ow1 H1 g1 R1 p1 q1 => by
    obtain ⟨z, ez, q⟩ := lift_go q1
    exact hs _ z ow1 H1 vs Q ez (AvA.sv R1 p1) R1.trk fun v H' gr rp => go_val R1 q gr rp
theorem mo_blt {id : String} {x : Str} {p : Pos} {r : List V → Hp → VK → Prop} {g : List Sl → Option (List D)} {m : M (List AV)} (hc : CallR X (.builtin id) r) (hs : BltF X.K ca r g) (ha : MA ca X (e :: es) m) (hm : X.mg x = none) (hv : bootBuiltins x = some (.builtin id)) (hg : Gl X x := by rfl)
    (hn : x ≠ "__name__" := by decide) (hdb : (x == ("__debug__" : Str)) = false := by decide)
    (he : starEach (e :: es) X.env = (false, eval e X.env) :: starEach es X.env := by rfl) (hpl : (backTo pos (starEach es X.env)).any (·.1) = false := by rfl) : MO ca X (.Call (.Name x p) (e :: es) [] pos) (oBlt g m) := fun F W tk =>
  PE.imp (pe_callB hc hg hm hv (ha F W tk) hn hdb he hpl) fun σ H Q ⟨ow, env, R, gg⟩ => go_bind R gg fun as e1 vs ow1 H1 g1 R1 p1 q1 => by
    obtain ⟨z, ez, q⟩ := lift_go q1
    obtain ⟨xs, exs, rfl⟩ := Option.map_eq_some_iff.mp ez
    exact hs _ xs ow1 H1 vs Q exs (AvA.sv R1 p1) R1.trk fun p us hp rp => go_new R1 q (fun x h => g1.dom x h) hp rp
theorem mo_bltT {T : String} {x : Str} {p : Pos} {r : List V → Hp → VK → Prop} {g : List Sl → Option (List D)} {m : M (List AV)} (hc : CallR X (.type T) r) (hs : BltF X.K ca r g) (ha : MA ca X (e :: es) m) (hm : X.mg x = none) (hv : bootBuiltins x = some (.type T)) (hg : Gl X x := by rfl)
    (hn : x ≠ "__name__" := by decide) (hdb : (x == ("__debug__" : Str)) = false := by decide)
    (he : starEach (e :: es) X.env = (false, eval e X.env) :: starEach es X.env := by rfl) (hpl : (backTo pos (starEach es X.env)).any (·.1) = false := by rfl) : MO ca X (.Call (.Name x p) (e :: es) [] pos) (oBlt g m) := fun F W tk =>
  PE.imp (pe_callTy hc hg hm hv (ha F W tk) hn hdb he hpl) fun σ H Q ⟨ow, env, R, gg⟩ => go_bind R gg fun as e1 vs ow1 H1 g1 R1 p1 q1 => by
    obtain ⟨z, ez, q⟩ := lift_go q1
    obtain ⟨xs, exs, rfl⟩ := Option.map_eq_some_iff.mp ez
    exact hs _ xs ow1 H1 vs Q exs (AvA.sv R1 p1) R1.trk fun p us hp rp => go_new R1 q (fun x h => g1.dom x h) hp rp
/-! ### subscripts -/
theorem me_ix {r : R2} {g : Sl → Sl → Option D} {ma mb : M AV} (hr : IxR X r) (hs : OpS X.K ca r g) (ha : MQ ca X a ma) (hb : MQ ca X b mb) (hp : PlainIx b := by intro _ _; rfl) : ME ca X (.Subscript a b pos) (e2 g ma mb) := fun F W tk =>
  PE.imp (pe_ix hr (ha F W tk) (hb F W tk) hp) fun σ H Q h => two_go h fun x y v1 v2 ow e H1 Hs R p1 p2 q => by
    obtain ⟨z, ez, q⟩ := lift_go q
    exact hs _ _ z ow H1 v1 v2 Q ez (fun n => p1.sv R n) (fun n => p2.sv R n) R.trk fun v H' gr rp => go_val R q gr rp
/-! ### slices -/
def tPt (K : PySem.W.Frag) (ca : CA) (F : Fr) (W : WX) (m : M (Option Int)) : TO := tG K ca F W (fun (a b : Option Int) _ _ _ _ _ => b = a) m
def MPt (ca : CA) (X : Cx) (e : Option Expr) (m : M (Option Int)) : Prop := ∀ F W, Tk X F W → PO X e (tPt X.K ca F W m)
@[simp] def dI : D → Option Int
  | .int i => some i
  | _ => none
def ptI (m : M D) : M (Option Int) := bind m fun x => lift ((dI x).map some)
theorem dI_some {d : D} {i : Int} (h : dI d = some i) : d = .int i := by
  cases d <;> first | cases h | skip
  rfl
theorem PO.imp {e : Option Expr} {t t' : TO} (h : PO X e t) (k : ∀ σ H Q, t' σ H Q → t σ H Q) : PO X e t' := ⟨fun pins s σ H Q I q => h.run pins s σ H Q I (k _ _ _ q)⟩
theorem mpt_none : MPt ca X none (ret none) := fun F W tk => PO.imp po_none fun σ H Q ⟨ow, env, R, g⟩ => g none ow H Go.refl R rfl
theorem mpt_some {m : M D} (h : ME ca X a m) : MPt ca X (some a) (ptI m) := fun F W tk => PO.imp (po_some (h F W tk)) fun σ H Q ⟨ow, env, R, g⟩ => go_bind R g fun x e1 v ow1 H1 g1 R1 p1 q1 => by
  obtain ⟨z, ez, q⟩ := lift_go q1
  obtain ⟨i, ei, rfl⟩ := Option.map_eq_some_iff.mp ez
  have ed := dI_some ei
  subst ed
  have p1' : Rp X.K ow1 H1 (.int i) v := p1
  unfold Rp at p1'
  exact ⟨i, p1', q _ ow1 H1 Go.refl R1 rfl⟩
def SlS (K : PySem.W.Frag) (ca : CA) (r : V → Option Int → Option Int → Hp → VK → Prop) (g : Sl → Option Int → Option Int → Option D) : Prop :=
  ∀ s lo hi z ow H v Q, g s lo hi = some z → (s ≠ .un → SvR K ca ow H s v) → Trk ow H → (∀ v H', Gr H H' → Rp K ow H' z v → Q v H') → r v lo hi H Q
def SlF (K : PySem.W.Frag) (ca : CA) (r : V → Option Int → Option Int → Hp → VK → Prop) (g : Sl → Option Int → Option Int → Option (List D)) : Prop :=
  ∀ s lo hi z ow H v Q, g s lo hi = some z → (s ≠ .un → SvR K ca ow H s v) → Trk ow H → (∀ p us, H p = none → RpA K ow H z us → Q (.ref p) (upd H p (.lst us))) → r v lo hi H Q
def eSl (g : Sl → Option Int → Option Int → Option D) (m : M AV) (ml mh : M (Option Int)) : M D := bind m fun a => bind ml fun lo => bind mh fun hi => fun e => lift (g (content e a) lo hi) e
def oSl (g : Sl → Option Int → Option Int → Option (List D)) (m : M AV) (ml mh : M (Option Int)) : M Ob := bind m fun a => bind ml fun lo => bind mh fun hi => fun e => lift ((g (content e a) lo hi).map Ob.lst) e
theorem me_slice {lo hi : Option Expr} {p2 : Pos} {r : V → Option Int → Option Int → Hp → VK → Prop} {g : Sl → Option Int → Option Int → Option D} {m : M AV} {ml mh : M (Option Int)} (hr : L2.SlR X r) (hs : SlS X.K ca r g) (ha : MQ ca X a m) (hl : MPt ca X lo ml) (hh : MPt ca X hi mh) :
    ME ca X (.Subscript a (.Slice lo hi none p2) pos) (eSl g m ml mh) := fun F W tk => PE.imp (pe_slice hr (ha F W tk) (hl F W tk) (hh F W tk)) fun σ H Q ⟨ow, env, R, gg⟩ =>
  go_bind R gg fun x e1 v ow1 H1 g1 R1 p1 q1 => go_bind R1 q1 fun l e2 l' ow2 H2 g2 R2 el q2 => go_bind R2 q2 fun h e3 h' ow3 H3 g3 R3 eh q3 => by
    subst el
    subst eh
    obtain ⟨z, ez, q⟩ := lift_go q3
    exact hs _ _ _ z ow3 H3 v Q ez (fun n => ((p1.1.go g2).go g3).sv R3 n) R3.trk fun v H' gr rp => go_val R3 q gr rp
theorem mo_slice {lo hi : Option Expr} {p2 : Pos} {r : V → Option Int → Option Int → Hp → VK → Prop} {g : Sl → Option Int → Option Int → Option (List D)} {m : M AV} {ml mh : M (Option Int)} (hr : L2.SlR X r) (hs : SlF X.K ca r g) (ha : MQ ca X a m) (hl : MPt ca X lo ml) (hh : MPt ca X hi mh) :
    MO ca X (.Subscript a (.Slice lo hi none p2) pos) (oSl g m ml mh) := fun F W tk => PE.imp (pe_slice hr (ha F W tk) (hl F W tk) (hh F W tk)) fun σ H Q ⟨ow, env, R, gg⟩ =>
  go_bind R gg fun x e1 v ow1 H1 g1 R1 p1 q1 => go_bind R1 q1 fun l e2 l' ow2 H2 g2 R2 el q2 => go_bind R2 q2 fun h e3 h' ow3 H3 g3 R3 eh q3 => by
    subst el
    subst eh
    obtain ⟨z, ez, q⟩ := lift_go q3
    obtain ⟨xs, exs, rfl⟩ := Option.map_eq_some_iff.mp ez
    exact hs _ _ _ xs ow3 H3 v Q exs (fun n => ((p1.1.go g2).go g3).sv R3 n) R3.trk fun p us hp rp => go_new R3 q (fun x h => g1.dom x (g2.dom x (g3.dom x h))) hp rp
end
end ML
end

section
set_option Elab.async false
set_option linter.all false
set_option maxRecDepth 100000
set_option maxHeartbeats 2000000
/-! # Statements; a def by its body; a call -/
namespace ML
open PySem L2
open PyProof.Rows (envOfC)

/-- what a def hands back: data, or a fresh object -/
inductive RV where
  | d (x : D)
  | o (k : Ob)
/-- what comes of a statement -/
inductive SR where
  | nx (e : List Sl)
  | rt (r : RV) (e : List Sl)
  | bk (e : List Sl)
  | ct (e : List Sl)
  | ex (c : Str) (e : List Sl)
  | bad
abbrev MStm := List Sl → SR

def GoS (K : PySem.W.Frag) (ca : CA) (F : Fr) (W : WX) (ow : Addr → Prop) (H : Hp) (Dn : Ends) : SR → Prop
  | .nx e => ∀ σ' ow' H', Stp ow H ow' H' → Rel K ca F ow' e σ' H' → Dn.nx σ' H'
  | .bk e => ∀ σ' ow' H', Stp ow H ow' H' → Rel K ca F ow' e σ' H' → Dn.bk σ' H'
  | .ct e => ∀ σ' ow' H', Stp ow H ow' H' → Rel K ca F ow' e σ' H' → Dn.ct σ' H'
  | .rt (.d x) e => ∀ v σ' ow' H', Stp ow H ow' H' → Rel K ca F ow' e σ' H' → Rp K ow' H' x v → Dn.rt v H'
  | .rt (.o k) e => ∀ p σ' ow' H', Stp ow H ow' H' → Rel K ca F ow' e σ' H' → OwnR K ca ow' H' p k → Loose F ow' e σ' p → Dn.rt (.ref p) H'
  | .ex c e => ∀ σ' ow' H', Stp ow H ow' H' → Rel K ca F ow' e σ' H' → WSat ca W c σ' H'
  | .bad => False
def tS (K : PySem.W.Frag) (ca : CA) (F : Fr) (W : WX) (m : MStm) : TS := fun Dn σ H => ∃ ow env, Rel K ca F ow env σ H ∧ GoS K ca F W ow H Dn (m env)
def MS (ca : CA) (X : Cx) (st : Stmt) (m : MStm) : Prop := ∀ F W, Tk X F W → PassesOwn (model X.prog X.w) X.A X.env X.xe → PS X st (tS X.K ca F W m)
def MSs (ca : CA) (X : Cx) (st : List Stmt) (m : MStm) : Prop := ∀ F W, Tk X F W → PassesOwn (model X.prog X.w) X.A X.env X.xe → PSs X st (tS X.K ca F W m)

section
variable {K : PySem.W.Frag} {ca : CA} {F : Fr} {W : WX} {ow ow1 : Addr → Prop} {H H1 : Hp} {Dn : Ends} {env : List Sl} {σ : St}
theorem GoS.mono {r : SR} (s : Stp ow H ow1 H1) (h : GoS K ca F W ow H Dn r) : GoS K ca F W ow1 H1 Dn r := by
  cases r with
  | nx e => exact fun σ' ow' H' s' R => h σ' ow' H' (s.trans s') R
  | bk e => exact fun σ' ow' H' s' R => h σ' ow' H' (s.trans s') R
  | ct e => exact fun σ' ow' H' s' R => h σ' ow' H' (s.trans s') R
  | rt r e =>
    cases r with
    | d x => exact fun v σ' ow' H' s' R => h v σ' ow' H' (s.trans s') R
    | o k => exact fun p σ' ow' H' s' R => h p σ' ow' H' (s.trans s') R
  | ex c e => exact fun σ' ow' H' s' R => h σ' ow' H' (s.trans s') R
  | bad => exact h
/-- an expression, then a statement's rest -/
def xS {α : Type} (m : M α) (f : α → MStm) : MStm := fun e => match m e with
  | .ok a e' => f a e'
  | .ex c e' => .ex c e'
  | .bad => .bad
theorem go_stm {α β : Type} {P : PP α β} {m : M α} {f : α → MStm} {C : β → Hp → Prop} (R : Rel K ca F ow env σ H) (h : GoS K ca F W ow H Dn (xS m f env))
    (k : ∀ a e b ow1 H1, Go σ ow env H ow1 e H1 → Rel K ca F ow1 e σ H1 → P a b H ow1 H1 e σ → GoS K ca F W ow1 H1 Dn (f a e) → C b H1) : tG K ca F W P m σ H C := by
  refine ⟨ow, env, R, ?_⟩
  unfold xS at h
  cases hm : m env with
  | ok a e =>
    rw [hm] at h
    exact fun b ow1 H1 g R1 p => k a e b ow1 H1 g R1 p (h.mono g.stp)
  | ex c e => rw [hm] at h; exact fun ow' H' s' R' => h σ ow' H' s'.stp R'
  | bad => rw [hm] at h; exact h
end

section
variable {ca : CA} {X : Cx} {pos : Pos} {e a b c : Expr} {es : List Expr} {st : Stmt} {rest : List Stmt}
/-! ### blocks -/
def sNil : MStm := fun e => .nx e
def sSeq (m n : MStm) : MStm := fun e => match m e with
  | .nx e' => n e'
  | r => r
theorem mss_nil : MSs ca X [] sNil := fun F W tk hp => PSs.imp pss_nil fun Dn σ H ⟨ow, env, R, g⟩ => g σ ow H Stp.refl R
theorem mss_cons {m n : MStm} (h1 : MS ca X st m) (h2 : MSs ca X rest n) : MSs ca X (st :: rest) (sSeq m n) := fun F W tk hp => PSs.imp (pss_cons (h1 F W tk hp) (h2 F W tk hp)) fun Dn σ H ⟨ow, env, R, g⟩ => by
  refine ⟨ow, env, R, ?_⟩
  unfold sSeq at g
  cases hm : m env with
  | nx e =>
    rw [hm] at g
    exact fun σ' ow' H' s' R' => ⟨ow', e, R', GoS.mono s' g⟩
  | bk e => rw [hm] at g; exact g
  | ct e => rw [hm] at g; exact g
  | rt r e => rw [hm] at g; cases r <;> exact g
  | ex c e => rw [hm] at g; exact g
  | bad => rw [hm] at g; exact g
theorem mss_one {m : MStm} (h1 : MS ca X st m) : MSs ca X [st] m := fun F W tk hp => pss_one (h1 F W tk hp)
theorem ms_pass : MS ca X (.Pass pos) sNil := fun F W tk hp => PS.imp ps_pass fun Dn σ H ⟨ow, env, R, g⟩ => g σ ow H Stp.refl R
def sBk : MStm := fun e => .bk e
def sCt : MStm := fun e => .ct e
theorem ms_break : MS ca X (.Break pos) sBk := fun F W tk hp => PS.imp ps_break fun Dn σ H ⟨ow, env, R, g⟩ => g σ ow H Stp.refl R
theorem ms_continue : MS ca X (.Continue pos) sCt := fun F W tk hp => PS.imp ps_continue fun Dn σ H ⟨ow, env, R, g⟩ => g σ ow H Stp.refl R
/-! ### return -/
def sRet (m : M D) : MStm := xS m fun x e => .rt (.d x) e
def sRetO (m : M Ob) : MStm := xS m fun k e => .rt (.o k) e
theorem ms_ret {m : M D} (h : ME ca X e m) : MS ca X (.Return (some e) pos) (sRet m) := fun F W tk hp => PS.imp (ps_ret (h F W tk)) fun Dn σ H ⟨ow, env, R, g⟩ =>
  go_stm R g fun x e1 v ow1 H1 g1 R1 p1 q1 => q1 v σ ow1 H1 Stp.refl R1 p1
theorem ms_retO {m : M Ob} (h : MO ca X e m) : MS ca X (.Return (some e) pos) (sRetO m) := fun F W tk hp => PS.imp (ps_ret (h F W tk)) fun Dn σ H ⟨ow, env, R, g⟩ =>
  go_stm R g fun x e1 v ow1 H1 g1 R1 ⟨p, ev, n, r, L⟩ q1 => by
    rw [ev]
    exact q1 p σ ow1 H1 Stp.refl R1 r L
theorem ms_retN : MS ca X (.Return none pos) (fun e => .rt (.d .none) e) := fun F W tk hp => PS.imp ps_retN fun Dn σ H ⟨ow, env, R, g⟩ => g .non σ ow H Stp.refl R (by unfold Rp; rfl)
/-- return of a name: its own object goes out fresh, data as data -/
def sRetV (i : Nat) : MStm := fun e => match e[i]? with
  | some (.d x) => .rt (.d x) e
  | some (.o true k) => .rt (.o k) (e.set i .un)
  | _ => .bad
theorem ms_retV (i : Nat) {x : Str} {p : Pos} (hN : X.N[i]? = some x := by rfl) (hv : Vis X.env.scope x := by first | exact Or.inl rfl | exact Or.inr (Or.inl rfl) | exact Or.inr (Or.inr rfl)) (hd : (x == ("__debug__" : Str)) = false := by decide)
    (hcd : (x == ("__classdict__" : Str)) = false := by decide) : MS ca X (.Return (some (.Name x p)) pos) (sRetV i) := fun F W tk hp => PS.imp (ps_ret (pe_var hN hv hd hcd)) fun Dn σ H ⟨ow, env, R, g⟩ => by
  unfold sRetV at g
  split at g
  · rename_i x e
    obtain ⟨v, h1, h2⟩ := R.data e
    exact ⟨v, h1, g v σ ow H Stp.refl R h2⟩
  · rename_i k e
    obtain ⟨q, h1, h2, h3, h4⟩ := R.let_ e
    exact ⟨.ref q, h1, g q σ ow H Stp.refl h3 h2 h4⟩
  · exact g.elim
/-! ### if -/
def sIf (t : M Bool) (m n : MStm) : MStm := xS t fun b => if b = true then m else n
theorem ms_if {p q : List Stmt} {t : M Bool} {m n : MStm} (hc : MT ca X c t) (h1 : MSs ca X p m) (h2 : MSs ca X q n) : MS ca X (.If c p q pos) (sIf t m n) := fun F W tk hp => PS.imp (ps_if (hc F W tk) (h1 F W tk hp) (h2 F W tk hp)) fun Dn σ H ⟨ow, env, R, g⟩ =>
  go_stm R g fun x e1 v ow1 H1 g1 R1 p1 q1 => by
    have p1' : v = x := p1
    subst p1'
    cases v with
    | true => rw [if_pos rfl] at q1 ⊢; exact ⟨ow1, e1, R1, q1⟩
    | false => rw [if_neg Bool.false_ne_true] at q1 ⊢; exact ⟨ow1, e1, R1, q1⟩
/-! ### assignment -/
def sSet (i : Nat) (m : M D) : MStm := xS m fun x e => .nx (e.set i (.d x))
def sSetO (i : Nat) (m : M Ob) : MStm := xS m fun k e => .nx (e.set i (.o true k))
theorem ms_set (i : Nat) {x : Str} {p : Pos} {m : M D} (h : ME ca X e m) (hN : X.N.Nodup) (hi : X.N[i]? = some x := by rfl) (hx : Loc X.env.scope x := by first | exact Or.inl rfl | exact Or.inr rfl) (hf : X.fn x = true ∨ X.env.scope.names.lookup x = some .local := by first | exact .inl rfl | exact .inr rfl)
    (hs : swapsWithSole [.Name x p] e pos.line X.env = pure false := by rfl) : MS ca X (.Assign [.Name x p] e pos) (sSet i m) := fun F W tk hp => PS.imp (ps_set (i := i) hN hi hx (h F W tk) hs hf) fun Dn σ H ⟨ow, env, R, g⟩ =>
  go_stm R g fun x e1 v ow1 H1 g1 R1 p1 q1 => q1 (σ.set i (some v)) ow1 H1 Stp.refl (R1.set p1)
theorem ms_setO (i : Nat) {x : Str} {p : Pos} {m : M Ob} (h : MO ca X e m) (hN : X.N.Nodup) (hi : X.N[i]? = some x := by rfl) (hx : Loc X.env.scope x := by first | exact Or.inl rfl | exact Or.inr rfl) (hf : X.fn x = true ∨ X.env.scope.names.lookup x = some .local := by first | exact .inl rfl | exact .inr rfl)
    (hs : swapsWithSole [.Name x p] e pos.line X.env = pure false := by rfl) : MS ca X (.Assign [.Name x p] e pos) (sSetO i m) := fun F W tk hp => PS.imp (ps_set (i := i) hN hi hx (h F W tk) hs hf) fun Dn σ H ⟨ow, env, R, g⟩ =>
  go_stm R g fun x e1 v ow1 H1 g1 R1 ⟨p, ev, n, r, L⟩ q1 => by
    rw [ev]
    exact q1 (σ.set i (some (.ref p))) ow1 H1 Stp.refl (R1.setO L r)
/-- an expression alone -/
def sDrop (m : M D) : MStm := xS m fun _ e => .nx e
theorem ms_expr {m : M D} (h : ME ca X e m) (hs : swapsWith e none pos.line X.env = pure false := by rfl) : MS ca X (.Expr e pos) (sDrop m) := fun F W tk hp => PS.imp (ps_expr (h F W tk) hs) fun Dn σ H ⟨ow, env, R, g⟩ =>
  go_stm R g fun x e1 v ow1 H1 g1 R1 p1 q1 => q1 σ ow1 H1 Stp.refl R1
end

/-! ### a def's promise, by a plain function of its arguments -/
inductive CR where
  | ok (r : RV) (outs : List Sl)
  | ex (c : Str) (outs : List Sl)
  | bad
@[simp] def argOf : Sl → Sl
  | .o _ k => .o false k
  | s => s
structure ArgsOk (K : PySem.W.Frag) (ca : CA) (ow : Addr → Prop) (H : Hp) (args : List Sl) (vs : List V) : Prop where
  len : args.length = vs.length
  sl : ∀ (i : Nat) (s : Sl) (v : V), args[i]? = some s → vs[i]? = some v → SvR K ca ow H s v
  own : ∀ (i : Nat) (k : Ob), args[i]? ≠ some (.o true k)
  dis : ∀ (i j : Nat) (p : Addr) (k k' : Ob), args[i]? = some (.o false k) → args[j]? = some (.o false k') → vs[i]? = some (.ref p) → vs[j]? = some (.ref p) → i = j
  tab : ∀ q ∈ ca.tb, ow q.1 ∧ TbR ow H q.1 q.2
  knd : Knd ca ow H
def IoA (ca : CA) (args : List Sl) (vs : List V) (a : Addr) : Prop := (∃ (i : Nat) (k : Ob), args[i]? = some (.o false k) ∧ vs[i]? = some (.ref a)) ∨ ∃ q ∈ ca.tb, q.1 = a
structure Kept (ca : CA) (H H' : Hp) (args : List Sl) (vs : List V) : Prop where
  keep : ∀ a o, H a = some o → ¬ IoA ca args vs a → NT o → H' a = some o
  dom : ∀ a, H' a = none → H a = none
def OutsOk (K : PySem.W.Frag) (ca : CA) (ow : Addr → Prop) (H' : Hp) (args : List Sl) (vs : List V) (outs : List Sl) : Prop :=
  (∀ (i : Nat) (k : Ob) (p : Addr), args[i]? = some (.o false k) → vs[i]? = some (.ref p) → ∃ k', outs[i]? = some (.o false k') ∧ OwnR K ca ow H' p k') ∧ ∀ q ∈ ca.tb, TbR ow H' q.1 q.2
def GoC (K : PySem.W.Frag) (ca : CA) (ow : Addr → Prop) (H : Hp) (args : List Sl) (vs : List V) (Q : VK) (E : XK) : CR → Prop
  | .ok (.d x) outs => ∀ v H', Kept ca H H' args vs → OutsOk K ca ow H' args vs outs → Rp K ow H' x v → Q v H'
  | .ok (.o k) outs => ∀ p H', Kept ca H H' args vs → H p = none → (∃ o, H' p = some o) → OutsOk K ca (more ow p) H' args vs outs → OwnR K ca (more ow p) H' p k → Q (.ref p) H'
  | .ex c outs => ∀ H', Kept ca H H' args vs → OutsOk K ca ow H' args vs outs → E (.ref (ca c)) none H'
  | .bad => False
def spM (K : PySem.W.Frag) (ca : CA) (n : Nat) (mf : List Sl → CR) : Sp := fun vs H Q E => ∃ ow args, vs.length = n ∧ ArgsOk K ca ow H args vs ∧ Trk ow H ∧ GoC K ca ow H args vs Q E (mf args)
/-- what is passed to be changed still stands in its slot -/
def ioOk (args e : List Sl) : Bool := (List.range args.length).all fun i => match args[i]? with
  | some (.o _ _) => match e[i]? with
    | some (.o false _) => true
    | _ => false
  | _ => true
/-- what the arguments that may change hold behind it -/
@[simp] def outsOf (args e : List Sl) : List Sl := List.zipWith (fun a s => match a with
  | .o _ _ => s
  | _ => .un) args e
def runBody (n N : Nat) (m : MStm) (args : List Sl) : CR := if args.length = n then match m (args ++ List.replicate (N - n) .un) with
    | .nx e => if ioOk args e = true then .ok (.d .none) (outsOf args e) else .bad
    | .rt r e => if ioOk args e = true then .ok r (outsOf args e) else .bad
    | .ex c e => if ioOk args e = true then .ex c (outsOf args e) else .bad
    | _ => .bad
  else .bad
section
variable {K : PySem.W.Frag} {ca : CA} {ow ow' : Addr → Prop} {H H' : Hp} {args e : List Sl} {vs : List V} {σ : St}
theorem anti (h : ∀ a, ow a → ow' a) : Stp ow' H ow H := fun a o e n _ => ⟨e, fun z => n (h a z)⟩
theorem ArgsOk.rel {N : List Str} (A : ArgsOk K ca ow H args vs) (tr : Trk ow H) (hN : vs.length ≤ N.length) : Rel K ca ⟨H, ow, IoA ca args vs, vs, 0⟩ ow (args ++ List.replicate (N.length - vs.length) .un) (L2.start N vs) H where
  len := by unfold L2.start; simp [A.len]
  sl := fun i s v h1 h2 => by
    by_cases hi : i < args.length
    · rw [List.getElem?_append_left hi] at h1
      unfold L2.start at h2
      rw [List.getElem?_append_left (by simpa using (A.len ▸ hi)), List.getElem?_map] at h2
      cases hv : vs[i]? with
      | none => rw [hv] at h2; cases h2
      | some u =>
        rw [hv] at h2
        cases h2
        have q := A.sl i s u h1 hv
        cases s with
        | un => exact q.elim
        | d x => exact ⟨u, rfl, q⟩
        | o l k =>
          cases l with
          | true => exact absurd h1 (A.own i k)
          | false => obtain ⟨p, rfl, w, r⟩ := q; exact ⟨p, rfl, w, r, .inl ⟨i, k, h1, hv⟩, hv⟩
        | sc ns => obtain ⟨a, rfl, r⟩ := q; exact ⟨a, rfl, r⟩
        | xc => exact q.elim
    · rw [List.getElem?_append_right (by omega), List.getElem?_replicate] at h1
      split at h1
      · cases h1; exact True.intro
      · cases h1
  dis := fun i j p l l' k k' h1 h2 h3 h4 => by
    have at_ : ∀ {i : Nat} {l : Bool} {k : Ob} {p : Addr}, (args ++ List.replicate (N.length - vs.length) Sl.un)[i]? = some (Sl.o l k) → (L2.start N vs)[i]? = some (some (V.ref p)) → args[i]? = some (.o false k) ∧ vs[i]? = some (.ref p) := fun {i l k p} a b => by
      by_cases hi : i < args.length
      · rw [List.getElem?_append_left hi] at a
        unfold L2.start at b
        rw [List.getElem?_append_left (by simpa using (A.len ▸ hi)), List.getElem?_map] at b
        cases hv : vs[i]? with
        | none => rw [hv] at b; cases b
        | some u =>
          rw [hv] at b
          cases b
          cases l with
          | true => exact absurd a (A.own i k)
          | false => exact ⟨a, rfl⟩
      · rw [List.getElem?_append_right (by omega), List.getElem?_replicate] at a
        split at a <;> cases a
    obtain ⟨a1, b1⟩ := at_ h1 h3
    obtain ⟨a2, b2⟩ := at_ h2 h4
    exact A.dis i j p k k' a1 a2 b1 b2
  keep := fun _ _ h _ _ => h
  dom := fun _ h => h
  sub := fun _ h => h
  trk := tr
  knd := A.knd
  tab := fun q hq => let ⟨a, b⟩ := A.tab q hq; ⟨a, .inr ⟨q, hq, rfl⟩, tr _ a, b⟩
theorem outs_of {n : Nat} (R : Rel K ca ⟨H, ow, IoA ca args vs, vs, 0⟩ ow' e σ H') (hn : args.length = n) (io : ioOk args e = true) {w : Addr → Prop} (sub : ∀ a, w a → ow' a) : OutsOk K ca w H' args vs (outsOf args e) := by
  refine ⟨fun i k p h1 h2 => ?_, fun q hq => let ⟨_, _, _, d⟩ := R.tab q hq; d.stp (anti sub) rfl⟩
  have hi : i < args.length := (List.getElem?_eq_some_iff.mp h1).1
  have q := (List.all_eq_true.mp io) i (List.mem_range.mpr hi)
  simp only [h1] at q
  split at q
  · rename_i k' he
    obtain ⟨v, ev, p', rfl, w', r, _, hv⟩ := SlR.at R he
    have hp : some (V.ref p') = some (V.ref p) := hv.symm.trans h2
    cases hp
    exact ⟨k', by unfold outsOf; rw [List.getElem?_zipWith, h1, he], r.stp (anti sub) rfl⟩
  · cases q
theorem Rel.kept (R : Rel K ca ⟨H, ow, IoA ca args vs, vs, 0⟩ ow' e σ H') : Kept ca H H' args vs := ⟨R.keep, R.dom⟩
end
section
variable {P : Program} {w : World} {K : PySem.W.Frag} {mg : Str → Option Value} {base : Heap} {ca : CA}
/-- a def keeps the promise of its body's function -/
theorem fnM {x qual : Str} {st : Stmt} {f : Addr} {fd : FuncData} {N ps : List Str} {k : Nat} {m : MStm} (Fn : Fun K x qual st f fd) (S : FnScope N ps (defScope st)) (hl : ps.length ≤ N.length := by decide)
    (hbody : ∀ (cdv : Value) (A : Around) (outer : List Env) (s : Shared) (H : Hp) (E : XK), Room k (A.deeper (envOfC qual (defScope st) s.heap.objs.size f cdv)) → MSs ca (cxOf (L2.CX P w) P w K mg base N qual (defScope st) f cdv A outer s H E) (defBody st) m) :
    FnOk P w K mg base (L2.CX P w) (k + 1) f fd ps (spM K ca ps.length (runBody ps.length N.length m)) := by
  refine Fn.okX S (fun vs H Q E ⟨_, _, h, _⟩ => h) fun cdv A outer s H vs Q E hr ⟨ow, args, hv, AO, tr, g⟩ => ?_
  have hp : PassesOwn (model P w) (cxOf (L2.CX P w) P w K mg base N qual (defScope st) f cdv A outer s H E).A (cxOf (L2.CX P w) P w K mg base N qual (defScope st) f cdv A outer s H E).env (cxOf (L2.CX P w) P w K mg base N qual (defScope st) f cdv A outer s H E).xe := PassesOwn.leaving
  refine ⟨_, hbody cdv A outer s H E hr ⟨H, ow, IoA ca args vs, vs, 0⟩ (fun cls d _ H => E cls d H) ⟨takes_of rfl rfl rfl rfl, fun a h => by have z := hr.hd; rw [show (A.deeper (envOfC qual (defScope st) s.heap.objs.size f cdv)).handled = some (.ref a) from h] at z; cases z⟩ hp, ?_⟩
  have ha : args.length = ps.length := AO.len.trans hv
  refine ⟨ow, _, AO.rel tr (by omega), ?_⟩
  show GoS K ca _ _ ow H _ _
  unfold runBody at g
  rw [if_pos ha] at g
  rw [← hv] at g
  rw [hv] at g ⊢
  cases hm : m (args ++ List.replicate (N.length - ps.length) .un) with
  | nx e =>
    rw [hm] at g
    dsimp only at g
    by_cases io : ioOk args e = true
    · rw [if_pos io] at g
      exact fun σ' ow' H' s' R' => g .non H' R'.kept (outs_of R' ha io R'.sub) (by unfold Rp; rfl)
    · rw [if_neg io] at g; exact g.elim
  | rt r e =>
    rw [hm] at g
    dsimp only at g
    by_cases io : ioOk args e = true
    · rw [if_pos io] at g
      cases r with
      | d x => exact fun v σ' ow' H' s' R' rp => g v H' R'.kept (outs_of R' ha io R'.sub) (rp.stp (anti R'.sub))
      | o k =>
        intro p σ' ow' H' s' R' ro L
        have sub : ∀ a, more ow p a → ow' a := fun a z => by
          rcases z with z | z
          · exact R'.sub a z
          · rw [z]; exact L.1
        exact g p H' R'.kept L.2.1 ro.there (outs_of R' ha io sub) (ro.stp (anti sub) rfl)
    · rw [if_neg io] at g; exact g.elim
  | ex c e =>
    rw [hm] at g
    dsimp only at g
    by_cases io : ioOk args e = true
    · rw [if_pos io] at g
      exact fun σ' ow' H' s' R' => g H' R'.kept (outs_of R' ha io R'.sub)
    · rw [if_neg io] at g; exact g.elim
  | bk e => rw [hm] at g; exact g.elim
  | ct e => rw [hm] at g; exact g.elim
  | bad => rw [hm] at g; exact g.elim
end
end ML
end

section
set_option Elab.async false
set_option linter.all false
set_option maxRecDepth 100000
set_option maxHeartbeats 2000000
/-! # A call of a def -/
namespace ML
open PySem L2
open PyProof.Rows (envOfC)

/-- which argument is an object of a slot: at most one is -/
@[simp] def ios (e : List Sl) : List AV → Nat → Option (Option (Nat × Nat))
  | [], _ => some none
  | .fr _ :: _, _ => none
  | .d _ :: r, i => ios e r (i + 1)
  | .ref j :: r, i => match e[j]? with
    | some (.o _ _) => match ios e r (i + 1) with
      | some none => some (some (i, j))
      | _ => none
    | some (.d _) => ios e r (i + 1)
    | some (.sc _) => ios e r (i + 1)
    | _ => none
theorem ios_none {e : List Sl} : ∀ {as : List AV} {n : Nat}, ios e as n = some none → ∀ (i : Nat) (l : Bool) (k : Ob), (contents e as)[i]? ≠ some (Sl.o l k) ∧ (contents e as)[i]? ≠ some Sl.un
  | [], _, _, i, l, k => by simp [contents]
  | .fr _ :: _, _, h, _, _, _ => by cases h
  | .d x :: r, n, h, i, l, k => by
    unfold ios at h
    cases i with
    | zero => exact ⟨fun z => (by cases z), fun z => (by cases z)⟩
    | succ i => exact ios_none (as := r) h i l k
  | .ref j :: r, n, h, i, l, k => by
    unfold ios at h
    have hc : content e (.ref j) = clean (e.getD j .un) := rfl
    have go : ∀ {s : Sl}, e[j]? = some s → content e (.ref j) = clean s := fun {s} he => by rw [hc, List.getD_eq_getElem?_getD, he]; rfl
    split at h
    · split at h <;> cases h
    · rename_i x he
      cases i with
      | zero => exact ⟨fun z => (by rw [contents, List.map_cons, List.getElem?_cons_zero, go he] at z; cases z), fun z => (by rw [contents, List.map_cons, List.getElem?_cons_zero, go he] at z; cases z)⟩
      | succ i => exact ios_none (as := r) h i l k
    · rename_i x he
      cases i with
      | zero => exact ⟨fun z => (by rw [contents, List.map_cons, List.getElem?_cons_zero, go he] at z; cases z), fun z => (by rw [contents, List.map_cons, List.getElem?_cons_zero, go he] at z; cases z)⟩
      | succ i => exact ios_none (as := r) h i l k
    · cases h
theorem ios_one {e : List Sl} {i0 j : Nat} : ∀ {as : List AV} {n : Nat}, ios e as n = some (some (i0, j)) → n ≤ i0 ∧ as[i0 - n]? = some (.ref j) ∧ (∃ l k, e[j]? = some (.o l k)) ∧ ∀ (i : Nat), (∀ (l : Bool) (k : Ob), (contents e as)[i]? = some (Sl.o l k) → i = i0 - n) ∧ (contents e as)[i]? ≠ some Sl.un
  | [], _, h => by cases h
  | .fr _ :: _, _, h => by cases h
  | .d x :: r, n, h => by
    unfold ios at h
    obtain ⟨h1, h2, h3, h4⟩ := ios_one (as := r) h
    refine ⟨by omega, ?_, h3, fun i => ?_⟩
    · have : i0 - n = (i0 - (n + 1)) + 1 := by omega
      rw [this, List.getElem?_cons_succ]; exact h2
    · cases i with
      | zero => exact ⟨fun l k z => (by cases z), fun z => (by cases z)⟩
      | succ i => exact ⟨fun l k z => by have := (h4 i).1 l k z; omega, (h4 i).2⟩
  | .ref j' :: r, n, h => by
    unfold ios at h
    have hc : content e (.ref j') = clean (e.getD j' .un) := rfl
    have go : ∀ {s : Sl}, e[j']? = some s → content e (.ref j') = clean s := fun {s} he => by rw [hc, List.getD_eq_getElem?_getD, he]; rfl
    have step : ∀ {s : Sl}, e[j']? = some s → (∀ l k, clean s ≠ .o l k) → clean s ≠ .un → ios e r (n + 1) = some (some (i0, j)) → n ≤ i0 ∧ (AV.ref j' :: r)[i0 - n]? = some (.ref j) ∧ (∃ l k, e[j]? = some (.o l k)) ∧ ∀ (i : Nat), (∀ (l : Bool) (k : Ob), (contents e (AV.ref j' :: r))[i]? = some (Sl.o l k) → i = i0 - n) ∧ (contents e (AV.ref j' :: r))[i]? ≠ some Sl.un := fun {s} he ns nu h => by
      obtain ⟨h1, h2, h3, h4⟩ := ios_one (as := r) h
      refine ⟨by omega, ?_, h3, fun i => ?_⟩
      · have : i0 - n = (i0 - (n + 1)) + 1 := by omega
        rw [this, List.getElem?_cons_succ]; exact h2
      · cases i with
        | zero => exact ⟨fun l k z => (by rw [contents, List.map_cons, List.getElem?_cons_zero, go he] at z; exact absurd (Option.some.inj z) (ns l k)), fun z => by rw [contents, List.map_cons, List.getElem?_cons_zero, go he] at z; exact nu (Option.some.inj z)⟩
        | succ i => exact ⟨fun l k z => by have := (h4 i).1 l k z; omega, (h4 i).2⟩
    split at h
    · rename_i l k he
      split at h
      · rename_i hr
        cases h
        refine ⟨Nat.le_refl _, by rw [Nat.sub_self]; rfl, ⟨l, k, he⟩, fun i => ?_⟩
        cases i with
        | zero => exact ⟨fun _ _ _ => by rw [Nat.sub_self], fun z => by rw [contents, List.map_cons, List.getElem?_cons_zero, go he] at z; cases z⟩
        | succ i => exact ⟨fun l k z => absurd z (ios_none hr i l k).1, (ios_none hr i false (.lst [])).2⟩
      · cases h
    · rename_i x he
      exact step he (fun _ _ z => by cases z) (fun z => by cases z) h
    · rename_i x he
      exact step he (fun _ _ z => by cases z) (fun z => by cases z) h
    · cases h

/-- the object of slot j holds k from now on -/
@[simp] def setK (e : List Sl) (j : Nat) (k : Ob) : List Sl := match e[j]? with
  | some (.o l _) => e.set j (.o l k)
  | _ => e
@[simp] def outK (e : List Sl) (i j : Nat) (outs : List Sl) : Option (List Sl) := match outs[i]? with
  | some (.o _ k) => some (setK e j k)
  | _ => none
@[simp] def backs (e : List Sl) (w : Option (Nat × Nat)) (outs : List Sl) : Option (List Sl) := match w with
  | none => some e
  | some (i, j) => outK e i j outs
def callM (mf : List Sl → CR) (ma : M (List AV)) : M RV := bind ma fun as => fun e => match ios e as 0 with
  | some w => match mf ((contents e as).map argOf) with
    | .ok r outs => match backs e w outs with
      | some e' => .ok r e'
      | none => .bad
    | .ex c outs => match backs e w outs with
      | some e' => .ex c e'
      | none => .bad
    | .bad => .bad
  | none => .bad
@[simp] def rvD : RV → Option D
  | .d x => some x
  | .o k => obD k
@[simp] def rvO : RV → Option Ob
  | .d _ => none
  | .o k => some k
def eCall (mf : List Sl → CR) (ma : M (List AV)) : M D := bind (callM mf ma) fun r => lift (rvD r)
def oCall (mf : List Sl → CR) (ma : M (List AV)) : M Ob := bind (callM mf ma) fun r => lift (rvO r)

section
variable {K : PySem.W.Frag} {ca : CA} {F : Fr} {ow ow' : Addr → Prop} {H H' Hs : Hp} {e : List Sl} {σ : St} {as : List AV} {vs : List V}
theorem SvA.get : ∀ {ss : List Sl} {vs : List V}, SvA K ca ow H ss vs → ss.length = vs.length ∧ ∀ (i : Nat) (s : Sl) (v : V), ss[i]? = some s → vs[i]? = some v → s ≠ .un → SvR K ca ow H s v
  | [], _, h => by
    unfold SvA at h
    subst h
    exact ⟨rfl, fun i s v e => by cases e⟩
  | s :: r, _, h => by
    unfold SvA at h
    obtain ⟨v, us, rfl, h1, t⟩ := h
    obtain ⟨h2, h3⟩ := SvA.get t
    refine ⟨by rw [List.length_cons, List.length_cons, h2], fun i s' v' e1 e2 n => ?_⟩
    cases i with
    | zero => cases e1; cases e2; exact h1 n
    | succ i => exact h3 i s' v' e1 e2 n
theorem AvA.get : ∀ {as : List AV} {vs : List V}, AvA K ca F Hs ow H e σ as vs → as.length = vs.length ∧ ∀ (i : Nat) (a : AV) (v : V), as[i]? = some a → vs[i]? = some v → AvR K ca F ow H e σ a v
  | [], _, h => by
    unfold AvA at h
    subst h
    exact ⟨rfl, fun i s v e => by cases e⟩
  | s :: r, _, h => by
    unfold AvA at h
    obtain ⟨v, us, rfl, h1, _, t⟩ := h
    obtain ⟨h2, h3⟩ := AvA.get t
    refine ⟨by rw [List.length_cons, List.length_cons, h2], fun i s' v' e1 e2 => ?_⟩
    cases i with
    | zero => cases e1; cases e2; exact h1
    | succ i => exact h3 i s' v' e1 e2
theorem argOf_get {ss : List Sl} {i : Nat} {s : Sl} (h : (ss.map argOf)[i]? = some s) : ∃ s0, ss[i]? = some s0 ∧ s = argOf s0 := by
  rw [List.getElem?_map] at h
  obtain ⟨s0, h1, h2⟩ := Option.map_eq_some_iff.mp h
  exact ⟨s0, h1, h2.symm⟩
theorem argsOk (R : Rel K ca F ow e σ H) (p : AvA K ca F Hs ow H e σ as vs) {w : Option (Nat × Nat)} (hi : ios e as 0 = some w) : ArgsOk K ca ow H ((contents e as).map argOf) vs := by
  obtain ⟨l1, s1⟩ := (AvA.sv R p).get
  have nu : ∀ (i : Nat), (contents e as)[i]? ≠ some Sl.un := fun i => by
    cases w with
    | none => exact (ios_none hi i false (.lst [])).2
    | some ij => obtain ⟨i0, j⟩ := ij; exact ((ios_one hi).2.2.2 i).2
  refine ⟨by rw [List.length_map]; exact l1, fun i s v h1 h2 => ?_, fun i k z => ?_, fun i j p k k' h1 h2 h3 h4 => ?_, fun q hq => let ⟨a, _, _, d⟩ := R.tab q hq; ⟨a, d⟩, R.knd⟩
  · obtain ⟨s0, e0, rfl⟩ := argOf_get h1
    have q := s1 i s0 v e0 h2 (fun z => nu i (z ▸ e0))
    cases s0 with
    | un => exact absurd e0 (nu i)
    | d x => exact q
    | o l k => exact q
    | sc ns => exact q
    | xc => exact q.elim
  · obtain ⟨s0, e0, e1⟩ := argOf_get z
    cases s0 <;> cases e1
  · obtain ⟨s0, e0, e1⟩ := argOf_get h1
    obtain ⟨s2, e2, e3⟩ := argOf_get h2
    cases s0 with
    | o l k0 =>
      cases s2 with
      | o l2 k2 =>
        cases w with
        | none => exact absurd e0 (ios_none hi i l k0).1
        | some ij =>
          obtain ⟨i0, j0⟩ := ij
          have h := (ios_one hi).2.2.2
          rw [(h i).1 l k0 e0, (h j).1 l2 k2 e2]
      | _ => cases e3
    | _ => cases e1
theorem ntI {a : Addr} {o : HO} (h : H a = some o) (n : ¬ IsT (H a)) : NT o := fun ps z => n ⟨ps, by rw [h, z]⟩
theorem setK_len {j : Nat} {k : Ob} : (setK e j k).length = e.length := by
  unfold setK
  split
  · rw [List.length_set]
  · rfl
/-- behind a call: the slots -/
theorem Rel.called (R : Rel K ca F ow e σ H) (p : AvA K ca F Hs ow H e σ as vs) {w : Option (Nat × Nat)} (hi : ios e as 0 = some w) (kp : Kept ca H H' ((contents e as).map argOf) vs) {outs e' : List Sl} (hb : backs e w outs = some e')
    (sub : ∀ a, ow a → ow' a) (new : ∀ a, ow' a → ow a ∨ H a = none) (trk : Trk ow' H') (newM : ∀ a, ow' a → ¬ ow a → MutO (H' a)) (oo : OutsOk K ca ow' H' ((contents e as).map argOf) vs outs) :
    Rel K ca F ow' e' σ H' ∧ Go σ ow e H ow' e' H' := by
  have io_ow : ∀ a, IoA ca ((contents e as).map argOf) vs a → ow a := fun a z => by
    rcases z with ⟨i, k, h1, h2⟩ | ⟨q, hq, rfl⟩
    · obtain ⟨q, w1, w2, _⟩ := (argsOk R p hi).sl i _ _ h1 h2
      cases w1; exact w2
    · exact (R.tab q hq).1
  have nT : ∀ {a : Addr}, ¬ IsT (H a) → ¬ ∃ q ∈ ca.tb, q.1 = a := fun {a} n ⟨q, hq, e⟩ => by
    obtain ⟨ps, h⟩ := (R.tab q hq).2.2.2.tbl
    exact n ⟨ps, by rw [← e]; exact h⟩
  have st : Stp ow H ow' H' := fun a o h n nt => ⟨kp.keep a o h (fun z => n (io_ow a z)) nt, fun z => by
    rcases new a z with z | z
    · exact n z
    · rw [z] at h; cases h⟩
  have knd : Knd ca ow' H' := fun a z => by
    by_cases w0 : ow a
    · refine (R.knd a w0).imp id fun m => ?_
      by_cases io : ∃ (i : Nat) (k : Ob), ((contents e as).map argOf)[i]? = some (.o false k) ∧ vs[i]? = some (.ref a)
      · obtain ⟨i, k, h1, h2⟩ := io
        obtain ⟨k', _, ro⟩ := oo.1 i k a h1 h2
        exact ro.mutO
      · obtain ⟨u, hu⟩ := m.there
        rw [hu] at m
        rw [kp.keep a u hu (fun z => z.elim io fun ⟨q, hq, e⟩ => (by obtain ⟨ps, h⟩ := (R.tab q hq).2.2.2.tbl; rw [e, hu] at h; exact m.nt ps (Option.some.inj h))) m.nt]
        exact m
    · exact .inr (newM a z w0)
  cases w with
  | none =>
    have noio : ∀ a, IoA ca ((contents e as).map argOf) vs a → ∃ q ∈ ca.tb, q.1 = a := fun a z => by
      rcases z with ⟨i, k, h1, h2⟩ | z
      · obtain ⟨s0, e0, e1⟩ := argOf_get h1
        cases s0 with
        | o l k0 => exact absurd e0 (ios_none hi i l k0).1
        | _ => cases e1
      · exact z
    have gr : ∀ a o, H a = some o → (¬ ∃ q ∈ ca.tb, q.1 = a) → NT o → H' a = some o := fun a o h n nt => kp.keep a o h (fun z => n (noio a z)) nt
    cases hb
    refine ⟨R.step rfl (fun i s' h => .inl ⟨h, fun l k p hs hp => ?_⟩) st sub trk knd (fun a o h n nt => gr a o (R.keep a o h n nt) (fun ⟨q, hq, e⟩ => n (by rw [← e]; exact (R.tab q hq).2.1)) nt) kp.dom oo.2, st, fun q wq nt n => ?_, kp.dom⟩
    · subst hs
      obtain ⟨q, eq, wq, rq⟩ := R.own h
      rw [hp] at eq
      cases eq
      obtain ⟨u, hu⟩ := rq.there
      rw [gr p u hu (nT rq.noT) (ntI hu rq.noT), hu]
    · obtain ⟨u, hu⟩ := R.trk q wq
      exact ⟨sub q wq, by rw [gr q u hu (nT nt) (ntI hu nt), hu], n⟩
  | some ij =>
    obtain ⟨i0, j⟩ := ij
    obtain ⟨_, h2, ⟨l, k, he⟩, h4⟩ := ios_one hi
    rw [Nat.sub_zero] at h2
    obtain ⟨al, ag⟩ := p.get
    have hlt : i0 < vs.length := by rw [← al]; exact (List.getElem?_eq_some_iff.mp h2).1
    have hv0 : vs[i0]? = some vs[i0] := List.getElem?_eq_getElem hlt
    have hσ : σ[j]? = some (some vs[i0]) := ag i0 (.ref j) _ h2 hv0
    obtain ⟨q, hq, wq, rq⟩ := R.own he
    rw [hσ] at hq
    have hvq : vs[i0] = .ref q := Option.some.inj (Option.some.inj hq)
    rw [hvq] at hσ hv0
    have hc0 : ((contents e as).map argOf)[i0]? = some (.o false k) := by
      rw [List.getElem?_map, contents, List.getElem?_map, h2]
      show some (argOf (clean (e.getD j .un))) = _
      rw [List.getD_eq_getElem?_getD, he]; rfl
    have ioq : ∀ a, IoA ca ((contents e as).map argOf) vs a → a = q ∨ ∃ q ∈ ca.tb, q.1 = a := fun a z => by
      rcases z with ⟨i, k1, e1, e2⟩ | z
      · obtain ⟨s0, e0, e3⟩ := argOf_get e1
        cases s0 with
        | o l1 k0 =>
          have := (h4 i).1 l1 k0 e0
          rw [this, Nat.sub_zero, hv0] at e2
          cases e2; exact .inl rfl
        | _ => cases e3
      · exact .inr z
    have keepq : ∀ a o, H a = some o → a ≠ q → (¬ ∃ q ∈ ca.tb, q.1 = a) → NT o → H' a = some o := fun a o h n nt t => kp.keep a o h (fun z => (ioq a z).elim n nt) t
    have hb' : outK e i0 j outs = some e' := hb
    unfold outK at hb'
    split at hb'
    · rename_i l' k' ho
      cases hb'
      obtain ⟨k2, ho2, ro⟩ := oo.1 i0 k q hc0 hv0
      rw [ho] at ho2
      cases ho2
      have es : setK e j k' = e.set j (.o l k') := by unfold setK; rw [he]
      have hj : j < e.length := (List.getElem?_eq_some_iff.mp he).1
      rw [es]
      refine ⟨R.step (by rw [List.length_set]) (fun i s' h => ?_) st sub trk knd (fun a o h n nt => ?_) kp.dom oo.2, st, fun q' wq' nt n => ?_, kp.dom⟩
      · by_cases ej : j = i
        · subst ej
          rw [List.getElem?_set_self hj] at h
          cases h
          exact .inr ⟨l, k, k', q, he, rfl, hσ, ro⟩
        · rw [List.getElem?_set_ne ej] at h
          refine .inl ⟨h, fun l1 k1 p1 hs hp => ?_⟩
          subst hs
          have np : p1 ≠ q := fun z => ej (R.dis j i q _ _ _ _ he h hσ (z ▸ hp))
          obtain ⟨q1, eq1, wq1, rq1⟩ := R.own h
          rw [hp] at eq1
          cases eq1
          obtain ⟨u, hu⟩ := rq1.there
          rw [keepq p1 u hu np (nT rq1.noT) (ntI hu rq1.noT), hu]
      · have hne : a ≠ q := fun z => by
          subst z
          have qq := R.sl j _ _ he hσ
          cases l with
          | true => obtain ⟨p', e', _, _, c, _⟩ := qq; cases e'; rw [c] at h; cases h
          | false => obtain ⟨p', e', _, _, c, _⟩ := qq; cases e'; exact n c
        exact keepq a o (R.keep a o h n nt) hne (fun ⟨q, hq, e⟩ => n (by rw [← e]; exact (R.tab q hq).2.1)) nt
      · have hne : q' ≠ q := fun z => n ⟨j, l, k, he, by rw [hσ, z]⟩
        obtain ⟨u, hu⟩ := R.trk q' wq'
        refine ⟨sub q' wq', by rw [keepq q' u hu hne (nT nt) (ntI hu nt), hu], fun ⟨i, l1, k1, a1, a2⟩ => ?_⟩
        by_cases ej : j = i
        · subst ej
          rw [hσ] at a2
          cases a2
          exact hne rfl
        · rw [List.getElem?_set_ne ej] at a1
          exact n ⟨i, l1, k1, a1, a2⟩
    · cases hb'
end

/-- what is known of a def of the program: its name, its promise, how deep it calls -/
structure Cal (P : Program) (w : World) (K : PySem.W.Frag) (mg : Str → Option Value) (base : Heap) (ca : CA) (k : Nat) (x : Str) (n : Nat) (mf : List Sl → CR) : Prop where
  ex : ∃ (f : Addr) (fd : FuncData) (ps : List Str), mg x = some (.ref f) ∧ PySem.W.keepIn K (.ref f) = true ∧ Binds K fd ps [] ∧ FnOk P w K mg base (L2.CX P w) k f fd ps (spM K ca n mf)
theorem Cal.mono {P : Program} {w : World} {K : PySem.W.Frag} {mg : Str → Option Value} {base : Heap} {ca : CA} {j k : Nat} {x : Str} {n : Nat} {mf : List Sl → CR} (c : Cal P w K mg base ca j x n mf) (h : j ≤ k) : Cal P w K mg base ca k x n mf := by
  obtain ⟨f, fd, ps, a, b, c, d⟩ := c.ex
  exact ⟨f, fd, ps, a, b, c, d.mono h⟩

def PR (K : PySem.W.Frag) (ca : CA) (F : Fr) : PP RV V := fun r v H0 ow H e σ => match r with
  | .d x => Rp K ow H x v
  | .o k => PO_ K ca F k v H0 ow H e σ
def MC (ca : CA) (X : Cx) (e : Expr) (m : M RV) : Prop := ∀ F W, Tk X F W → PE X e (tG X.K ca F W (PR X.K ca F) m)
section
variable {ca : CA} {X : Cx} {pos : Pos} {e a b c : Expr} {es : List Expr}
theorem go_called {F : Fr} {W : WX} {mf : List Sl → CR} {as : List AV} {e : List Sl} {vs : List V} {ow : Addr → Prop} {H Hs : Hp} {Hs' : Hp} {σ : St} {Q : VK} {n : Nat} (R : Rel X.K ca F ow e σ H) (p : AvA X.K ca F Hs' ow H e σ as vs) (hn : vs.length = n) (d : ∀ x, H x = none → Hs x = none)
    (g : GoG X.K ca F W (PR X.K ca F) Hs ow e H σ Q ((fun e => match ios e as 0 with
      | some w => match mf ((contents e as).map argOf) with
        | .ok r outs => match backs e w outs with
          | some e' => .ok r e'
          | none => .bad
        | .ex c outs => match backs e w outs with
          | some e' => .ex c e'
          | none => .bad
        | .bad => .bad
      | none => .bad : M RV) e)) : spM X.K ca n mf vs H Q (fun cls dx H => W cls dx σ H) := by
  dsimp only at g
  cases hi : ios e as 0 with
  | none => rw [hi] at g; exact g.elim
  | some w =>
    rw [hi] at g
    dsimp only at g
    refine ⟨ow, _, hn, argsOk R p hi, R.trk, ?_⟩
    cases hm : mf ((contents e as).map argOf) with
    | bad => rw [hm] at g; exact g.elim
    | ok r outs =>
      rw [hm] at g
      dsimp only at g
      cases hb : backs e w outs with
      | none => rw [hb] at g; exact g.elim
      | some e' =>
        rw [hb] at g
        cases r with
        | d x =>
          intro v H' kp oo rp
          have tr : Trk ow H' := fun a z => by
            cases hh : H' a with
            | some o => exact ⟨o, rfl⟩
            | none =>
              obtain ⟨u, hu⟩ := R.trk a z
              rw [kp.dom a hh] at hu; cases hu
          obtain ⟨R', g'⟩ := R.called p hi kp hb (fun _ z => z) (fun _ z => .inl z) tr (fun _ z n => absurd z n) oo
          exact g v ow H' g' R' rp
        | o k =>
          intro q H' kp hq hq' oo ro
          have tr : Trk (more ow q) H' := fun a z => by
            rcases z with z | z
            · cases hh : H' a with
              | some o => exact ⟨o, rfl⟩
              | none =>
                obtain ⟨u, hu⟩ := R.trk a z
                rw [kp.dom a hh] at hu; cases hu
            · rw [z]; exact hq'
          obtain ⟨R', g'⟩ := R.called p hi kp hb (fun _ z => .inl z) (fun a z => by
            rcases z with z | z
            · exact .inl z
            · rw [z]; exact .inr hq) tr (fun a z n => by
            rcases z with z | z
            · exact absurd z n
            · rw [z]; exact ro.mutO) oo
          refine g (.ref q) (more ow q) H' g' R' ⟨q, rfl, d q hq, ro, loose_of (.inr rfl) (R.dom q hq) (fun z => R.free hq (R.sub q z)) fun ⟨i, l, k1, a1, a2⟩ => ?_⟩
          have hh : Held e σ q := by
            cases w with
            | none => cases hb; exact ⟨i, l, k1, a1, a2⟩
            | some ij =>
              obtain ⟨i0, j⟩ := ij
              have hb' : outK e i0 j outs = some e' := hb
              unfold outK at hb'
              split at hb'
              · cases hb'
                obtain ⟨l2, k2, he⟩ := (ios_one hi).2.2.1
                unfold setK at a1
                rw [he] at a1
                dsimp only at a1
                by_cases ej : j = i
                · subst ej; exact ⟨j, l2, k2, he, a2⟩
                · rw [List.getElem?_set_ne ej] at a1; exact ⟨i, l, k1, a1, a2⟩
              · cases hb'
          obtain ⟨i, l, k1, a1, a2⟩ := hh
          obtain ⟨q2, eq2, w2, r2⟩ := R.own a1
          rw [a2] at eq2
          cases eq2
          obtain ⟨u, hu⟩ := r2.there
          rw [hq] at hu; cases hu
    | ex c outs =>
      rw [hm] at g
      dsimp only at g
      cases hb : backs e w outs with
      | none => rw [hb] at g; exact g.elim
      | some e' =>
        rw [hb] at g
        intro H' kp oo
        have tr : Trk ow H' := fun a z => by
          cases hh : H' a with
          | some o => exact ⟨o, rfl⟩
          | none =>
            obtain ⟨u, hu⟩ := R.trk a z
            rw [kp.dom a hh] at hu; cases hu
        obtain ⟨R', g'⟩ := R.called p hi kp hb (fun _ z => z) (fun _ z => .inl z) tr (fun _ z n => absurd z n) oo
        exact g ow H' g' R'
theorem mc_call {k n : Nat} {x : Str} {p : Pos} {mf : List Sl → CR} {m : M (List AV)} (c : Cal X.prog X.w X.K X.mg X.base ca k x n mf) (hr : Room k X.A) (ha : MA ca X (e :: es) m) (hn : (e :: es).length = n := by rfl) (hg : Gl X x := by rfl)
    (hdb : (x == ("__debug__" : Str)) = false := by decide) (he : starEach (e :: es) X.env = (false, eval e X.env) :: starEach es X.env := by rfl) (hpl : (backTo pos (starEach es X.env)).any (·.1) = false := by rfl)
    (hlen : ∀ env as e', m env = .ok as e' → as.length = n) : MC ca X (.Call (.Name x p) (e :: es) [] pos) (callM mf m) := fun F W tk => by
  obtain ⟨f, fd, ps, hm, hk, hb, fn⟩ := c.ex
  refine PE.imp (pe_callS fn hr hg hm hk hb (fun σ => passAt tk.t σ) (ha F W tk) hdb he hpl) fun σ H Q ⟨ow, env, R, g⟩ => ?_
  refine ⟨ow, env, R, ?_⟩
  unfold callM bind at g
  cases hm' : m env with
  | ok as e1 =>
    rw [hm'] at g
    rintro vs ow1 H1 g1 R1 p1
    exact go_called R1 p1 (by rw [← (AvA.get p1).1]; exact hlen _ _ _ hm') (fun x h => g1.dom x h) (g.mono g1)
  | ex c e => rw [hm'] at g; exact g
  | bad => rw [hm'] at g; exact g
theorem me_c {m : M RV} (h : MC ca X e m) : ME ca X e (bind m fun r => lift (rvD r)) := fun F W tk => PE.imp (h F W tk) fun σ H Q ⟨ow, env, R, g⟩ => by
  refine ⟨ow, env, R, ?_⟩
  unfold bind at g
  cases hm : m env with
  | ok r e =>
    rw [hm] at g
    rintro v ow1 H1 g1 R1 p1
    cases r with
    | d x => exact g v ow1 H1 g1 R1 p1
    | o k =>
      obtain ⟨p, rfl, n, ro, L⟩ := p1
      cases hk : obD k with
      | none => simp only [lift, rvD, hk] at g; exact g.elim
      | some d =>
        simp only [lift, rvD, hk] at g
        refine g (.ref p) (less ow1 p) H1 ⟨g1.stp.trans stp_less, fun q w nt nh => ?_, g1.dom⟩ (R1.loose L) (L.data ro hk)
        obtain ⟨w1, h1, n1⟩ := g1.lo q w nt nh
        refine ⟨⟨w1, fun z => ?_⟩, h1, n1⟩
        obtain ⟨u, hu⟩ := R.trk q w
        rw [z, n] at hu
        cases hu
  | ex c e => rw [hm] at g; exact g
  | bad => rw [hm] at g; exact g
theorem mo_c {m : M RV} (h : MC ca X e m) : MO ca X e (bind m fun r => lift (rvO r)) := fun F W tk => PE.imp (h F W tk) fun σ H Q ⟨ow, env, R, g⟩ => by
  refine ⟨ow, env, R, ?_⟩
  unfold bind at g
  cases hm : m env with
  | ok r e =>
    rw [hm] at g
    rintro v ow1 H1 g1 R1 p1
    cases r with
    | d x => exact g.elim
    | o k => exact g v ow1 H1 g1 R1 p1
  | ex c e => rw [hm] at g; exact g
  | bad => rw [hm] at g; exact g
end
/-- how many arguments come -/
def Len (m : M (List AV)) (n : Nat) : Prop := ∀ env as e', m env = .ok as e' → as.length = n
theorem len_nil : Len aNil 0 := fun env as e' h => by cases h; rfl
theorem len_d {m : M D} {r : M (List AV)} {n : Nat} (h : Len r n) : Len (aD m r) (n + 1) := fun env as e' q => by
  simp only [aD, bind] at q
  split at q
  · rename_i a e1 h1
    split at q
    · rename_i xs e2 h2
      cases q
      rw [List.length_cons, h _ _ _ h2]
    · cases q
    · cases q
  · cases q
  · cases q
theorem len_r {i : Nat} {r : M (List AV)} {n : Nat} (h : Len r n) : Len (aR i r) (n + 1) := fun env as e' q => by
  simp only [aR, bind] at q
  split at q
  · rename_i a e1 h1
    split at q
    · rename_i xs e2 h2
      cases q
      rw [List.length_cons, h _ _ _ h2]
    · cases q
    · cases q
  · cases q
  · cases q
end ML
end

section
set_option Elab.async false
set_option linter.all false
set_option maxRecDepth 100000
set_option maxHeartbeats 2000000
/-! # Targets, what is walked, loops, comprehensions -/
namespace ML
open PySem L2

/-- a target's function: the slots behind it -/
abbrev GF := D → List Sl → Option (List Sl)
def tGt (K : PySem.W.Frag) (ca : CA) (F : Fr) (js : List Nat) (g : GF) : TG := fun v σ H Q => ∃ ow env d env', Rel K ca F ow env σ H ∧ Rp K ow H d v ∧ g d env = some env' ∧
  ∀ σ', σ'.length = σ.length → (∀ i, i ∉ js → σ'[i]? = σ[i]?) → Rel K ca F ow env' σ' H → (∀ p, Held env' σ' p → Held env σ p) → Q σ' H
def MG (ca : CA) (X : Cx) (tg : Expr) (js : List Nat) (g : GF) : Prop := ∀ F, PG X tg (tGt X.K ca F js g)
def tGs (K : PySem.W.Frag) (ca : CA) (F : Fr) (js : List Nat) (g : List D → List Sl → Option (List Sl)) : TGs := fun vs σ H Q => ∃ ow env ds env', Rel K ca F ow env σ H ∧ RpA K ow H ds vs ∧ g ds env = some env' ∧
  ∀ σ', σ'.length = σ.length → (∀ i, i ∉ js → σ'[i]? = σ[i]?) → Rel K ca F ow env' σ' H → (∀ p, Held env' σ' p → Held env σ p) → Q σ' H
def MGs (ca : CA) (X : Cx) (tg : List Expr) (js : List Nat) (g : List D → List Sl → Option (List Sl)) : Prop := ∀ F, PGs X tg (tGs X.K ca F js g)
theorem PG.imp {X : Cx} {tg : Expr} {t t' : TG} (h : PG X tg t) (k : ∀ v σ H Q, t' v σ H Q → t v σ H Q) : PG X tg t' := ⟨fun pins s σ H v u Q I r q => h.run pins s σ H v u Q I r (k _ _ _ _ q)⟩
theorem PGs.imp {X : Cx} {tg : List Expr} {t t' : TGs} (h : PGs X tg t) (k : ∀ v σ H Q, t' v σ H Q → t v σ H Q) : PGs X tg t' := ⟨fun pins s σ H v u Q I r q => h.run pins s σ H v u Q I r (k _ _ _ _ q)⟩
def gN (i : Nat) : GF := fun d e => some (e.set i (.d d))
@[simp] def gNil : List D → List Sl → Option (List Sl) := fun ds e => match ds with
  | [] => some e
  | _ => none
@[simp] def gCons (g : GF) (r : List D → List Sl → Option (List Sl)) : List D → List Sl → Option (List Sl) := fun ds e => match ds with
  | d :: ds => (g d e).bind (r ds)
  | [] => none
@[simp] def gT (g : List D → List Sl → Option (List Sl)) : GF := fun d e => match d with
  | .tuple ds => g ds e
  | _ => none
theorem held_setD {env : List Sl} {σ : St} {i : Nat} {x : D} {u : Option V} {p : Addr} (h : Held (env.set i (.d x)) (σ.set i u) p) : Held env σ p := by
  obtain ⟨j, l, k, h1, h2⟩ := h
  by_cases e : i = j
  · subst e
    by_cases hl : i < env.length
    · rw [List.getElem?_set_self hl] at h1; cases h1
    · rw [List.getElem?_eq_none (by simpa using hl)] at h1; cases h1
  · rw [List.getElem?_set_ne e] at h1 h2
    exact ⟨j, l, k, h1, h2⟩
section
variable {ca : CA} {X : Cx} {pos : Pos} {e : Expr} {es : List Expr}
theorem mg_name (i : Nat) {x : Str} (hN : X.N.Nodup) (hi : X.N[i]? = some x := by rfl) (hx : Loc X.env.scope x := by first | exact Or.inl rfl | exact Or.inr rfl) (hf : X.fn x = true ∨ X.env.scope.names.lookup x = some .local := by first | exact .inl rfl | exact .inr rfl) : MG ca X (.Name x pos) [i] (gN i) := fun F =>
  PG.imp (pg_name hN hi hx hf) fun v σ H Q ⟨ow, env, d, env', R, rp, hg, q⟩ => by
    cases hg
    exact q _ (by rw [List.length_set]) (fun j hj => List.getElem?_set_ne (fun z => hj (by simp [z]))) (R.set rp) fun p h => held_setD h
theorem mgs_nil : MGs ca X [] [] gNil := fun F => PGs.imp pgs_nil fun vs σ H Q ⟨ow, env, ds, env', R, rp, hg, q⟩ => by
  cases ds with
  | nil =>
    cases hg
    unfold RpA at rp
    exact ⟨rp, q σ rfl (fun _ _ => rfl) R fun _ h => h⟩
  | cons d ds => cases hg
theorem mgs_cons {js ks : List Nat} {g : GF} {r : List D → List Sl → Option (List Sl)} (h : MG ca X e js g) (hr : MGs ca X es ks r) (hs : (assignEach (e :: es) X.env).map (·.2) = assign e X.env :: (assignEach es X.env).map (·.2) := by rfl) : MGs ca X (e :: es) (js ++ ks) (gCons g r) := fun F =>
  PGs.imp (pgs_cons (h F) (hr F) hs) fun vs σ H Q ⟨ow, env, ds, env', R, rp, hg, q⟩ => by
    cases ds with
    | nil => cases hg
    | cons d ds =>
      unfold RpA at rp
      obtain ⟨v, us, rfl, rp1, rp2⟩ := rp
      obtain ⟨e1, h1, h2⟩ := Option.bind_eq_some_iff.mp hg
      refine ⟨v, us, rfl, ow, env, d, e1, R, rp1, h1, fun σ1 l1 f1 R1 k1 => ⟨ow, e1, ds, env', R1, rp2, h2, fun σ2 l2 f2 R2 k2 => ?_⟩⟩
      exact q σ2 (l2.trans l1) (fun i hi => (f2 i fun z => hi (List.mem_append_right _ z)).trans (f1 i fun z => hi (List.mem_append_left _ z))) R2 fun p hp => k1 p (k2 p hp)
theorem gCons_len {n : Nat} {g : GF} {r : List D → List Sl → Option (List Sl)} (hr : ∀ ds e e', r ds e = some e' → ds.length = n) : ∀ ds e e', gCons g r ds e = some e' → ds.length = n + 1 := fun ds e e' h => by
  cases ds with
  | nil => cases h
  | cons d ds =>
    obtain ⟨e1, h1, h2⟩ := Option.bind_eq_some_iff.mp h
    rw [List.length_cons, hr _ _ _ h2]
theorem gNil_len : ∀ ds e e', gNil ds e = some e' → ds.length = 0 := fun ds e e' h => by
  cases ds with
  | nil => rfl
  | cons d ds => cases h
theorem mg_tup {k : Nat} {js : List Nat} {g : List D → List Sl → Option (List Sl)} {n : Nat} (h : MGs ca X es js g) (hl : ∀ ds e e', g ds e = some e' → ds.length = n) (hc : X.calm = true := by rfl)
    (hn : (assignEach es X.env).length = n := by rfl) (hst : (assignEach es X.env).findIdx? (·.1) = none := by rfl) : MG ca X (.Tuple es k pos) js (gT g) := fun F =>
  PG.imp (pg_tup hc (h F) hn hst) fun v σ H Q ⟨ow, env, d, env', R, rp, hg, q⟩ => by
    cases d with
    | tuple ds =>
      unfold Rp at rp
      obtain ⟨a, xs, rfl, ht, ra⟩ := rp
      exact ⟨a, xs, rfl, ht.sq, by rw [← ra.length]; exact hl _ _ _ hg, ow, env, ds, env', R, ra, hg, q⟩
    | _ => cases hg
end

/-- a walk over ds: what it leans on stays, each turn brings the next -/
def Wk (K : PySem.W.Frag) (J : It) (ds : List D) (ow : Addr → Prop) (H : Hp) : Prop :=
  ∃ inv : (Addr → Prop) → Hp → Prop, inv ow H ∧ (∀ ow1 H1 ow2 H2, Stp ow1 H1 ow2 H2 → inv ow1 H1 → inv ow2 H2) ∧
    (∀ i ow H, inv ow H → Trk ow H → i < ds.length → J.go i H ∧ ∀ x H', J.yld i H x H' → Gr H H' ∧ ∀ d, ds[i]? = some d → Rp K ow H' d x) ∧ (∀ i ow H, inv ow H → ds.length ≤ i → J.stop i H)
def tI_ (K : PySem.W.Frag) (ca : CA) (F : Fr) (W : WX) (m : M (List D)) : TI := fun σ H R => ∃ ow env, Rel K ca F ow env σ H ∧ match m env with
  | .ok ds e => ∀ J ow' H', Go σ ow env H ow' e H' → Rel K ca F ow' e σ H' → Wk K J ds ow' H' → R J H'
  | .ex c e => ∀ ow' H', Go σ ow env H ow' e H' → Rel K ca F ow' e σ H' → WSat ca W c σ H'
  | .bad => False
def MI (ca : CA) (X : Cx) (tg iter : Expr) (m : M (List D)) : Prop := ∀ F W, Tk X F W → PI X tg iter (tI_ X.K ca F W m)
theorem PI.imp {X : Cx} {tg iter : Expr} {t t' : TI} (h : PI X tg iter t) (k : ∀ σ H R, t' σ H R → t σ H R) : PI X tg iter t' := ⟨fun pins s σ H R I q => h.run pins s σ H R I (k _ _ _ q)⟩
/-- a value of any kind that is walked -/
def iAny (K : PySem.W.Frag) (te : TE) : TI := fun σ H R => te σ H fun x H1 => (∃ a, x = .ref a ∧ (∃ xs, SqL K H1 a xs) ∧ R (Itl K a) H1) ∨ (∃ a, x = .ref a ∧ (∃ xs, SqT K H1 a xs) ∧ R (Itt K a) H1) ∨ (∃ z, x = .str z ∧ R (Its z) H1)
theorem pi_any {X : Cx} {tg l : Expr} {tl : TE} (hl : PE X l tl) : PI X tg l (iAny X.K tl) := by
  refine ⟨fun pins s σ H R I h => ?_⟩
  refine thn (hl.run pins s σ H _ I h) fun v s1 ⟨x, H1, I1, r1, q1⟩ => ?_
  rcases q1 with ⟨a, e, ⟨xs, hq⟩, q⟩ | ⟨a, e, ⟨xs, hq⟩, q⟩ | ⟨z, e, q⟩
  · subst e
    cases r1
    obtain ⟨its, rv, p, hz⟩ := I1.list hq
    refine PySem.wpAny_pyIter_list p.isList ?_
    refine ⟨s1.heap.objs.size, [s1.heap.objs.size], _, _, H1, rfl, I1.kept (t' := s1.toks) fun b o e => Heap.get?_push_of_some _ e, turn_list a _, ⟨_, Heap.get?_push_size _ rfl, rfl, rfl⟩, fun b hb => ?_, q⟩
    have e : b = s1.heap.objs.size := by simpa using hb
    subst e
    exact I1.fpOk (Nat.le_refl _) (I1.hok.fresh (Nat.le_refl _))
  · subst e
    cases r1
    obtain ⟨its, rv, p, hz⟩ := I1.tuple hq
    refine PySem.wpAny_pyIter_tuple (show s1.heap.IsTuple a its.toArray from p) ?_
    refine ⟨s1.heap.objs.size, [s1.heap.objs.size], _, _, H1, rfl, I1.kept (t' := s1.toks) fun b o e => Heap.get?_push_of_some _ e, turn_tuple a _, ⟨_, Heap.get?_push_size _ rfl, rfl, rfl⟩, fun b hb => ?_, q⟩
    have e : b = s1.heap.objs.size := by simpa using hb
    subst e
    exact I1.fpOk (Nat.le_refl _) (I1.hok.fresh (Nat.le_refl _))
  · have h2 : PIE X pins σ tg R = PIE X pins σ tg R := rfl
    subst e
    obtain ⟨t, rfl⟩ := r1
    cases ha : z.cps.all (· < 128)
    · exact wpAny_pyIter_wide ha (pi_one (tk := s1.toks) I1 _ (turn_str _ z t "str_iterator" (.inr rfl)) ⟨_, Heap.get?_push_size _ rfl, rfl, rfl⟩ q)
    · exact wpAny_pyIter_ascii ha (pi_one (tk := s1.toks) I1 _ (turn_str _ z t "str_ascii_iterator" (.inl rfl)) ⟨_, Heap.get?_push_size _ rfl, rfl, rfl⟩ q)
/-- one sign -/
def sign (c : Nat) : Str := ⟨#[c]⟩
@[simp] def dItems : D → Option (List D)
  | .list xs => some xs
  | .tuple xs => some xs
  | .str z => some (z.cps.toList.map fun c => .str (sign c))
  | _ => none
def iD (m : M D) : M (List D) := bind m fun x => lift (dItems x)
theorem RpA.get {K : PySem.W.Frag} {ow : Addr → Prop} {H : Hp} : ∀ {ds : List D} {xs : List V}, RpA K ow H ds xs → ∀ {i : Nat} {d : D} {x : V}, ds[i]? = some d → xs[i]? = some x → Rp K ow H d x
  | [], _, _, i, d, x, h, _ => by cases h
  | a :: r, _, h, i, d, x, h1, h2 => by
    unfold RpA at h
    obtain ⟨v, us, rfl, r1, t⟩ := h
    cases i with
    | zero => cases h1; cases h2; exact r1
    | succ i => exact RpA.get t (i := i) h1 h2
theorem some_of_lt {α : Type} {xs : List α} {i : Nat} (h : i < xs.length) : ∃ x, xs[i]? = some x := ⟨xs[i], List.getElem?_eq_getElem h⟩
theorem wk_list {K : PySem.W.Frag} {ow : Addr → Prop} {H : Hp} {a : Addr} {xs : List V} {ds : List D} (h : H a = some (.lst xs)) (n : ¬ ow a) (r : RpA K ow H ds xs) : Wk K (Itl K a) ds ow H := by
  refine ⟨fun ow H => H a = some (.lst xs) ∧ ¬ ow a ∧ RpA K ow H ds xs, ⟨h, n, r⟩, fun ow1 H1 ow2 H2 st ⟨h, n, r⟩ => ⟨(st a _ h n nt_lst).1, (st a _ h n nt_lst).2, r.stp st⟩, fun i ow H ⟨h, n, r⟩ tr hi => ?_, fun i ow H ⟨h, n, r⟩ hi => ⟨xs, SqL.of h, by rw [← r.length]; exact hi⟩⟩
  obtain ⟨x, hx⟩ := some_of_lt (xs := xs) (i := i) (by rw [← r.length]; exact hi)
  refine ⟨⟨xs, x, SqL.of h, hx⟩, fun y H' ⟨e, q⟩ => ?_⟩
  subst e
  exact ⟨Gr.refl, fun d hd => r.get hd (q xs (SqL.of h))⟩
theorem wk_tup {K : PySem.W.Frag} {ow : Addr → Prop} {H : Hp} {a : Addr} {xs : List V} {ds ds' : List D} (h : TupAt K ow H ds' a xs) (r : RpA K ow H ds xs) : Wk K (Itt K a) ds ow H := by
  refine ⟨fun ow H => TupAt K ow H ds' a xs ∧ RpA K ow H ds xs, ⟨h, r⟩, fun ow1 H1 ow2 H2 st ⟨h, r⟩ => ⟨h.stp st, r.stp st⟩, fun i ow H ⟨h, r⟩ tr hi => ?_, fun i ow H ⟨h, r⟩ hi => ⟨xs, h.sq, by rw [← r.length]; exact hi⟩⟩
  obtain ⟨x, hx⟩ := some_of_lt (xs := xs) (i := i) (by rw [← r.length]; exact hi)
  refine ⟨⟨xs, x, h.sq, hx⟩, fun y H' ⟨e, q⟩ => ?_⟩
  subst e
  exact ⟨Gr.refl, fun d hd => r.get hd (q xs h.sq)⟩
theorem wk_str {K : PySem.W.Frag} {ow : Addr → Prop} {H : Hp} {z : Str} : Wk K (Its z) (z.cps.toList.map fun c => .str (sign c)) ow H := by
  refine ⟨fun _ _ => True, trivial, fun _ _ _ _ _ _ => trivial, fun i ow H _ tr hi => ?_, fun i ow H _ hi => ?_⟩
  · rw [List.length_map, Array.length_toList] at hi
    refine ⟨hi, fun y H' ⟨e, c, hc, ey⟩ => ?_⟩
    subst e
    refine ⟨Gr.refl, fun d hd => ?_⟩
    rw [List.getElem?_map, Array.getElem?_toList, hc] at hd
    cases hd
    unfold Rp
    exact ey
  · rw [List.length_map, Array.length_toList] at hi
    exact hi
theorem wk_rng {K : PySem.W.Frag} {ow : Addr → Prop} {H : Hp} {lo : Int} {n : Nat} : Wk K (Itr lo n) ((List.range n).map fun (i : Nat) => .int (lo + (i : Nat))) ow H := by
  refine ⟨fun _ _ => True, trivial, fun _ _ _ _ _ _ => trivial, fun i ow H _ tr hi => ?_, fun i ow H _ hi => ?_⟩
  · rw [List.length_map, List.length_range] at hi
    refine ⟨hi, fun y H' ⟨e, ey⟩ => ?_⟩
    subst e
    refine ⟨Gr.refl, fun d hd => ?_⟩
    rw [List.getElem?_map, List.getElem?_range hi] at hd
    cases hd
    unfold Rp
    exact ey
  · rw [List.length_map, List.length_range] at hi
    exact hi
section
variable {ca : CA} {X : Cx} {pos : Pos} {tg e a b : Expr} {es : List Expr}
theorem mi_any {m : M D} (h : ME ca X e m) : MI ca X tg e (iD m) := fun F W tk => PI.imp (pi_any (h F W tk)) fun σ H R ⟨ow, env, rel, g⟩ => by
  refine ⟨ow, env, rel, ?_⟩
  unfold iD bind at g
  cases hm : m env with
  | ok x e =>
    rw [hm] at g
    rintro v ow1 H1 g1 R1 p1
    have p1' : Rp X.K ow1 H1 x v := p1
    cases x with
    | list xs =>
      unfold Rp at p1'
      obtain ⟨a, us, rfl, h1, n, r⟩ := p1'
      exact .inl ⟨a, rfl, ⟨us, SqL.of h1⟩, g _ ow1 H1 g1 R1 (wk_list h1 n r)⟩
    | tuple xs =>
      unfold Rp at p1'
      obtain ⟨a, us, rfl, h1, r⟩ := p1'
      exact .inr (.inl ⟨a, rfl, ⟨us, h1.sq⟩, g _ ow1 H1 g1 R1 (wk_tup h1 r)⟩)
    | str z =>
      unfold Rp at p1'
      exact .inr (.inr ⟨z, p1', g _ ow1 H1 g1 R1 wk_str⟩)
    | _ => exact g.elim
  | ex c e => rw [hm] at g; exact g
  | bad => rw [hm] at g; exact g
@[simp] def rng1 : List AV → Option (List D)
  | [.d (.int j)] => if j.natAbs < 4611686018427387904 then some ((List.range j.toNat).map fun (i : Nat) => .int (0 + (i : Nat))) else none
  | _ => none
@[simp] def rng2 : List AV → Option (List D)
  | [.d (.int i), .d (.int j)] => if i.natAbs < 4611686018427387904 ∧ j.natAbs < 4611686018427387904 then some ((List.range (j - i).toNat).map fun (k : Nat) => .int (i + (k : Nat))) else none
  | _ => none
def iRg (f : List AV → Option (List D)) (m : M (List AV)) : M (List D) := bind m fun as => lift (f as)
theorem mi_range1 {m : M (List AV)} {p : Pos} (ha : MA ca X [a] m) (hm : X.mg "range" = none) (hg : Gl X "range" := by rfl) (hs : starEach [a] X.env = [(false, eval a X.env)] := by rfl) : MI ca X tg (.Call (.Name "range" p) [a] [] pos) (iRg rng1 m) := fun F W tk =>
  PI.imp (pi_range1 hg hm (ha F W tk) hs) fun σ H R ⟨ow, env, rel, g⟩ => by
    refine ⟨ow, env, rel, ?_⟩
    unfold iRg bind at g
    cases hm' : m env with
    | ok as e =>
      rw [hm'] at g
      rintro vs ow1 H1 g1 R1 p1
      have p1' : AvA X.K ca F H ow1 H1 e σ as vs := p1
      cases hr : rng1 as with
      | none => simp only [lift, hr] at g
      | some ds =>
        simp only [lift, hr] at g
        unfold rng1 at hr
        split at hr
        · obtain ⟨hj, rfl⟩ := ite_some hr
          unfold AvA at p1'
          obtain ⟨v, us, rfl, r, _, t⟩ := p1'
          unfold AvA at t
          subst t
          have r' : Rp X.K ow1 H1 (.int _) v := r
          unfold Rp at r'
          exact ⟨_, by rw [r'], by omega, by omega, g _ ow1 H1 g1 R1 wk_rng⟩
        · cases hr
    | ex c e => rw [hm'] at g; exact g
    | bad => rw [hm'] at g; exact g
theorem mi_range2 {m : M (List AV)} {p : Pos} (ha : MA ca X [a, b] m) (hm : X.mg "range" = none) (hg : Gl X "range" := by rfl) (hs : starEach [a, b] X.env = [(false, eval a X.env), (false, eval b X.env)] := by rfl) (hs2 : starEach [b] X.env = [(false, eval b X.env)] := by rfl) : MI ca X tg (.Call (.Name "range" p) [a, b] [] pos) (iRg rng2 m) := fun F W tk =>
  PI.imp (pi_range2 hg hm (ha F W tk) hs hs2) fun σ H R ⟨ow, env, rel, g⟩ => by
    refine ⟨ow, env, rel, ?_⟩
    unfold iRg bind at g
    cases hm' : m env with
    | ok as e =>
      rw [hm'] at g
      rintro vs ow1 H1 g1 R1 p1
      have p1' : AvA X.K ca F H ow1 H1 e σ as vs := p1
      cases hr : rng2 as with
      | none => simp only [lift, hr] at g
      | some ds =>
        simp only [lift, hr] at g
        unfold rng2 at hr
        split at hr
        · obtain ⟨hj, rfl⟩ := ite_some hr
          unfold AvA at p1'
          obtain ⟨v, us, rfl, r, _, t⟩ := p1'
          unfold AvA at t
          obtain ⟨v2, us2, rfl, r2, _, t2⟩ := t
          unfold AvA at t2
          subst t2
          have r' : Rp X.K ow1 H1 (.int _) v := r
          have r2' : Rp X.K ow1 H1 (.int _) v2 := r2
          unfold Rp at r' r2'
          exact ⟨_, _, by rw [r', r2'], ⟨by omega, by omega, by omega, by omega⟩, g _ ow1 H1 g1 R1 wk_rng⟩
        · cases hr
    | ex c e => rw [hm'] at g; exact g
    | bad => rw [hm'] at g; exact g

/-! ### for, while -/
def forL (g : GF) (mb : MStm) : List D → MStm
  | [], e => .nx e
  | d :: r, e => match g d e with
    | none => .bad
    | some e1 => match mb e1 with
      | .nx e2 => forL g mb r e2
      | .ct e2 => forL g mb r e2
      | .bk e2 => .nx e2
      | x => x
def sFor (mi : M (List D)) (g : GF) (mb : MStm) : MStm := xS mi fun ds => forL g mb ds
theorem ms_for {body : List Stmt} {mi : M (List D)} {js : List Nat} {g : GF} {mb : MStm} (hi : MI ca X tg e mi) (hg : MG ca X tg js g) (hb : MSs ca X body mb) (hc : X.calm = true := by rfl) (hs : ∀ x, foldedSetIterable e X.env x = pure x := by intro _; rfl) :
    MS ca X (.For tg e body [] pos) (sFor mi g mb) := fun F W tk hp => PS.imp (ps_for hp hc (hi F W tk) (hg F) (hb F W tk hp) hs) fun Dn σ H ⟨ow, env, R, gg⟩ => by
  refine ⟨ow, env, R, ?_⟩
  unfold sFor xS at gg
  cases hm : mi env with
  | ok ds e1 =>
    rw [hm] at gg
    rintro J ow1 H1 g1 R1 ⟨inv, i0, ist, igo, istop⟩
    have gg1 := gg.mono g1.stp
    refine ⟨fun i m σ H => m = ds.length - i ∧ i ≤ ds.length ∧ ∃ ow env, Rel X.K ca F ow env σ H ∧ inv ow H ∧ GoS X.K ca F W ow H Dn (forL g mb (ds.drop i) env), ⟨_, rfl, Nat.zero_le _, ow1, e1, R1, i0, gg1⟩, ?_⟩
    rintro i m σ2 H2 ⟨rfl, hi2, ow2, env2, R2, in2, g2⟩
    by_cases hlt : i < ds.length
    · obtain ⟨d, hd⟩ := some_of_lt hlt
      have ed : ds.drop i = d :: ds.drop (i + 1) := by
        rw [List.drop_eq_getElem_cons hlt]
        have := List.getElem?_eq_getElem hlt
        rw [this] at hd
        cases hd; rfl
      rw [ed] at g2
      obtain ⟨jg, jy⟩ := igo i ow2 H2 in2 R2.trk hlt
      refine .inr ⟨jg, fun σ' H' => ∃ ow env, Rel X.K ca F ow env σ' H' ∧ inv ow H' ∧ GoS X.K ca F W ow H' Dn (forL g mb (ds.drop (i + 1)) env), fun σ' H' ⟨ow, env, a, b, c⟩ => ⟨_, by omega, rfl, hlt, ow, env, a, b, c⟩, fun x H' y => ?_⟩
      obtain ⟨gr, rp⟩ := jy x H' y
      have R3 := R2.gr gr
      have g3 := g2.mono gr.stp
      unfold forL at g3
      cases hg1 : g d env2 with
      | none => rw [hg1] at g3; exact g3.elim
      | some e3 =>
        rw [hg1] at g3
        refine ⟨ow2, env2, d, e3, R3, rp d hd, hg1, fun σ4 _ _ R4 _ => ⟨ow2, e3, R4, ?_⟩⟩
        cases hb : mb e3 with
        | nx e4 => simp only [hb] at g3; exact fun σ5 ow5 H5 s5 R5 => ⟨ow5, e4, R5, ist _ _ _ _ (gr.stp.trans s5) in2, g3.mono s5⟩
        | ct e4 => simp only [hb] at g3; exact fun σ5 ow5 H5 s5 R5 => ⟨ow5, e4, R5, ist _ _ _ _ (gr.stp.trans s5) in2, g3.mono s5⟩
        | bk e4 => simp only [hb] at g3; exact g3
        | rt r e4 => simp only [hb] at g3; cases r <;> exact g3
        | ex c e4 => simp only [hb] at g3; exact g3
        | bad => simp only [hb] at g3; exact g3
    · have ei : i = ds.length := by omega
      subst ei
      rw [List.drop_length] at g2
      exact .inl ⟨istop _ ow2 H2 in2 (Nat.le_refl _), g2 σ2 ow2 H2 Stp.refl R2⟩
  | ex c e1 => rw [hm] at gg; exact fun ow' H' s' R' => gg σ ow' H' s'.stp R'
  | bad => rw [hm] at gg; exact gg
def whileL (t : M Bool) (mb : MStm) : Nat → MStm
  | 0, _ => .bad
  | n + 1, e => match t e with
    | .ok true e1 => match mb e1 with
      | .nx e2 => whileL t mb n e2
      | .ct e2 => whileL t mb n e2
      | .bk e2 => .nx e2
      | x => x
    | .ok false e1 => .nx e1
    | .ex c e1 => .ex c e1
    | .bad => .bad
def sWhile (n : Nat) (t : M Bool) (mb : MStm) : MStm := whileL t mb n
theorem ms_while (n : Nat) {c : Expr} {body : List Stmt} {t : M Bool} {mb : MStm} (hc : MT ca X c t) (hb : MSs ca X body mb) : MS ca X (.While c body [] pos) (sWhile n t mb) := fun F W tk hp => PS.imp (ps_while hp (hc F W tk) (hb F W tk hp)) fun Dn σ H ⟨ow, env, R, gg⟩ => by
  refine ⟨fun m σ H => ∃ ow env, Rel X.K ca F ow env σ H ∧ GoS X.K ca F W ow H Dn (whileL t mb m env), ⟨n, ow, env, R, gg⟩, ?_⟩
  rintro m σ1 H1 ⟨ow1, env1, R1, g1⟩
  cases m with
  | zero => exact g1.elim
  | succ m =>
    unfold whileL at g1
    refine ⟨ow1, env1, R1, ?_⟩
    cases ht : t env1 with
    | ok b e2 =>
      rw [ht] at g1
      rintro b' ow2 H2 g2 R2 eb
      have eb' : b' = b := eb
      subst eb'
      cases b' with
      | true =>
        rw [if_pos rfl]
        dsimp only at g1
        have g3 := g1.mono g2.stp
        refine ⟨fun σ' H' => ∃ ow env, Rel X.K ca F ow env σ' H' ∧ GoS X.K ca F W ow H' Dn (whileL t mb m env), fun σ' H' ⟨ow, env, a, c⟩ => ⟨m, Nat.lt_succ_self m, ow, env, a, c⟩, ow2, e2, R2, ?_⟩
        cases hb : mb e2 with
        | nx e4 => simp only [hb] at g3; exact fun σ5 ow5 H5 s5 R5 => ⟨ow5, e4, R5, g3.mono s5⟩
        | ct e4 => simp only [hb] at g3; exact fun σ5 ow5 H5 s5 R5 => ⟨ow5, e4, R5, g3.mono s5⟩
        | bk e4 => simp only [hb] at g3; exact g3
        | rt r e4 => simp only [hb] at g3; cases r <;> exact g3
        | ex c e4 => simp only [hb] at g3; exact g3
        | bad => simp only [hb] at g3; exact g3
      | false =>
        rw [if_neg Bool.false_ne_true]
        exact (g1.mono g2.stp) σ1 ow2 H2 Stp.refl R2
    | ex c e2 => rw [ht] at g1; exact fun ow' H' s' R' => g1 σ1 ow' H' s'.stp R'
    | bad => rw [ht] at g1; exact g1
end
end ML
end

section
set_option Elab.async false
set_option linter.all false
set_option maxRecDepth 100000
set_option maxHeartbeats 2000000
/-! # List comprehensions -/
namespace ML
open PySem L2

/-- the slots of a block's own names forgotten -/
@[simp] def wipeE (e : List Sl) : List Nat → List Sl
  | [] => e
  | v :: vs => (wipeE e vs).set v .un
/-- .. and as they stood, where they held data -/
@[simp] def dataAt (e0 : List Sl) (v : Nat) : Sl := match e0[v]? with
  | some (.d x) => .d x
  | _ => .un
@[simp] def restE (e0 e : List Sl) : List Nat → List Sl
  | [] => e
  | v :: vs => (restE e0 e vs).set v (dataAt e0 v)
def restS (σ σ1 : St) : List Nat → St
  | [] => σ1
  | v :: vs => (restS σ σ1 vs).set v (σ.getD v none)
section
variable {K : PySem.W.Frag} {ca : CA} {F : Fr} {ow ow' ow0 : Addr → Prop} {H H' H0 : Hp} {e env env0 : List Sl} {σ σ1 : St}
theorem Rel.wipe (R : Rel K ca F ow e σ H) : ∀ vs : List Nat, Rel K ca F ow (wipeE e vs) (L2.wipe σ vs) H
  | [] => R
  | _ :: vs => (R.wipe vs).drop
theorem held_un {i : Nat} {u : Option V} {p : Addr} (h : Held (e.set i .un) (σ.set i u) p) : Held e σ p := by
  obtain ⟨j, l, k, h1, h2⟩ := h
  by_cases ej : i = j
  · subst ej
    by_cases hl : i < e.length
    · rw [List.getElem?_set_self hl] at h1; cases h1
    · rw [List.getElem?_eq_none (by simpa using hl)] at h1; cases h1
  · rw [List.getElem?_set_ne ej] at h1 h2
    exact ⟨j, l, k, h1, h2⟩
theorem held_wipe {p : Addr} : ∀ {vs : List Nat}, Held (wipeE e vs) (L2.wipe σ vs) p → Held e σ p
  | [], h => h
  | _ :: vs, h => held_wipe (vs := vs) (held_un h)
theorem Rel.rest (R : Rel K ca F ow e σ1 H) (d : ∀ (v : Nat) (x : D), env0[v]? = some (Sl.d x) → ∃ u, σ[v]? = some (some u) ∧ Rp K ow H x u) : ∀ vs : List Nat, Rel K ca F ow (restE env0 e vs) (restS σ σ1 vs) H
  | [] => R
  | v :: vs => by
    have R1 := Rel.rest R d vs
    show Rel K ca F ow ((restE env0 e vs).set v (dataAt env0 v)) ((restS σ σ1 vs).set v (σ.getD v none)) H
    unfold dataAt
    split
    · rename_i x he
      obtain ⟨u, hu, r⟩ := d v x he
      rw [List.getD_eq_getElem?_getD, hu]
      exact R1.set r
    · exact R1.drop
theorem held_rest {p : Addr} : ∀ {vs : List Nat}, Held (restE env0 e vs) (restS σ σ1 vs) p → Held e σ1 p
  | [], h => h
  | v :: vs, h => by
    have h' : Held ((restE env0 e vs).set v (dataAt env0 v)) ((restS σ σ1 vs).set v (σ.getD v none)) p := h
    unfold dataAt at h'
    split at h'
    · exact held_rest (vs := vs) (held_setD h')
    · exact held_rest (vs := vs) (held_un h')
theorem restS_wipe : ∀ (vs ws : List Nat), (∀ v ∈ ws, v ∈ vs) → ∀ i, (restS σ (L2.wipe σ vs) ws)[i]? = if i ∈ ws ∨ i ∉ vs then σ[i]? else (L2.wipe σ vs)[i]? := by
  intro vs ws hsub
  induction ws with
  | nil =>
    intro i
    show (L2.wipe σ vs)[i]? = _
    by_cases h : i ∉ vs
    · rw [if_pos (.inr h)]
      have : ∀ us : List Nat, i ∉ us → (L2.wipe σ us)[i]? = σ[i]? := by
        intro us
        induction us with
        | nil => intro _; rfl
        | cons u us ih =>
          intro hn
          show ((L2.wipe σ us).set u none)[i]? = _
          rw [List.getElem?_set_ne (fun z => hn (by simp [z]))]
          exact ih fun z => hn (List.mem_cons_of_mem _ z)
      exact this vs h
    · rw [if_neg (by simp only [List.not_mem_nil, false_or]; exact h)]
  | cons w ws ih =>
    intro i
    show ((restS σ (L2.wipe σ vs) ws).set w (σ.getD w none))[i]? = _
    have lenw : ∀ us : List Nat, (restS σ (L2.wipe σ vs) us).length = σ.length := by
      intro us
      induction us with
      | nil => exact wipe_length σ vs
      | cons u us ih => show ((restS σ (L2.wipe σ vs) us).set u _).length = _; rw [List.length_set]; exact ih
    by_cases hw : w = i
    · subst hw
      rw [if_pos (.inl List.mem_cons_self)]
      by_cases hl : w < σ.length
      · rw [List.getElem?_set_self (by rw [lenw]; exact hl), List.getD_eq_getElem?_getD, List.getElem?_eq_getElem hl]; rfl
      · rw [List.getElem?_eq_none (by rw [List.length_set, lenw]; omega), List.getElem?_eq_none (by omega)]
    · rw [List.getElem?_set_ne hw, ih (fun v hv => hsub v (List.mem_cons_of_mem _ hv)) i]
      by_cases h1 : i ∈ ws ∨ i ∉ vs
      · rw [if_pos h1, if_pos (h1.elim (fun z => .inl (List.mem_cons_of_mem _ z)) .inr)]
      · rw [if_neg h1, if_neg (fun z => h1 (z.elim (fun z => .inl ((List.mem_cons.mp z).resolve_left (fun z => hw z.symm))) .inr))]
theorem restS_all (vs : List Nat) : restS σ (L2.wipe σ vs) vs = σ := by
  apply List.ext_getElem?
  intro i
  rw [restS_wipe vs vs (fun _ h => h) i]
  by_cases h : i ∈ vs
  · rw [if_pos (.inl h)]
  · rw [if_pos (.inr h)]
/-- a loose object holds something else -/
theorem Rel.mutL (R : Rel K ca F ow e σ H) {p : Addr} {o : HO} (L : Loose F ow e σ p) (mu : MutO (some o) := by first | exact .inl ⟨_, rfl⟩ | exact .inr (.inl ⟨_, rfl⟩) | exact .inr (.inr ⟨_, _, _, rfl⟩)) : Rel K ca F ow e σ (upd H p o) := by
  have st : Stp ow H ow (upd H p o) := stp_mut L.1
  refine R.step rfl (fun i s' h => .inl ⟨h, fun l k q hs hq => ?_⟩) st (fun _ h => h) (fun a z => ?_) (fun a z => ?_) (fun a u ha n t => ?_) (fun a ha => ?_) (fun q hq => ?_)
  · subst hs
    exact upd_ne fun z => L.2.2.2 i l k h (by rw [hq, z])
  · by_cases ea : a = p
    · rw [ea]; exact ⟨o, upd_same⟩
    · rw [upd_ne ea]; exact R.trk a z
  · by_cases ea : a = p
    · rw [ea]; exact .inr (by rw [upd_same]; exact mu)
    · rw [upd_ne ea]; exact R.knd a z
  · rw [upd_ne (fun z => by rw [z, L.2.1] at ha; cases ha)]
    exact R.keep a u ha n t
  · by_cases ea : a = p
    · rw [ea, upd_same] at ha; cases ha
    · rw [upd_ne ea] at ha; exact ha
  · obtain ⟨_, _, c, d⟩ := R.tab q hq
    exact d.stp st (upd_ne fun z => by obtain ⟨u, hu⟩ := c; rw [z, L.2.1] at hu; cases hu)
end

/-! ### slots that nobody reads any more -/
@[simp] def fgS (vs : List Nat) : SR → SR
  | .nx e => .nx (wipeE e vs)
  | .bk e => .bk (wipeE e vs)
  | .ct e => .ct (wipeE e vs)
  | .rt r e => .rt r e
  | .ex c e => .ex c e
  | .bad => .bad
def sFg (vs : List Nat) (m : MStm) : MStm := fun e => fgS vs (m e)
theorem Rel.forget {K : PySem.W.Frag} {ca : CA} {F : Fr} {ow : Addr → Prop} {H : Hp} {e : List Sl} {σ : St} (R : Rel K ca F ow e σ H) : ∀ vs : List Nat, Rel K ca F ow (wipeE e vs) σ H
  | [] => R
  | v :: vs => by
    have R2 := (Rel.forget R vs).drop (i := v) (v := σ.getD v none)
    have es : σ.set v (σ.getD v none) = σ := by
      apply List.ext_getElem?
      intro j
      by_cases ej : v = j
      · subst ej
        by_cases hl : v < σ.length
        · rw [List.getElem?_set_self hl, List.getD_eq_getElem?_getD, List.getElem?_eq_getElem hl]; rfl
        · rw [List.getElem?_eq_none (by rw [List.length_set]; omega), List.getElem?_eq_none (by omega)]
      · rw [List.getElem?_set_ne ej]
    rw [es] at R2
    exact R2
theorem mss_fg (vs : List Nat) {ca : CA} {X : Cx} {st : List Stmt} {m : MStm} (h : MSs ca X st m) : MSs ca X st (sFg vs m) := fun F W tk hp => PSs.imp (h F W tk hp) fun Dn σ H ⟨ow, env, R, g⟩ => by
  refine ⟨ow, env, R, ?_⟩
  unfold sFg at g
  cases hm : m env with
  | nx e => rw [hm] at g; exact fun σ' ow' H' s' R' => g σ' ow' H' s' (R'.forget vs)
  | bk e => rw [hm] at g; exact fun σ' ow' H' s' R' => g σ' ow' H' s' (R'.forget vs)
  | ct e => rw [hm] at g; exact fun σ' ow' H' s' R' => g σ' ow' H' s' (R'.forget vs)
  | rt r e => rw [hm] at g; cases r <;> exact g
  | ex c e => rw [hm] at g; exact g
  | bad => rw [hm] at g; exact g
def tTs (K : PySem.W.Frag) (ca : CA) (F : Fr) (W : WX) (m : M Bool) : TT := tG K ca F W PB m
def MTs (ca : CA) (X : Cx) (es : List Expr) (m : M Bool) : Prop := ∀ F W, Tk X F W → PTs X es (tTs X.K ca F W m)
theorem PTs.imp {X : Cx} {es : List Expr} {t t' : TT} (h : PTs X es t) (k : ∀ σ H Q, t' σ H Q → t σ H Q) : PTs X es t' := ⟨fun pins s σ H Q I q => h.run pins s σ H Q I (k _ _ _ q)⟩
section
variable {ca : CA} {X : Cx} {pos : Pos} {tg e a b c : Expr} {es : List Expr}
theorem mts_nil : MTs ca X [] (ret true) := fun F W tk => PTs.imp pts_nil fun σ H Q ⟨ow, env, R, g⟩ => g true ow H Go.refl R rfl
theorem mts_one {m : M Bool} (h : MT ca X e m) : MTs ca X [e] m := fun F W tk => pts_one (h F W tk)

/-- the turns of a comprehension -/
def compL (g : GF) (tt : M Bool) (te : M D) (vs : List Nat) : List D → List D → List Sl → R (List D)
  | [], done, e => .ok done e
  | d :: r, done, e => match g d e with
    | none => .bad
    | some e1 => match tt e1 with
      | .ok true e2 => match te e2 with
        | .ok y e3 => if done.length < LIM then compL g tt te vs r (done ++ [y]) (wipeE e3 vs) else .bad
        | _ => .bad
      | .ok false e2 => compL g tt te vs r done (wipeE e2 vs)
      | _ => .bad
def oComp (mi : M (List D)) (g : GF) (tt : M Bool) (te : M D) (vs : List Nat) : M Ob := bind mi fun ds => fun env => match compL g tt te vs ds [] (wipeE env vs) with
  | .ok xs e => .ok (.lst xs) (restE env e vs)
  | _ => .bad
theorem RpA.snoc {K : PySem.W.Frag} {ow : Addr → Prop} {H : Hp} {y : D} {v : V} (r : Rp K ow H y v) : ∀ {xs : List D} {us : List V}, RpA K ow H xs us → RpA K ow H (xs ++ [y]) (us ++ [v])
  | [], _, h => by
    unfold RpA at h
    subst h
    show RpA K ow H [y] [v]
    unfold RpA
    exact ⟨v, [], rfl, r, by unfold RpA; rfl⟩
  | x :: xs, _, h => by
    unfold RpA at h
    obtain ⟨u, us, rfl, h1, h2⟩ := h
    show RpA K ow H (x :: (xs ++ [y])) (u :: (us ++ [v]))
    unfold RpA
    exact ⟨u, us ++ [v], rfl, h1, RpA.snoc r h2⟩
theorem lc_ok {K : PySem.W.Frag} {F : Fr} {W : WX} {F' : Fr} {mi : M (List D)} {js vs : List Nat} {g : GF} {tt : M Bool} {te : M D} (hjs : ∀ j ∈ js, j ∈ vs) {σ : St} {H : Hp} {Q : VK} (h : tO K ca F W (oComp mi g tt te vs) σ H Q) :
    tLc (tI_ K ca F W mi) (tGt K ca F js g) (tTs K ca F (fun _ _ _ _ => False) tt) (tE K ca F (fun _ _ _ _ => False) te) vs σ H Q := by
  obtain ⟨ow, env, R, gg⟩ := h
  refine ⟨ow, env, R, ?_⟩
  unfold oComp bind at gg
  cases hm : mi env with
  | ok ds e1 =>
    rw [hm] at gg
    obtain ⟨rz, hrz⟩ : ∃ rz, compL g tt te vs ds [] (wipeE e1 vs) = rz := ⟨_, rfl⟩
    dsimp only at gg
    rw [hrz] at gg
    rintro J ow1 H1 g1 R1 ⟨inv, i0, ist, igo, istop⟩ Dl hD
    obtain ⟨R2, Lf⟩ := R1.more (o := .lst []) hD
    have hw : ∀ σ2 : St, σ2.length = (L2.wipe σ vs).length → (∀ i, i ∉ js → σ2[i]? = (L2.wipe σ vs)[i]?) → L2.wipe σ2 vs = L2.wipe σ vs := fun σ2 hl hf => by
      apply List.ext_getElem?
      intro i
      have key : ∀ (τ : St) (us : List Nat) (i : Nat), (L2.wipe τ us)[i]? = if i ∈ us then (if i < τ.length then some none else none) else τ[i]? := by
        intro τ us
        induction us with
        | nil => intro i; simp [L2.wipe]
        | cons u us ih =>
          intro i
          show ((L2.wipe τ us).set u none)[i]? = _
          by_cases hu : u = i
          · subst hu
            rw [if_pos List.mem_cons_self]
            by_cases hlt : u < τ.length
            · rw [if_pos hlt, List.getElem?_set_self (by rw [wipe_length]; exact hlt)]
            · rw [if_neg hlt, List.getElem?_eq_none (by rw [List.length_set, wipe_length]; omega)]
          · rw [List.getElem?_set_ne hu, ih i]
            by_cases hi : i ∈ us
            · rw [if_pos hi, if_pos (List.mem_cons_of_mem _ hi)]
            · rw [if_neg hi, if_neg (fun z => hi ((List.mem_cons.mp z).resolve_left fun z => hu z.symm))]
      rw [wipe_length] at hl
      rw [key, key, hl]
      by_cases hi : i ∈ vs
      · rw [if_pos hi, if_pos hi]
      · rw [if_neg hi, if_neg hi, hf i (fun z => hi (hjs i z)), key, if_neg hi]
    -- the end
    have fin : ∀ {ow2 : Addr → Prop} {H2 : Hp} {e2 : List Sl} {xs : List D} {acc : List V}, Rel K ca F ow2 e2 (L2.wipe σ vs) H2 → Stp ow1 H1 ow2 H2 → (∀ p, ow1 p → ¬ IsT (H1 p) → ¬ Held e1 σ p → ow2 p ∧ H2 p = H1 p ∧ ¬ Held e2 (L2.wipe σ vs) p) → (∀ a, H2 a = none → H1 a = none) →
        H2 Dl = some (.lst acc) → RpA K ow2 H2 xs acc → Loose F ow2 e2 (L2.wipe σ vs) Dl → (∀ b ow' H', Go σ ow env H ow' (restE e1 e2 vs) H' → Rel K ca F ow' (restE e1 e2 vs) σ H' → PO_ K ca F (.lst xs) b H ow' H' (restE e1 e2 vs) σ → Q b H') → Q (.ref Dl) H2 := fun {ow2 H2 e2 xs acc} R3 st lo dom hacc ra L3 k => by
      have R4 := Rel.rest (env0 := e1) (σ := σ) R3 (fun v x hv => by
        obtain ⟨u, hu, r⟩ := R1.data hv
        exact ⟨u, hu, r.stp st⟩) vs
      rw [restS_all] at R4
      have hr : ∀ {p : Addr}, Held (restE e1 e2 vs) σ p → Held e2 (L2.wipe σ vs) p := fun {p} hp => held_rest (env0 := e1) (σ := σ) (vs := vs) (by rw [restS_all]; exact hp)
      refine k (.ref Dl) ow2 H2 (g1.trans ⟨st, fun p w nt n => ?_, dom⟩) R4 ⟨Dl, rfl, g1.dom _ hD, ⟨acc, hacc, ra⟩, loose_of L3.1 L3.2.1 L3.2.2.1 fun z => L3.held (hr z)⟩
      obtain ⟨a, b, c⟩ := lo p w nt n
      exact ⟨a, b, fun z => c (hr z)⟩
    refine ⟨fun i m Hx => m = ds.length - i ∧ i ≤ ds.length ∧ ∃ ow2 e2 done acc, Rel K ca F ow2 e2 (L2.wipe σ vs) Hx ∧ inv ow2 Hx ∧ Stp ow1 H1 ow2 Hx ∧ (∀ p, ow1 p → ¬ IsT (H1 p) → ¬ Held e1 σ p → ow2 p ∧ Hx p = H1 p ∧ ¬ Held e2 (L2.wipe σ vs) p) ∧ (∀ a, Hx a = none → H1 a = none) ∧
      Hx Dl = some (.lst acc) ∧ RpA K ow2 Hx done acc ∧ Loose F ow2 e2 (L2.wipe σ vs) Dl ∧ compL g tt te vs (ds.drop i) done e2 = rz, ⟨_, rfl, Nat.zero_le _, more ow1 Dl, wipeE e1 vs, [], [], R2.wipe vs, ist _ _ _ _ (stp_more hD) i0, stp_more hD, fun p w nt n => ?_, fun a ha => ?_, upd_same, by unfold RpA; rfl, loose_of Lf.1 Lf.2.1 Lf.2.2.1 fun z => Lf.held (held_wipe z), hrz⟩, ?_⟩
    · refine ⟨.inl w, ?_, fun z => n (held_wipe z)⟩
      obtain ⟨u, hu⟩ := R1.trk p w
      exact upd_ne fun z => by rw [z, hD] at hu; cases hu
    · by_cases z : a = Dl
      · rw [z]; exact hD
      · rw [upd_ne z] at ha; exact ha
    rintro i m Hx ⟨rfl, hi2, ow2, e2, done, acc, R3, in3, st, lo, dom, hacc, ra, L3, ec⟩
    by_cases hlt : i < ds.length
    · obtain ⟨d, hd⟩ := some_of_lt hlt
      have ed : ds.drop i = d :: ds.drop (i + 1) := by
        rw [List.drop_eq_getElem_cons hlt]
        have := List.getElem?_eq_getElem hlt
        rw [this] at hd
        cases hd; rfl
      rw [ed] at ec
      obtain ⟨jg, jy⟩ := igo i ow2 Hx in3 R3.trk hlt
      refine .inr ⟨jg, fun Hx => ∃ ow2 e2 done acc, Rel K ca F ow2 e2 (L2.wipe σ vs) Hx ∧ inv ow2 Hx ∧ Stp ow1 H1 ow2 Hx ∧ (∀ p, ow1 p → ¬ IsT (H1 p) → ¬ Held e1 σ p → ow2 p ∧ Hx p = H1 p ∧ ¬ Held e2 (L2.wipe σ vs) p) ∧ (∀ a, Hx a = none → H1 a = none) ∧
        Hx Dl = some (.lst acc) ∧ RpA K ow2 Hx done acc ∧ Loose F ow2 e2 (L2.wipe σ vs) Dl ∧ compL g tt te vs (ds.drop (i + 1)) done e2 = rz, fun H' ⟨ow2, e2, done, acc, r⟩ => ⟨_, by omega, rfl, hlt, ow2, e2, done, acc, r⟩, fun x H' y => ?_⟩
      obtain ⟨gr, rp⟩ := jy x H' y
      have R4 := R3.gr gr
      have gogr := Go.gr R3 gr
      -- what is asked would be bad otherwise
      unfold compL at ec
      have nb : ∀ {r : ML.R (List D)}, r = rz → r ≠ .bad := fun {r} er z => by
        rw [← er, z] at gg
        exact gg
      cases hg1 : g d e2 with
      | none => rw [hg1] at ec; exact absurd rfl (nb ec)
      | some e3 =>
        rw [hg1] at ec
        refine ⟨ow2, e2, d, e3, R4, rp d hd, hg1, fun σ4 hl4 hf4 R5 k5 => ⟨hw σ4 hl4 hf4, ow2, e3, R5, ?_⟩⟩
        dsimp only at ec
        cases ht : tt e3 with
        | ok b e4 =>
          rw [ht] at ec
          rintro b' ow5 H5 g5 R6 eb
          have eb' : b' = b := eb
          subst eb'
          have st5 : Stp ow1 H1 ow5 H5 := (st.trans gr.stp).trans g5.stp
          have wp : L2.wipe σ4 vs = L2.wipe σ vs := hw σ4 hl4 hf4
          have lo5 : ∀ p, ow1 p → ¬ IsT (H1 p) → ¬ Held e1 σ p → ow5 p ∧ H5 p = H1 p ∧ ¬ Held e4 σ4 p := fun p w nt n => by
            obtain ⟨a, b, c⟩ := lo p w nt n
            obtain ⟨a2, b2, c2⟩ := gogr.lo p a (by rw [b]; exact nt) c
            obtain ⟨a3, b3, c3⟩ := g5.lo p a2 (by rw [b2, b]; exact nt) fun z => c2 (k5 p z)
            exact ⟨a3, b3.trans (b2.trans b), c3⟩
          have dom5 : ∀ a, H5 a = none → H1 a = none := fun a ha => dom a (gogr.dom a (g5.dom a ha))
          have LD : Loose F ow5 e4 σ4 Dl ∧ H5 Dl = some (.lst acc) := by
            obtain ⟨l1, q1⟩ := L3.go gogr (noT_lst hacc)
            have l2 : Loose F ow2 e3 σ4 Dl := loose_of l1.1 l1.2.1 l1.2.2.1 fun z => l1.held (k5 Dl z)
            obtain ⟨l3, q3⟩ := l2.go g5 (noT_lst (by rw [q1]; exact hacc))
            exact ⟨l3, by rw [q3, q1, hacc]⟩
          have in5 : inv ow5 H5 := ist _ _ _ _ (gr.stp.trans g5.stp) in3
          have ra5 : RpA K ow5 H5 done acc := ra.stp (gr.stp.trans g5.stp)
          cases b' with
          | true =>
            rw [if_pos rfl]
            dsimp only at ec
            refine ⟨ow5, e4, R6, ?_⟩
            cases hte : te e4 with
            | ok y e5 =>
              rw [hte] at ec
              rintro v ow6 H6 g6 R7 r7
              obtain ⟨l6, q6⟩ := LD.1.go g6 (noT_lst LD.2)
              have hc : done.length < LIM := by
                by_cases z : done.length < LIM
                · exact z
                · simp only [if_neg z] at ec; exact absurd rfl (nb ec)
              simp only [if_pos hc] at ec
              have h6 : H6 Dl = some (.lst acc) := by rw [q6]; exact LD.2
              have ra6 : RpA K ow6 H6 done acc := ra5.stp g6.stp
              have sm : Stp ow6 H6 ow6 (upd H6 Dl (.lst (acc ++ [v]))) := stp_mut l6.1
              have R8 := (R7.mutL (o := .lst (acc ++ [v])) l6).wipe vs
              rw [wp] at R8
              refine ⟨acc, h6, lim_lt (by rw [← ra6.length]; exact hc), ow6, wipeE e5 vs, done ++ [y], acc ++ [v], R8, ist _ _ _ _ (g6.stp.trans sm) in5, (st5.trans g6.stp).trans sm, fun p w nt n => ?_, fun a ha => ?_, upd_same, (RpA.snoc r7 ra6).stp sm, ?_, ec⟩
              · obtain ⟨a, b, c⟩ := lo5 p w nt n
                obtain ⟨a2, b2, c2⟩ := g6.lo p a (by rw [b]; exact nt) c
                refine ⟨a2, ?_, fun z => c2 (by rw [← wp] at z; exact held_wipe z)⟩
                obtain ⟨u, hu⟩ := R1.trk p w
                rw [upd_ne (fun z => by rw [z, hD] at hu; cases hu)]
                exact b2.trans b
              · by_cases z : a = Dl
                · rw [z]; exact hD
                · rw [upd_ne z] at ha; exact dom5 a (g6.dom a ha)
              · exact loose_of l6.1 l6.2.1 l6.2.2.1 fun z => l6.held (by rw [← wp] at z; exact held_wipe z)
            | ex c e5 => rw [hte] at ec; exact absurd rfl (nb ec)
            | bad => rw [hte] at ec; exact absurd rfl (nb ec)
          | false =>
            rw [if_neg Bool.false_ne_true]
            dsimp only at ec
            have R8 := R6.wipe vs
            rw [wp] at R8
            refine ⟨ow5, wipeE e4 vs, done, acc, R8, in5, st5, fun p w nt n => ?_, dom5, LD.2, ra5, ?_, ec⟩
            · obtain ⟨a, b, c⟩ := lo5 p w nt n
              exact ⟨a, b, fun z => c (by rw [← wp] at z; exact held_wipe z)⟩
            · exact loose_of LD.1.1 LD.1.2.1 LD.1.2.2.1 fun z => LD.1.held (by rw [← wp] at z; exact held_wipe z)
        | ex c e4 => rw [ht] at ec; exact absurd rfl (nb ec)
        | bad => rw [ht] at ec; exact absurd rfl (nb ec)
    · have ei : i = ds.length := by omega
      subst ei
      rw [List.drop_length] at ec
      unfold compL at ec
      refine .inl ⟨istop _ ow2 Hx in3 (Nat.le_refl _), fin R3 st lo dom hacc ra L3 ?_⟩
      rw [← ec] at gg
      exact gg
  | ex c e1 => rw [hm] at gg; exact gg
  | bad => rw [hm] at gg; exact gg
theorem mo_lc {scope : Scope} {own : List (Str × Nat)} {iter elt : Expr} {ifs : List Expr} {mi : M (List D)} {js : List Nat} {g : GF} {tt : M Bool} {te : M D} (hN : X.N.Nodup) (hi : MI ca X tg iter mi) (ok : BlkOk X.N X.env.scope scope own)
    (hg : ∀ (s : Shared) (H : Hp) (C : Addr) (cl : List (Str × Addr)) (fp : List Addr), MG ca (X.blk s H scope (compEnvC scope cl C X.env) fp) tg js g)
    (ht : ∀ (s : Shared) (H : Hp) (C : Addr) (cl : List (Str × Addr)) (fp : List Addr), MTs ca (X.blk s H scope (compEnvC scope cl C X.env) fp) ifs tt)
    (he : ∀ (s : Shared) (H : Hp) (C : Addr) (cl : List (Str × Addr)) (fp : List Addr), ME ca (X.blk s H scope (compEnvC scope cl C X.env) fp) elt te)
    (hjs : ∀ j ∈ js, j ∈ own.map (·.2) := by decide) (hc : X.calm = true := by rfl) (hs : ∀ x, foldedSetIterable iter X.env x = pure x := by intro _; rfl) :
    MO ca X (.ListComp elt [⟨tg, iter, ifs, 0⟩] scope pos) (oComp mi g tt te (own.map (·.2))) := fun F W tk =>
  PE.imp (pe_lc hc hN (hi F W tk) ok (fun s H C cl fp => hg s H C cl fp F) (fun s H C cl fp => ht s H C cl fp F _ ⟨takes0, tk.h⟩) (fun s H C cl fp => he s H C cl fp F _ ⟨takes0, tk.h⟩) hs) fun σ H Q h => lc_ok (F' := F) hjs h
end
end ML
end

section
set_option Elab.async false
set_option linter.all false
set_option maxRecDepth 100000
set_option maxHeartbeats 2000000
/-! # Stores, methods of lists, several targets, errors raised and caught -/
namespace ML
open PySem L2
section
variable {ca : CA} {X : Cx} {pos : Pos} {tg e a b c : Expr} {es : List Expr}
/-! ### y = [.. for ..] -/
theorem ms_setLc (i : Nat) {y : Str} {py spos : Pos} {scope : Scope} {own : List (Str × Nat)} {iter elt : Expr} {ifs : List Expr} {mi : M (List D)} {js : List Nat} {g : GF} {tt : M Bool} {te : M D} (hN : X.N.Nodup) (hi : MI ca X tg iter mi) (ok : BlkOk X.N X.env.scope scope own)
    (hg : ∀ (s : Shared) (H : Hp) (C : Addr) (cl : List (Str × Addr)) (fp : List Addr), MG ca (X.blk s H scope (compEnvC scope cl C X.env) fp) tg js g)
    (ht : ∀ (s : Shared) (H : Hp) (C : Addr) (cl : List (Str × Addr)) (fp : List Addr), MTs ca (X.blk s H scope (compEnvC scope cl C X.env) fp) ifs tt)
    (he : ∀ (s : Shared) (H : Hp) (C : Addr) (cl : List (Str × Addr)) (fp : List Addr), ME ca (X.blk s H scope (compEnvC scope cl C X.env) fp) elt te)
    (hy : X.N[i]? = some y := by rfl) (hyl : X.env.scope.names.lookup y = some .local := by rfl) (hsw : swapsWith (.ListComp elt [⟨tg, iter, ifs, 0⟩] scope pos) (some (.Name y py)) spos.line X.env = pure true := by exact sw_true rfl rfl rfl (by decide +kernel))
    (hjs : ∀ j ∈ js, j ∈ own.map (·.2) := by decide) (hc : X.calm = true := by rfl) (hs : ∀ x, foldedSetIterable iter X.env x = pure x := by intro _; rfl) :
    MS ca X (.Assign [.Name y py] (.ListComp elt [⟨tg, iter, ifs, 0⟩] scope pos) spos) (sSetO i (oComp mi g tt te (own.map (·.2)))) := fun F W tk hp =>
  PS.imp (ps_setLc (i := i) hc hN hy hyl hsw (hi F W tk) ok (fun s H C cl fp => hg s H C cl fp F) (fun s H C cl fp => ht s H C cl fp F _ ⟨takes0, tk.h⟩) (fun s H C cl fp => he s H C cl fp F _ ⟨takes0, tk.h⟩) hs) fun Dn σ H ⟨ow, env, R, gg⟩ => by
    refine lc_ok (F' := F) (g := g) (tt := tt) (te := te) hjs ?_
    exact go_stm R gg fun x e1 v ow1 H1 g1 R1 ⟨p, ev, n, r, L⟩ q1 => by
      rw [ev]
      exact q1 (σ.set i (some (.ref p))) ow1 H1 Stp.refl (R1.setO L r)
/-! ### methods of an own list -/
/-- slot i holds an own list -/
def okL (i : Nat) : M Unit := fun e => match e[i]? with
  | some (.o _ (.lst _)) => .ok () e
  | _ => .bad
theorem okL_go {K : PySem.W.Frag} {F : Fr} {W : WX} {β γ : Type} {P : PP γ β} {Hs H : Hp} {ow : Addr → Prop} {env : List Sl} {σ : St} {Q : β → Hp → Prop} {i : Nat} {f : Unit → M γ} (R : Rel K ca F ow env σ H) (g : GoG K ca F W P Hs ow env H σ Q (bind (okL i) f env)) :
    ∃ p l xs, env[i]? = some (.o l (.lst xs)) ∧ σ[i]? = some (some (.ref p)) ∧ OwnR K ca ow H p (.lst xs) ∧ GoG K ca F W P Hs ow env H σ Q (f () env) := by
  unfold bind okL at g
  split at g
  · rename_i a e' hh
    split at hh
    · rename_i l xs he
      cases hh
      obtain ⟨p, hp, w, r⟩ := R.own he
      exact ⟨p, l, xs, he, hp, r, g⟩
    · cases hh
  · rename_i c e' hh
    split at hh <;> cases hh
  · exact g.elim
/-- the list of slot i: what comes of it and what it holds then -/
def mutL (i : Nat) (f : List D → Option (D × List D)) : M D := fun e => match e[i]? with
  | some (.o l (.lst xs)) => match f xs with
    | some (z, ys) => .ok z (e.set i (.o l (.lst ys)))
    | none => .bad
  | _ => .bad
def eMt (i : Nat) (f : List D → List Sl → Option (D × List D)) (m : M (List AV)) : M D := bind (okL i) fun _ => bind m fun as => fun e => mutL i (fun xs => f xs (contents e as)) e
def MtS (K : PySem.W.Frag) (ca : CA) (r : V → List V → Hp → VK → Prop) (f : List D → List Sl → Option (D × List D)) : Prop :=
  ∀ xs ss z ys ow H p vs us Q, f xs ss = some (z, ys) → H p = some (.lst vs) → ow p → RpA K ow H xs vs → SvA K ca ow H ss us → (∀ v vs', Rp K ow H z v → RpA K ow H ys vs' → Q v (upd H p (.lst vs'))) → r (.ref p) us H Q
theorem mutL_go {K : PySem.W.Frag} {F : Fr} {W : WX} {Hs H : Hp} {ow : Addr → Prop} {env : List Sl} {σ : St} {Q : VK} {i : Nat} {f : List D → Option (D × List D)} {p : Addr} (R : Rel K ca F ow env σ H) (hp : σ[i]? = some (some (.ref p)))
    (g : GoG K ca F W (PD K) Hs ow env H σ Q (mutL i f env)) : ∃ xs z ys vs, f xs = some (z, ys) ∧ H p = some (.lst vs) ∧ ow p ∧ RpA K ow H xs vs ∧ ∀ v vs', Rp K ow H z v → RpA K ow H ys vs' → Q v (upd H p (.lst vs')) := by
  unfold mutL at g
  split at g
  · rename_i l xs he
    split at g
    · rename_i z ys hf
      obtain ⟨q, hq, w, vs, h1, h2⟩ := R.own he
      rw [hp] at hq
      cases hq
      refine ⟨xs, z, ys, vs, hf, h1, w, h2, fun v vs' rv ra => ?_⟩
      have st : Stp ow H ow (upd H p (.lst vs')) := stp_mut w
      have R' := R.mut (o := .lst vs') (k' := .lst ys) he hp ⟨vs', upd_same, ra.stp st⟩
      refine g v ow _ ⟨st, fun q wq _ nq => ⟨wq, upd_ne fun z => nq ⟨i, l, _, he, by rw [hp, z]⟩, fun ⟨j, l1, k1, a1, a2⟩ => ?_⟩, fun x hx => ?_⟩ R' (rv.stp st)
      · by_cases ej : i = j
        · subst ej
          exact nq ⟨i, l, _, he, a2⟩
        · rw [List.getElem?_set_ne ej] at a1
          exact nq ⟨j, l1, k1, a1, a2⟩
      · by_cases z : x = p
        · rw [z, upd_same] at hx; cases hx
        · rw [upd_ne z] at hx; exact hx
    · exact g.elim
  · exact g.elim
theorem me_mt (i : Nat) {x name : Str} {p apos : Pos} {id : String} {r : V → List V → Hp → VK → Prop} {f : List D → List Sl → Option (D × List D)} {m : M (List AV)} (slot : Slot "list" name id) (hty : typeOf (.builtin id) = pure (.type "method_descriptor")) (hm : MtR X id r) (hs : MtS X.K ca r f) (ha : MA ca X (e :: es) m)
    (hN : X.N[i]? = some x := by rfl) (hv : Vis X.env.scope x := by first | exact Or.inl rfl | exact Or.inr (Or.inl rfl) | exact Or.inr (Or.inr rfl)) (hd : (x == ("__debug__" : Str)) = false := by decide) (hcd : (x == ("__classdict__" : Str)) = false := by decide)
    (hbase : attributeBase (.Name x p) name X.env (eval (.Name x p) X.env) = eval (.Name x p) X.env := by rfl)
    (hfew : ((backTo pos (starEach (e :: es) X.env)).all (fun x => !x.1) && (backToKw pos (keywordEach [] X.env)).all (fun x => x.1.isSome) && decide ((e :: es).length + ([] : List Keyword).length + (if ([] : List Keyword).isEmpty then 0 else 1) < 30)) = true := by rfl)
    (hline : (apos.endLine == pos.line) = true := by rfl) (hst : starEach (e :: es) X.env = (false, eval e X.env) :: starEach es X.env := by rfl) (hplain : (backTo pos (starEach es X.env)).any (·.1) = false := by rfl) :
    ME ca X (.Call (.Attribute (.Name x p) name apos) (e :: es) [] pos) (eMt i f m) := fun F W tk =>
  PE.imp (pe_bm PySem.F.plainAttrs_list slot hty hm (pe_var hN hv hd hcd) (ha F W tk) hbase hfew hline hst hplain) fun σ H Q ⟨ow, env, R, g⟩ => by
    obtain ⟨q, l, xs, he, hp, ⟨vs, h1, h2⟩, g⟩ := okL_go R g
    refine ⟨.ref q, hp, .inl ⟨rfl, _, SqL.of h1⟩, go_bind R g fun as e1 us ow1 H1 g1 R1 p1 q1 => ?_⟩
    obtain ⟨xs', z, ys, vs', hf, h1', w', h2', k⟩ := mutL_go R1 hp q1
    exact hs xs' _ z ys ow1 H1 q vs' us Q hf h1' w' h2' (AvA.sv R1 p1) k
theorem me_mt0 (i : Nat) {x name : Str} {p apos : Pos} {id : String} {r : V → List V → Hp → VK → Prop} {f : List D → List Sl → Option (D × List D)} (slot : Slot "list" name id) (hty : typeOf (.builtin id) = pure (.type "method_descriptor")) (hm : MtR X id r) (hs : MtS X.K ca r f)
    (hN : X.N[i]? = some x := by rfl) (hv : Vis X.env.scope x := by first | exact Or.inl rfl | exact Or.inr (Or.inl rfl) | exact Or.inr (Or.inr rfl)) (hd : (x == ("__debug__" : Str)) = false := by decide) (hcd : (x == ("__classdict__" : Str)) = false := by decide)
    (hbase : attributeBase (.Name x p) name X.env (eval (.Name x p) X.env) = eval (.Name x p) X.env := by rfl) (hline : (apos.endLine == pos.line) = true := by rfl) :
    ME ca X (.Call (.Attribute (.Name x p) name apos) [] [] pos) (eMt i f aNil) := fun F W tk =>
  PE.imp (pe_bm0 PySem.F.plainAttrs_list slot hty hm (pe_var hN hv hd hcd) hbase hline) fun σ H Q ⟨ow, env, R, g⟩ => by
    obtain ⟨q, l, xs, he, hp, ⟨vs, h1, h2⟩, g⟩ := okL_go R g
    refine ⟨.ref q, hp, .inl ⟨rfl, _, SqL.of h1⟩, ?_⟩
    have g' : GoG X.K ca F W (PD X.K) H ow env H σ Q (mutL i (fun xs => f xs []) env) := g
    obtain ⟨xs', z, ys, vs', hf, h1', w', h2', k⟩ := mutL_go R hp g'
    exact hs xs' _ z ys ow H q vs' [] Q hf h1' w' h2' (by unfold SvA; rfl) k
@[simp] def fApp : List D → List Sl → Option (D × List D) := fun xs ss => match ss with
  | [.d y] => if xs.length < LIM then some (.none, xs ++ [y]) else none
  | _ => none
theorem mts_app {K : PySem.W.Frag} : MtS K ca rAppend fApp := fun xs ss z ys ow H p vs us Q hf h1 w h2 h3 k => by
  unfold fApp at hf
  split at hf
  · obtain ⟨hl, e⟩ := ite_some hf
    cases e
    unfold SvA at h3
    obtain ⟨v, us', rfl, hv, t⟩ := h3
    unfold SvA at t
    subst t
    exact ⟨p, vs, v, rfl, rfl, h1, lim_lt (by rw [← h2.length]; exact hl), k .non _ (by unfold Rp; rfl) (RpA.snoc (hv (by simp)) h2)⟩
  · cases hf
theorem RpA.append {K : PySem.W.Frag} {ow : Addr → Prop} {H : Hp} : ∀ {xs ys : List D} {us vs : List V}, RpA K ow H xs us → RpA K ow H ys vs → RpA K ow H (xs ++ ys) (us ++ vs)
  | [], _, _, _, h, h2 => by
    unfold RpA at h
    subst h
    exact h2
  | x :: xs, _, _, _, h, h2 => by
    unfold RpA at h
    obtain ⟨u, us, rfl, h1, h3⟩ := h
    show RpA K ow H (x :: (xs ++ _)) (u :: (us ++ _))
    unfold RpA
    exact ⟨u, _, rfl, h1, RpA.append h3 h2⟩
/-- the items of a list -/
@[simp] def slL : Sl → Option (List D)
  | .d (.list xs) => some xs
  | .o _ (.lst xs) => some xs
  | _ => none
theorem slL_ok {K : PySem.W.Frag} {ow : Addr → Prop} {H : Hp} {s : Sl} {v : V} {xs : List D} (h : slL s = some xs) (r : s ≠ .un → SvR K ca ow H s v) : ∃ a us, v = .ref a ∧ H a = some (.lst us) ∧ RpA K ow H xs us := by
  unfold slL at h
  split at h
  · cases h
    have r' : Rp K ow H (.list xs) v := r (by simp)
    unfold Rp at r'
    obtain ⟨a, us, e, h1, _, h2⟩ := r'
    exact ⟨a, us, e, h1, h2⟩
  · cases h
    obtain ⟨p, e, w, us, h1, h2⟩ := r (by simp)
    exact ⟨p, us, e, h1, h2⟩
  · cases h
def fExt : List D → List Sl → Option (D × List D) := fun xs ss => match ss with
  | [s] => (slL s).bind fun ys => if xs.length + ys.length ≤ LIM then some (.none, xs ++ ys) else none
  | _ => none
theorem mts_ext {K : PySem.W.Frag} : MtS K ca rExtend fExt := fun xs ss z ys ow H p vs us Q hf h1 w h2 h3 k => by
  unfold fExt at hf
  split at hf
  · rename_i s
    obtain ⟨ys', ey, hf⟩ := Option.bind_eq_some_iff.mp hf
    obtain ⟨hl, e⟩ := ite_some hf
    cases e
    unfold SvA at h3
    obtain ⟨v, us', rfl, hv, t⟩ := h3
    unfold SvA at t
    subst t
    obtain ⟨b, zs, rfl, h4, h5⟩ := slL_ok ey hv
    exact ⟨p, b, vs, zs, rfl, rfl, h1, h4, lim_line (by rw [← h2.length, ← h5.length]; exact hl), k .non _ (by unfold Rp; rfl) (RpA.append h2 h5)⟩
  · cases hf
@[simp] def fPop : List D → List Sl → Option (D × List D) := fun xs ss => match ss with
  | [] => xs.getLast?.map fun y => (y, xs.dropLast)
  | _ => none
theorem RpA.dropLast {K : PySem.W.Frag} {ow : Addr → Prop} {H : Hp} : ∀ {xs : List D} {us : List V}, RpA K ow H xs us → RpA K ow H xs.dropLast us.dropLast
  | [], _, h => by
    unfold RpA at h
    subst h
    show RpA K ow H [] []
    unfold RpA; rfl
  | [x], _, h => by
    unfold RpA at h
    obtain ⟨u, us, rfl, h1, h2⟩ := h
    unfold RpA at h2
    subst h2
    show RpA K ow H [] []
    unfold RpA; rfl
  | x :: y :: r, _, h => by
    unfold RpA at h
    obtain ⟨u, us, rfl, h1, h2⟩ := h
    have h2' := h2
    unfold RpA at h2
    obtain ⟨u2, us2, rfl, h3, h4⟩ := h2
    show RpA K ow H (x :: (y :: r).dropLast) (u :: (u2 :: us2).dropLast)
    unfold RpA
    exact ⟨u, _, rfl, h1, RpA.dropLast h2'⟩
theorem RpA.last {K : PySem.W.Frag} {ow : Addr → Prop} {H : Hp} {xs : List D} {us : List V} {y : D} (h : RpA K ow H xs us) (e : xs.getLast? = some y) : ∃ v, us[us.length - 1]? = some v ∧ Rp K ow H y v := by
  rw [List.getLast?_eq_getElem?] at e
  have hl : xs.length - 1 < xs.length := (List.getElem?_eq_some_iff.mp e).1
  obtain ⟨v, hv⟩ := some_of_lt (xs := us) (i := us.length - 1) (by rw [← h.length]; exact hl)
  refine ⟨v, hv, h.get (i := xs.length - 1) e (by rw [h.length]; exact hv)⟩
theorem mts_pop {K : PySem.W.Frag} : MtS K ca rPop fPop := fun xs ss z ys ow H p vs us Q hf h1 w h2 h3 k => by
  unfold fPop at hf
  split at hf
  · obtain ⟨y, ey, e⟩ := Option.map_eq_some_iff.mp hf
    cases e
    unfold SvA at h3
    subst h3
    obtain ⟨v, hv, rv⟩ := h2.last ey
    exact ⟨p, vs, v, rfl, rfl, h1, hv, k v _ rv h2.dropLast⟩
  · cases hf
/-! ### xs[i] = e -/
def sSetIx (i : Nat) (me mi : M D) : MStm := xS me fun v => xS (okL i) fun _ => xS mi fun ix => fun e => match ix, e[i]? with
  | .int j, some (.o l (.lst xs)) => match ixN xs.length j with
    | some n => .nx (e.set i (.o l (.lst (xs.set n v))))
    | none => .bad
  | _, _ => .bad
theorem RpA.set {K : PySem.W.Frag} {ow : Addr → Prop} {H : Hp} {y : D} {v : V} (r : Rp K ow H y v) : ∀ {xs : List D} {us : List V} (n : Nat), RpA K ow H xs us → RpA K ow H (xs.set n y) (us.set n v)
  | [], _, n, h => by
    unfold RpA at h
    subst h
    cases n <;> (show RpA K ow H [] []; unfold RpA; rfl)
  | x :: xs, _, n, h => by
    unfold RpA at h
    obtain ⟨u, us, rfl, h1, h2⟩ := h
    cases n with
    | zero =>
      show RpA K ow H (y :: xs) (v :: us)
      unfold RpA
      exact ⟨v, us, rfl, r, h2⟩
    | succ n =>
      show RpA K ow H (x :: xs.set n y) (u :: us.set n v)
      unfold RpA
      exact ⟨u, _, rfl, h1, RpA.set r n h2⟩
theorem ms_setIx (i : Nat) {x : Str} {p sp : Pos} {ix : Expr} {me mi : M D} (he : ME ca X e me) (hi : ME ca X ix mi) (hN : X.N[i]? = some x := by rfl) (hv : Vis X.env.scope x := by first | exact Or.inl rfl | exact Or.inr (Or.inl rfl) | exact Or.inr (Or.inr rfl)) (hd : (x == ("__debug__" : Str)) = false := by decide) (hcd : (x == ("__classdict__" : Str)) = false := by decide)
    (hss : swapsWithSole [.Subscript (.Name x p) ix sp] e pos.line X.env = pure false := by rfl) (hw : swappedStores [.Subscript (.Name x p) ix sp] e X.env = pure none := by rfl) (h1 : (assignEach [.Subscript (.Name x p) ix sp] X.env).map (·.2) = [assign (.Subscript (.Name x p) ix sp) X.env] := by rfl)
    (hsub : ∀ v, assign (.Subscript (.Name x p) ix sp) X.env v = (do
      let ov ← holding [v] (eval (.Name x p) X.env)
      let iv ← holding [v, ov] (eval ix X.env)
      standAt sp
      holding [v, ov, iv] (setItem ov iv v)
      release [v, ov, iv] []) := by intro _; rfl) : MS ca X (.Assign [.Subscript (.Name x p) ix sp] e pos) (sSetIx i me mi) := fun F W tk hp =>
  PS.imp (ps_asg (he F W tk) (pg_sub (pe_var hN hv hd hcd) (hi F W tk) set_list hsub) hss hw h1) fun Dn σ H ⟨ow, env, R, g⟩ => by
    refine go_stm R g fun y e1 v ow1 H1 g1 R1 p1 q1 => ?_
    unfold xS at q1
    cases hk : okL i e1 with
    | ok u e2 =>
      rw [hk] at q1
      unfold okL at hk
      split at hk
      · rename_i l xs hl
        cases hk
        obtain ⟨q, hq, w, vs, h1, h2⟩ := R1.own hl
        refine ⟨.ref q, hq, go_stm R1 q1 fun iz e3 v3 ow3 H3 g3 R3 p3 q3 => ?_⟩
        cases iz with
        | int j =>
          split at q3
          · rename_i j' l' xs' ej he3
            cases ej
            split at q3
            · rename_i n hn
              obtain ⟨q', hq', w', vs', h1', h2'⟩ := R3.own he3
              rw [hq] at hq'
              cases hq'
              have p3' : Rp X.K ow3 H3 (.int j) v3 := p3
              unfold Rp at p3'
              have st : Stp ow3 H3 ow3 (upd H3 q (.lst (vs'.set n v))) := stp_mut w'
              refine ⟨q, vs', j, n, rfl, p3', h1', by rw [← h2'.length]; exact hn, ?_⟩
              refine q3 σ ow3 _ st (R3.mut he3 hq ⟨_, upd_same, (RpA.set (Rp.stp g3.stp _ _ p1) n h2').stp st⟩)
            · exact q3.elim
          · exact q3.elim
        | _ => exact q3.elim
      · cases hk
    | ex c e2 => unfold okL at hk; split at hk <;> cases hk
    | bad => rw [hk] at q1; exact q1.elim
/-! ### x op= e -/
def sAug (i : Nat) (g : Sl → Sl → Option D) (m : M D) : MStm := fun e => match e[i]? with
  | some (.d x) => xS m (fun y e2 => match g (.d x) (.d y) with
    | some z => .nx (e2.set i (.d z))
    | none => .bad) e
  | _ => .bad
theorem ms_aug (i : Nat) {x : Str} {p : Pos} {op : Operator} {r : R2} {g : Sl → Sl → Option D} {m : M D} (ho : OpR X (inplaceOp op) r) (hs : OpS X.K ca r g) (he : ME ca X e m) (hN : X.N.Nodup) (hi : X.N[i]? = some x := by rfl) (hx : Loc X.env.scope x := by first | exact Or.inl rfl | exact Or.inr rfl) (hf : X.fn x = true ∨ X.env.scope.names.lookup x = some .local := by first | exact .inl rfl | exact .inr rfl) :
    MS ca X (.AugAssign (.Name x p) op e pos) (sAug i g m) := fun F W tk hp => PS.imp (ps_aug (i := i) (ti := r) hN hi hx (he F W tk) (fun pins s σ H x y v u Q I rx ry q => ho pins s σ H x y v u Q I rx ry q) hf) fun Dn σ H ⟨ow, env, R, gg⟩ => by
  unfold sAug at gg
  split at gg
  · rename_i x hx0
    obtain ⟨v, hv, rv⟩ := R.data hx0
    refine ⟨v, hv, go_stm R gg fun y e1 u ow1 H1 g1 R1 p1 q1 => ?_⟩
    split at q1
    · rename_i z hz
      exact hs _ _ z ow1 H1 v u _ hz (fun _ => rv.stp g1.stp) (fun _ => p1) R1.trk fun w H' gr rw => q1 _ ow1 H' gr.stp ((R1.gr gr).set rw)
    · exact q1.elim
  · exact gg.elim
/-! ### a, b = x, y -/
@[simp] def avSl : AV → Option Sl
  | .d x => some (.d x)
  | .fr k => some (.o true k)
  | .ref _ => none
def sPar (i j : Nat) (m : M (List AV)) : MStm := xS m fun as => fun e => match as with
  | [a, b] => match avSl a, avSl b with
    | some s, some t => .nx ((e.set i s).set j t)
    | _, _ => .bad
  | _ => .bad
theorem Rel.setAv {K : PySem.W.Frag} {F : Fr} {ow : Addr → Prop} {H : Hp} {env : List Sl} {σ : St} {a : AV} {s : Sl} {v : V} {i : Nat} (R : Rel K ca F ow env σ H) (h : AvR K ca F ow H env σ a v) (e : avSl a = some s) : Rel K ca F ow (env.set i s) (σ.set i (some v)) H := by
  cases a with
  | d x => cases e; exact R.set h
  | fr k => cases e; obtain ⟨p, rfl, r, L⟩ := h; exact R.setO L r
  | ref j => cases e
theorem ms_par (i j : Nat) {x y : Str} {px py pt : Pos} {kt k2 : Nat} {pt2 : Pos} {m : M (List AV)} (ha : MA ca X [a, b] m) (hN : X.N.Nodup) (hi : X.N[i]? = some x := by rfl) (hj : X.N[j]? = some y := by rfl) (hij : i ≠ j := by decide) (hc : X.calm = true := by rfl)
    (hx : X.env.scope.names.lookup x = some .local := by rfl) (hy : X.env.scope.names.lookup y = some .local := by rfl) (hw : swappedStores [.Tuple [.Name x px, .Name y py] kt pt] (.Tuple [a, b] k2 pt2) X.env = pure (some [x, y]) := by rfl)
    (hs : swapsWithSole [.Tuple [.Name x px, .Name y py] kt pt] (.Tuple [a, b] k2 pt2) pos.line X.env = pure false := by rfl) : MS ca X (.Assign [.Tuple [.Name x px, .Name y py] kt pt] (.Tuple [a, b] k2 pt2) pos) (sPar i j m) := fun F W tk hp =>
  PS.imp (ps_par hc hN hi hj hij hx hy (ha F W tk) hw hs) fun Dn σ H ⟨ow, env, R, g⟩ => go_stm R g fun as e1 vs ow1 H1 g1 R1 p1 q1 => by
    split at q1
    · rename_i a b
      have p1' : AvA X.K ca F H ow1 H1 e1 σ [a, b] vs := p1
      unfold AvA at p1'
      obtain ⟨v, us, rfl, ra, fa, t⟩ := p1'
      unfold AvA at t
      obtain ⟨w, us2, rfl, rb, fb, t2⟩ := t
      unfold AvA at t2
      subst t2
      split at q1
      · rename_i s t hs ht
        refine ⟨v, w, rfl, q1 _ ow1 H1 Stp.refl ?_⟩
        have Ra := R1.setAv (i := i) ra hs
        refine Ra.setAv (i := j) (a := b) (v := w) ?_ ht
        -- the second one stands as it did
        cases b with
        | d z => exact rb
        | ref n => cases ht
        | fr k =>
          obtain ⟨p, rfl, r, L⟩ := rb
          refine ⟨p, rfl, r, L.1, L.2.1, L.2.2.1, fun n l k1 h1 h2 => ?_⟩
          by_cases en : i = n
          · subst en
            have hl : i < e1.length := by
              have := (List.getElem?_eq_some_iff.mp h1).1
              rwa [List.length_set] at this
            rw [List.getElem?_set_self hl] at h1
            rw [List.getElem?_set_self (by rw [← R1.len]; exact hl)] at h2
            cases h2
            cases a with
            | d z => cases hs; cases h1
            | ref z => cases hs
            | fr k3 =>
              have q := (fa rfl p rfl).2
              unfold FrNot at q
              exact q.1 rfl rfl
          · rw [List.getElem?_set_ne en] at h1 h2
            exact L.2.2.2 n l k1 h1 h2
      · exact q1.elim
    · exact q1.elim
/-! ### raise -/
def sRaise (c : Str) : MStm := fun e => .ex c e
theorem ms_raise (c : Str) (pm : PMk X e (fun _ H Q => Q (.ref (ca c)) none H)) (hc : X.calm = true := by rfl) : MS ca X (.Raise (some e) none pos) (sRaise c) := fun F W tk hp => PS.imp (ps_raise hc tk.t pm) fun Dn σ H ⟨ow, env, R, g⟩ => g σ ow H Stp.refl R
/-! ### try -/
def noXc (e : List Sl) : Bool := e.all fun s => match s with
  | .xc => false
  | _ => true
theorem Rel.toXa {K : PySem.W.Frag} {F : Fr} {ow : Addr → Prop} {H : Hp} {e : List Sl} {σ : St} {xa xb : Addr} (R : Rel K ca { F with xa := xa } ow e σ H) (n : noXc e = true) : Rel K ca { F with xa := xb } ow e σ H where
  len := R.len
  sl := fun i s v h1 h2 => by
    have q := R.sl i s v h1 h2
    cases s with
    | un => exact q
    | d x => exact q
    | o l k => cases l <;> exact q
    | sc ns => exact q
    | xc =>
      have z := (List.all_eq_true.mp n) .xc (List.mem_of_getElem? h1)
      cases z
  dis := R.dis
  keep := R.keep
  dom := R.dom
  sub := R.sub
  trk := R.trk
  knd := R.knd
  tab := R.tab
/-- an except clause's class: does it take the errors of class c? told by K -/
def Takes1 (K : PySem.W.Frag) (ca : CA) (h : Value) (f : Str → Option Bool) : Prop := ∀ c b, f c = some b → PySem.W.exmOne K (.ref (ca c)) h = some b
/-- behind an except suite: the error's name is gone -/
def unX (i : Nat) (e : List Sl) (k : List Sl → SR) : SR := if noXc (e.set i .un) = true then k (e.set i .un) else .bad
def outX (i : Nat) : SR → SR
  | .nx e => unX i e .nx
  | .bk e => unX i e .bk
  | .ct e => unX i e .ct
  | .rt (.d x) e => unX i e (.rt (.d x))
  | _ => .bad
/-- try: body; except x as n: suite -/
def sTryAs (i : Nat) (f : Str → Option Bool) (mb : MStm) (ms : Str → MStm) : MStm := fun e => match mb e with
  | .ex c e1 => match f c with
    | some true => if noXc e1 = true then outX i (ms c (e1.set i .xc)) else .bad
    | some false => .ex c e1
    | none => .bad
  | r => r
theorem Rel.setXc {K : PySem.W.Frag} {F : Fr} {ow : Addr → Prop} {H : Hp} {e : List Sl} {σ : St} {i : Nat} (R : Rel K ca F ow e σ H) : Rel K ca F ow (e.set i .xc) (σ.set i (some (.ref F.xa))) H := by
  have R0 : Rel K ca F ow (e.set i .un) (σ.set i (some (.ref F.xa))) H := R.drop
  refine ⟨by rw [List.length_set, List.length_set]; exact R.len, fun j s v h1 h2 => ?_, fun j j' p l l' k k' h1 h2 h3 h4 => ?_, R.keep, R.dom, R.sub, R.trk, R.knd, R.tab⟩
  · by_cases ej : i = j
    · subst ej
      by_cases hl : i < e.length
      · rw [List.getElem?_set_self hl] at h1
        rw [List.getElem?_set_self (by rw [← R.len]; exact hl)] at h2
        cases h1; cases h2
        rfl
      · rw [List.getElem?_eq_none (by simpa using hl)] at h1; cases h1
    · refine R0.sl j s v ?_ h2
      rw [List.getElem?_set_ne ej] at h1 ⊢
      exact h1
  · have ne : ∀ {j : Nat} {l : Bool} {k : Ob}, (e.set i .xc)[j]? = some (Sl.o l k) → (e.set i .un)[j]? = some (Sl.o l k) := fun {j l k} h => by
      by_cases ej : i = j
      · subst ej
        by_cases hl : i < e.length
        · rw [List.getElem?_set_self hl] at h; cases h
        · rw [List.getElem?_eq_none (by simpa using hl)] at h; cases h
      · rw [List.getElem?_set_ne ej] at h ⊢
        exact h
    exact R0.dis j j' p l l' k k' (ne h1) (ne h2) h3 h4
theorem ms_try_as (i : Nat) {x n : Str} {np pos' : Pos} {body suite : List Stmt} {b₀ : Stmt} {cv : Value} {f : Str → Option Bool} {mb : MStm} {ms : Str → MStm} (hc : Names X x cv) (ht : Takes1 X.K ca cv f)
    (hb : ∀ (pn : List (Addr × Obj)) (xe : Value → Shared → Prop), MSs ca (X.tr pn xe) body mb)
    (hsu : ∀ (c : Str) (a : Addr) (oe : Obj) (pn : List (Addr × Obj)), f c = some true → Zc (.ref (ca c)) none oe → (∃ vs, oe.data = .fields vs) → MSs ca (X.suite a ((a, oe) :: pn)) (b₀ :: suite) (ms c))
    (hN : X.N.Nodup) (hi : X.N[i]? = some n := by rfl) (hln : X.env.kindOf n = some .local := by rfl) (hs : X.stack = X.env :: X.outer := by rfl) (hf : X.env.frame = some X.env.locals := by rfl) :
    MS ca X (.Try body [.ExceptHandler (some (.Name x np)) (some n) (b₀ :: suite) pos'] [] [] pos) (sTryAs i f mb ms) := fun F W tk hp => by
  refine PS.imp (ps_try_as (Wout := W) (tb := fun W' => tS X.K ca F W' mb) (ts := fun a cls d => fun D σ H => ∃ c, f c = some true ∧ cls = .ref (ca c) ∧ d = none ∧ tS X.K ca { F with xa := a } (fun _ _ _ _ => False) (ms c) D σ H) hs hf hN hi hln hc tk.t (fun W' pn xe t hp' => hb pn xe F W' ⟨t, tk.h⟩ hp') (fun a oe cls d pn hz hv => ?_)) fun Dn σ H ⟨ow, env, R, g⟩ => ?_
  · refine ⟨fun pins s σ H D I h => ?_⟩
    obtain ⟨c, hfc, rfl, rfl, h⟩ := h
    exact (hsu c a oe pn hfc hz hv { F with xa := a } _ ⟨takes0, fun a' e => by
      have e' : some (Value.ref a) = some (Value.ref a') := e
      cases e'; rfl⟩ PassesOwn.never).run pins s σ H D I h
  · refine ⟨ow, env, R, ?_⟩
    unfold sTryAs at g
    cases hm : mb env with
    | nx e => rw [hm] at g; exact g
    | bk e => rw [hm] at g; exact g
    | ct e => rw [hm] at g; exact g
    | rt r e => rw [hm] at g; cases r <;> exact g
    | bad => rw [hm] at g; exact g
    | ex c e1 =>
      rw [hm] at g
      dsimp only at g
      intro σ1 ow1 H1 s1 R1
      cases hfc : f c with
      | none => rw [hfc] at g; exact g.elim
      | some b =>
        rw [hfc] at g
        refine ⟨b, ht c b hfc, fun eb a ha => ?_, fun eb => ?_⟩
        · subst eb
          dsimp only at g
          by_cases hx : noXc e1 = true
          · rw [if_pos hx] at g
            refine ⟨c, hfc, rfl, rfl, ow1, e1.set i .xc, ?_, ?_⟩
            · have R2 : Rel X.K ca { F with xa := a } ow1 e1 σ1 H1 := R1.toXa (F := F) (xa := F.xa) hx
              exact R2.setXc
            · have g1 := g.mono s1
              have back : ∀ {e2 : List Sl} {σ2 : St} {ow2 : Addr → Prop} {H2 : Hp}, Rel X.K ca { F with xa := a } ow2 e2 σ2 H2 → noXc (e2.set i .un) = true → Rel X.K ca F ow2 (e2.set i .un) (σ2.set i none) H2 := fun {e2 σ2 ow2 H2} R2 hn => Rel.toXa (F := F) (xb := F.xa) R2.drop hn
              cases hms : ms c (e1.set i .xc) with
              | nx e2 =>
                rw [hms] at g1
                by_cases hn : noXc (e2.set i .un) = true
                · have q : outX i (.nx e2) = .nx (e2.set i .un) := by show unX i e2 .nx = _; unfold unX; rw [if_pos hn]
                  rw [q] at g1
                  exact fun σ2 ow2 H2 s2 R2 => g1 _ ow2 H2 s2 (back R2 hn)
                · have q : outX i (.nx e2) = .bad := by show unX i e2 .nx = _; unfold unX; rw [if_neg hn]
                  rw [q] at g1; exact g1.elim
              | bk e2 =>
                rw [hms] at g1
                by_cases hn : noXc (e2.set i .un) = true
                · have q : outX i (.bk e2) = .bk (e2.set i .un) := by show unX i e2 .bk = _; unfold unX; rw [if_pos hn]
                  rw [q] at g1
                  exact fun σ2 ow2 H2 s2 R2 => g1 _ ow2 H2 s2 (back R2 hn)
                · have q : outX i (.bk e2) = .bad := by show unX i e2 .bk = _; unfold unX; rw [if_neg hn]
                  rw [q] at g1; exact g1.elim
              | ct e2 =>
                rw [hms] at g1
                by_cases hn : noXc (e2.set i .un) = true
                · have q : outX i (.ct e2) = .ct (e2.set i .un) := by show unX i e2 .ct = _; unfold unX; rw [if_pos hn]
                  rw [q] at g1
                  exact fun σ2 ow2 H2 s2 R2 => g1 _ ow2 H2 s2 (back R2 hn)
                · have q : outX i (.ct e2) = .bad := by show unX i e2 .ct = _; unfold unX; rw [if_neg hn]
                  rw [q] at g1; exact g1.elim
              | rt r e2 =>
                rw [hms] at g1
                cases r with
                | d z =>
                  by_cases hn : noXc (e2.set i .un) = true
                  · have q : outX i (.rt (.d z) e2) = .rt (.d z) (e2.set i .un) := by show unX i e2 (.rt (.d z)) = _; unfold unX; rw [if_pos hn]
                    rw [q] at g1
                    exact fun v σ2 ow2 H2 s2 R2 rp => g1 v _ ow2 H2 s2 (back R2 hn) rp
                  · have q : outX i (.rt (.d z) e2) = .bad := by show unX i e2 (.rt (.d z)) = _; unfold unX; rw [if_neg hn]
                    rw [q] at g1; exact g1.elim
                | o k => exact g1.elim
              | ex c2 e2 => rw [hms] at g1; exact g1.elim
              | bad => rw [hms] at g1; exact g1.elim
          · rw [if_neg hx] at g; exact g.elim
        · subst eb
          exact (g.mono s1) σ1 ow1 H1 Stp.refl R1
/-- isinstance(n, C), n the error that is handled -/
def eIsE (i : Nat) (b : Bool) : M D := fun e => match e[i]? with
  | some .xc => .ok (.bool b) e
  | _ => .bad
end
end ML
end

section
set_option Elab.async false
set_option linter.all false
set_option maxRecDepth 100000
set_option maxHeartbeats 2000000
/-! # Instances: fields, methods, making -/
namespace ML
open PySem L2
section
variable {ca : CA} {X : Cx} {pos : Pos} {e a b c : Expr} {es : List Expr}
theorem me_isE (i : Nat) {x xc : Str} {p p1 p2 : Pos} {ae : Addr} {oe : Obj} {pn : List (Addr × Obj)} {Dc : Addr} {cv : Value} {v : V} {b : Bool} (C : ExcC X.K Dc) (hz : Zc (.ref Dc) none oe) (hf : ∃ vs, oe.data = .fields vs) (hcv : ∀ u, RelV v u → u = cv) (hk : PySem.W.kitOne X.K (.ref Dc) cv = some b)
    (hm : X.mg "isinstance" = none) (hc : PE (X.suite ae ((ae, oe) :: pn)) (.Name xc p2) (tC v)) (hN : X.N[i]? = some x := by rfl) (hv : Vis X.env.scope x := by first | exact Or.inl rfl | exact Or.inr (Or.inl rfl) | exact Or.inr (Or.inr rfl)) (hg : Gl X "isinstance" := by rfl) (hd : (x == ("__debug__" : Str)) = false := by decide) (hcd : (x == ("__classdict__" : Str)) = false := by decide)
    (he1 : starEach [.Name x p1, .Name xc p2] (X.suite ae ((ae, oe) :: pn)).env = (false, eval (.Name x p1) (X.suite ae ((ae, oe) :: pn)).env) :: starEach [.Name xc p2] (X.suite ae ((ae, oe) :: pn)).env := by rfl)
    (he2 : starEach [.Name xc p2] (X.suite ae ((ae, oe) :: pn)).env = (false, eval (.Name xc p2) (X.suite ae ((ae, oe) :: pn)).env) :: starEach [] (X.suite ae ((ae, oe) :: pn)).env := by rfl)
    (hpl : (backTo pos (starEach [.Name xc p2] (X.suite ae ((ae, oe) :: pn)).env)).any (·.1) = false := by rfl) :
    ME ca (X.suite ae ((ae, oe) :: pn)) (.Call (.Name "isinstance" p) [.Name x p1, .Name xc p2] [] pos) (eIsE i b) := fun F W tk =>
  PE.imp (pe_callB (X := X.suite ae ((ae, oe) :: pn)) (call_isE C hz hf) hg hm (by decide +kernel) (pa_cons (pe_var (X := X.suite ae ((ae, oe) :: pn)) hN hv hd hcd) (pa_cons hc pa_nil he2) he1) (by decide) (by decide) he1 hpl) fun σ H Q ⟨ow, env, R, g⟩ => by
    unfold eIsE at g
    split at g
    · rename_i h
      obtain ⟨u, hu, r⟩ := SlR.at R h
      have r' : u = some (.ref F.xa) := r
      have hxa : F.xa = ae := tk.h ae rfl
      rw [hxa] at r'
      subst r'
      exact ⟨.ref ae, hu, v, cv, b, rfl, hcv, hk, g (.bl b) ow H Go.refl R (by show Rp _ _ _ (.bool b) _; unfold Rp; rfl)⟩
    · exact g.elim
/-! ### fields -/
theorem RpF.lookup {K : PySem.W.Frag} {ow : Addr → Prop} {H : Hp} : ∀ {fs : List (Str × D)} {us : List (Str × V)}, RpF K ow H fs us → ∀ f, (fs.lookup f = none → us.lookup f = none) ∧ ∀ x, fs.lookup f = some x → ∃ v, us.lookup f = some v ∧ Rp K ow H x v
  | _, _, .nil, f => ⟨fun _ => rfl, fun x h => by cases h⟩
  | (n, x) :: fs, (n', v) :: us, .cons h t, f => by
    obtain ⟨en, r⟩ := h
    have en' : n = n' := en
    subst en'
    obtain ⟨i1, i2⟩ := RpF.lookup (fs := fs) (us := us) t f
    have e1 : ((n, x) :: fs).lookup f = if (f == n) = true then some x else fs.lookup f := by rw [List.lookup_cons]; cases (f == n) <;> rfl
    have e2 : ((n, v) :: us).lookup f = if (f == n) = true then some v else us.lookup f := by rw [List.lookup_cons]; cases (f == n) <;> rfl
    rw [e1, e2]
    by_cases z : (f == n) = true
    · rw [if_pos z, if_pos z]
      exact ⟨fun h => (by cases h), fun y h => (by cases h; exact ⟨v, rfl, r⟩)⟩
    · rw [if_neg z, if_neg z]
      exact ⟨i1, i2⟩
/-- a field of an instance of c that slot i holds -/
def eFld (i : Nat) (c f : Str) : M D := fun e => match e[i]? with
  | some (.o _ (.ins c' fs)) => if c' = c then lift (fs.lookup f) e else .bad
  | _ => .bad
theorem me_fld (i : Nat) (c : Str) {x f : Str} {p : Pos} (hc : Cls X.K (ca c)) (hn : NoAttr X.K (ca c) f) (hN : X.N[i]? = some x := by rfl) (hv : Vis X.env.scope x := by first | exact Or.inl rfl | exact Or.inr (Or.inl rfl) | exact Or.inr (Or.inr rfl)) (hd : (x == ("__debug__" : Str)) = false := by decide) (hcd : (x == ("__classdict__" : Str)) = false := by decide)
    (hb : attributeBase (.Name x p) f X.env (eval (.Name x p) X.env) = eval (.Name x p) X.env := by rfl) : ME ca X (.Attribute (.Name x p) f pos) (eFld i c f) := fun F W tk => PE.imp (pe_fld (pe_var hN hv hd hcd) hb) fun σ H Q ⟨ow, env, R, g⟩ => by
  unfold eFld at g
  split at g
  · rename_i l c' fs he
    by_cases hcc : c' = c
    · subst hcc
      rw [if_pos rfl] at g
      obtain ⟨y, hy, g⟩ := lift_go g
      obtain ⟨q, hq, w, dx, us, h1, h2⟩ := R.own he
      obtain ⟨v, hv, rv⟩ := (h2.lookup f).2 y hy
      exact ⟨.ref q, hq, q, _, dx, us, v, rfl, h1, hc, hn, hv, g v ow H Go.refl R rv⟩
    · rw [if_neg hcc] at g; exact g.elim
  · exact g.elim
def putFD (f : Str) (v : D) : List (Str × D) → List (Str × D)
  | [] => [(f, v)]
  | p :: r => if p.1 = f then (f, v) :: r else p :: putFD f v r
theorem RpF.put {K : PySem.W.Frag} {ow : Addr → Prop} {H : Hp} {f : Str} {y : D} {v : V} (r : Rp K ow H y v) : ∀ {fs : List (Str × D)} {us : List (Str × V)}, RpF K ow H fs us → RpF K ow H (putFD f y fs) (putF f v us)
  | _, _, .nil => .cons ⟨rfl, r⟩ .nil
  | (n, x) :: fs, (n', u) :: us, .cons h t => by
    obtain ⟨en, r1⟩ := h
    have en' : n = n' := en
    subst en'
    have e1 : putFD f y ((n, x) :: fs) = if n = f then (f, y) :: fs else (n, x) :: putFD f y fs := rfl
    have e2 : putF f v ((n, u) :: us) = if n = f then (n, v) :: us else (n, u) :: putF f v us := rfl
    rw [e1, e2]
    by_cases z : n = f
    · rw [if_pos z, if_pos z]
      exact .cons ⟨z.symm, r⟩ t
    · rw [if_neg z, if_neg z]
      exact .cons ⟨rfl, r1⟩ (RpF.put r t)
def setF (i : Nat) (c f : Str) (v : D) : MStm := fun e => match e[i]? with
  | some (.o l (.ins c' fs)) => if c' = c ∧ fs.length < 1000 then .nx (e.set i (.o l (.ins c (putFD f v fs)))) else .bad
  | _ => .bad
def sFld_ (i : Nat) (c f : Str) (m : M D) : MStm := xS m fun v => setF i c f v
theorem setF_go {K : PySem.W.Frag} {F : Fr} {W : WX} {ow : Addr → Prop} {H : Hp} {env : List Sl} {σ : St} {Dn : Ends} {i : Nat} {c f : Str} {y : D} {v : V} (R : Rel K ca F ow env σ H) (r : Rp K ow H y v) (g : GoS K ca F W ow H Dn (setF i c f y env)) :
    ∃ p dx us, σ[i]? = some (some (.ref p)) ∧ H p = some (.ins (ca c) dx us) ∧ us.length < 1000 ∧ Dn.nx σ (upd H p (.ins (ca c) dx (putF f v us))) := by
  unfold setF at g
  split at g
  · rename_i l c' fs he
    by_cases hcc : c' = c ∧ fs.length < 1000
    · rw [if_pos hcc] at g
      obtain ⟨rfl, hl⟩ := hcc
      obtain ⟨q, hq, w, dx, us, h1, h2⟩ := R.own he
      have st : Stp ow H ow (upd H q (.ins (ca c') dx (putF f v us))) := stp_mut w
      refine ⟨q, dx, us, hq, h1, by rw [← Paired.length h2]; exact hl, g σ ow _ st (R.mut he hq ⟨dx, _, upd_same, RpF.stp st (h2.put r)⟩)⟩
    · rw [if_neg hcc] at g; exact g.elim
  · exact g.elim
theorem ms_fld (i : Nat) (c : Str) {x f : Str} {p pos' : Pos} {m : M D} (h : ME ca X e m) (hc : Cls X.K (ca c)) (hn : NoAttr X.K (ca c) f) (hN : X.N[i]? = some x := by rfl) (hv : Vis X.env.scope x := by first | exact Or.inl rfl | exact Or.inr (Or.inl rfl) | exact Or.inr (Or.inr rfl)) (hd : (x == ("__debug__" : Str)) = false := by decide) (hcd : (x == ("__classdict__" : Str)) = false := by decide)
    (hs : swapsWith e (some (.Attribute (.Name x p) f pos')) pos.line X.env = pure false := by rfl) : MS ca X (.Assign [.Attribute (.Name x p) f pos'] e pos) (sFld_ i c f m) := fun F W tk hp => PS.imp (L2.ps_fld (pe_var hN hv hd hcd) (h F W tk) hs) fun Dn σ H ⟨ow, env, R, g⟩ =>
  go_stm R g fun y e1 v ow1 H1 g1 R1 p1 q1 => by
    obtain ⟨q, dx, us, hq, h1, hl, k⟩ := setF_go R1 p1 q1
    exact ⟨.ref q, hq, q, _, dx, us, rfl, h1, hc, hn, hl, k⟩
def sAugF (i : Nat) (c f : Str) (g : Sl → Sl → Option D) (m : M D) : MStm := xS (eFld i c f) fun x => xS m fun y => fun e => match g (.d x) (.d y) with
  | some z => setF i c f z e
  | none => .bad
theorem ms_fldaug (i : Nat) (c : Str) {x f : Str} {p tpos : Pos} {op : Operator} {r : R2} {g : Sl → Sl → Option D} {m : M D} (ho : OpR X (inplaceOp op) r) (hs : OpS X.K ca r g) (h : ME ca X e m) (hc : Cls X.K (ca c)) (hn : NoAttr X.K (ca c) f) (hN : X.N[i]? = some x := by rfl) (hv : Vis X.env.scope x := by first | exact Or.inl rfl | exact Or.inr (Or.inl rfl) | exact Or.inr (Or.inr rfl)) (hd : (x == ("__debug__" : Str)) = false := by decide) (hcd : (x == ("__classdict__" : Str)) = false := by decide) :
    MS ca X (.AugAssign (.Attribute (.Name x p) f tpos) op e pos) (sAugF i c f g m) := fun F W tk hp => PS.imp (L2.ps_fldaug (rd := r) (pe_var hN hv hd hcd) (h F W tk) (fun pins s σ H x y u v Q I rx ry q => ho pins s σ H x y u v Q I rx ry q)) fun Dn σ H ⟨ow, env, R, gg⟩ => by
  unfold sAugF xS at gg
  cases he : eFld i c f env with
  | ok y e1 =>
    rw [he] at gg
    unfold eFld at he
    split at he
    · rename_i l c' fs hi
      by_cases hcc : c' = c
      · subst hcc
        rw [if_pos rfl] at he
        obtain ⟨q, hq, w, dx, us, h1, h2⟩ := R.own hi
        cases hl : fs.lookup f with
        | none => rw [hl] at he; cases he
        | some y' =>
          rw [hl] at he
          cases he
          obtain ⟨v, hv', rv⟩ := (h2.lookup f).2 y hl
          refine ⟨.ref q, hq, q, _, dx, us, v, rfl, h1, hc, hn, hv', ?_⟩
          refine go_stm (f := fun y2 e => match g (.d y) (.d y2) with
            | some z => setF i c' f z e
            | none => .bad) R gg fun y2 e2 v2 ow2 H2 g2 R2 p2 q2 => ?_
          split at q2
          · rename_i z hz
            refine hs _ _ z ow2 H2 v v2 _ hz (fun _ => Rp.stp g2.stp _ _ rv) (fun _ => p2) R2.trk fun w3 H3 gr r3 => ?_
            obtain ⟨q', dx', us', hq', h1', hl', k⟩ := setF_go (R2.gr gr) r3 (q2.mono gr.stp)
            rw [hq] at hq'
            cases hq'
            exact ⟨dx', us', h1', hl', k⟩
          · exact q2.elim
      · rw [if_neg hcc] at he; cases he
    · cases he
  | ex c2 e1 =>
    unfold eFld at he
    split at he
    · rename_i l c' fs hi
      by_cases hcc : c' = c
      · rw [if_pos hcc] at he
        unfold lift at he
        split at he <;> cases he
      · rw [if_neg hcc] at he; cases he
    · cases he
  | bad => rw [he] at gg; exact gg.elim
/-! ### methods -/
theorem pe_methS {CX : CXT} {C : Addr} {k : Nat} {f : Addr} {fd : FuncData} {ps : List Str} {sp : Sp} {E : St → XK} {o : Expr} {m : Str} {apos : Pos} {ta : TE} {t : TA} {pl : Sem Bool} (he : PE X o ta) (c : Cls X.K C) (hm : Meth X.K C m f) (F : FnOk X.prog X.w X.K X.mg X.base CX k f fd ps sp) (hr : Room k X.A) (hb : Binds X.K fd ps []) (hx : ∀ σ, PassesAt CX X σ (E σ)) (ha : PA X (e :: es) t)
    (hst : starEach (e :: es) X.env = (false, eval e X.env) :: starEach es X.env := by rfl) (hpl : (backTo pos (starEach es X.env)).any (·.1) = false := by rfl)
    (ht : eval (.Call (.Attribute o m apos) (e :: es) [] pos) X.env = (do
      let ov ← eval o X.env
      standAt apos.atName
      let (f, first) ← holding [ov] (getMethod ov m pl)
      callWith pos f first (backTo pos (starEach (e :: es) X.env)) (backToKw pos (keywordEach [] X.env)))) :
    PE X (.Call (.Attribute o m apos) (e :: es) [] pos) (fun σ H Q => ta σ H fun x H1 => ∃ a dx fs, x = .ref a ∧ H1 a = some (.ins C dx fs) ∧ fs.lookup m = none ∧ t σ H1 fun vs H2 => sp (x :: vs) H2 Q (E σ)) := by
  refine ⟨fun pins s σ H Q I h => ?_⟩
  refine PySem.W.methodCall_KW (pl := pl) (thn (he.run pins s σ H _ I h) fun u s1 ⟨x, H1, I1, rx, a, dx, fs, ex, ea, l, q⟩ => ?_) ht
  subst ex
  obtain rfl : u = Value.ref a := rx
  refine getmeth_ok I1 ea c hm l ?_
  refine PySem.W.callWith_K (first := [.ref a]) (h₀ := X.base) I.ok.mod.kin hm.kp (thn (ha.run pos pins s1 σ H1 _ I1 q) fun us s2 ⟨vs, H2, I2, r, q2⟩ => ⟨I2.kIn, ?_⟩) hst hpl
  exact run_fnS (us := .ref a :: us) (vs := .ref a :: vs) F hr hb (hx σ) I2 (.cons rfl r) q2
theorem pe_methS0 {CX : CXT} {C : Addr} {k : Nat} {f : Addr} {fd : FuncData} {ps : List Str} {sp : Sp} {E : St → XK} {o : Expr} {m : Str} {apos : Pos} {ta : TE} {pl : Sem Bool} (he : PE X o ta) (c : Cls X.K C) (hm : Meth X.K C m f) (F : FnOk X.prog X.w X.K X.mg X.base CX k f fd ps sp) (hr : Room k X.A) (hb : Binds X.K fd ps []) (hx : ∀ σ, PassesAt CX X σ (E σ))
    (ht : eval (.Call (.Attribute o m apos) [] [] pos) X.env = (do
      let ov ← eval o X.env
      standAt apos.atName
      let (f, first) ← holding [ov] (getMethod ov m pl)
      callWith pos f first (backTo pos (starEach [] X.env)) (backToKw pos (keywordEach [] X.env)))) :
    PE X (.Call (.Attribute o m apos) [] [] pos) (fun σ H Q => ta σ H fun x H1 => ∃ a dx fs, x = .ref a ∧ H1 a = some (.ins C dx fs) ∧ fs.lookup m = none ∧ sp [x] H1 Q (E σ)) := by
  refine ⟨fun pins s σ H Q I h => ?_⟩
  refine PySem.W.methodCall_KW (pl := pl) (thn (he.run pins s σ H _ I h) fun u s1 ⟨x, H1, I1, rx, a, dx, fs, ex, ea, l, q⟩ => ?_) ht
  subst ex
  obtain rfl : u = Value.ref a := rx
  refine getmeth_ok I1 ea c hm l ?_
  exact PySem.W.callWith_K0 (first := [.ref a]) I1.kIn hm.kp (run_fnS (us := [.ref a]) (vs := [.ref a]) F hr hb (hx σ) I1 (.cons rfl .nil) q)
/-- what is known of a method -/
structure MCal (P : Program) (w : World) (K : PySem.W.Frag) (mg : Str → Option Value) (base : Heap) (ca : CA) (k : Nat) (c m : Str) (n : Nat) (mf : List Sl → CR) : Prop where
  cls : Cls K (ca c)
  ex : ∃ (f : Addr) (fd : FuncData) (ps : List Str), Meth K (ca c) m f ∧ Binds K fd ps [] ∧ FnOk P w K mg base (L2.CX P w) k f fd ps (spM K ca n mf)
/-- slot i holds an instance of c, without an attribute m -/
def okI (i : Nat) (c m : Str) : M Unit := fun e => match e[i]? with
  | some (.o _ (.ins c' fs)) => if c' = c ∧ fs.lookup m = none then .ok () e else .bad
  | _ => .bad
def callMt (i : Nat) (c m : Str) (mf : List Sl → CR) (ma : M (List AV)) : M RV := bind (okI i c m) fun _ => callM mf (bind ma fun as => ret (.ref i :: as))
theorem okI_go {K : PySem.W.Frag} {F : Fr} {W : WX} {β γ : Type} {P : PP γ β} {Hs H : Hp} {ow : Addr → Prop} {env : List Sl} {σ : St} {Q : β → Hp → Prop} {i : Nat} {c m : Str} {f : Unit → M γ} (R : Rel K ca F ow env σ H) (g : GoG K ca F W P Hs ow env H σ Q (bind (okI i c m) f env)) :
    ∃ p dx us, σ[i]? = some (some (.ref p)) ∧ H p = some (.ins (ca c) dx us) ∧ us.lookup m = none ∧ GoG K ca F W P Hs ow env H σ Q (f () env) := by
  unfold bind okI at g
  split at g
  · rename_i a e' hh
    split at hh
    · rename_i l c' fs he
      by_cases hcc : c' = c ∧ fs.lookup m = none
      · rw [if_pos hcc] at hh
        cases hh
        obtain ⟨rfl, hl⟩ := hcc
        obtain ⟨p, hp, w, dx, us, h1, h2⟩ := R.own he
        exact ⟨p, dx, us, hp, h1, (h2.lookup m).1 hl, g⟩
      · rw [if_neg hcc] at hh; cases hh
    · cases hh
  · rename_i c e' hh
    split at hh
    · split at hh <;> cases hh
    · cases hh
  · exact g.elim
theorem mc_meth (i : Nat) {c m : Str} {k n : Nat} {x : Str} {p apos : Pos} {mf : List Sl → CR} {ma : M (List AV)} {pl : Sem Bool} (mc : MCal X.prog X.w X.K X.mg X.base ca k c m n mf) (hr : Room k X.A) (ha : MA ca X (e :: es) ma) (hlen : ∀ env as e', ma env = .ok as e' → as.length + 1 = n)
    (ht : eval (.Call (.Attribute (.Name x p) m apos) (e :: es) [] pos) X.env = (do
      let ov ← eval (.Name x p) X.env
      standAt apos.atName
      let (f, first) ← holding [ov] (getMethod ov m pl)
      callWith pos f first (backTo pos (starEach (e :: es) X.env)) (backToKw pos (keywordEach [] X.env))))
    (hN : X.N[i]? = some x := by rfl) (hv : Vis X.env.scope x := by first | exact Or.inl rfl | exact Or.inr (Or.inl rfl) | exact Or.inr (Or.inr rfl)) (hd : (x == ("__debug__" : Str)) = false := by decide) (hcd : (x == ("__classdict__" : Str)) = false := by decide)
    (hst : starEach (e :: es) X.env = (false, eval e X.env) :: starEach es X.env := by rfl) (hpl : (backTo pos (starEach es X.env)).any (·.1) = false := by rfl) : MC ca X (.Call (.Attribute (.Name x p) m apos) (e :: es) [] pos) (callMt i c m mf ma) := fun F W tk => by
  obtain ⟨f, fd, ps, hm, hb, fn⟩ := mc.ex
  refine PE.imp (pe_methS (pl := pl) (pe_var hN hv hd hcd) mc.cls hm fn hr hb (fun σ => passAt tk.t σ) (ha F W tk) hst hpl ht) fun σ H Q ⟨ow, env, R, g⟩ => ?_
  obtain ⟨q, dx, us, hq, h1, h2, g⟩ := okI_go R g
  refine ⟨.ref q, hq, q, dx, us, rfl, h1, h2, ow, env, R, ?_⟩
  unfold callM at g
  unfold bind at g
  cases hm' : ma env with
  | ok as e1 =>
    have hb' : (bind ma fun as => ret (.ref i :: as)) env = .ok (.ref i :: as) e1 := by unfold bind; rw [hm']; rfl
    unfold bind at hb'
    rw [hb'] at g
    rintro vs ow1 H1 g1 R1 p1
    have p2 : AvA X.K ca F H ow1 H1 e1 σ (.ref i :: as) (.ref q :: vs) := by
      unfold AvA
      exact ⟨.ref q, vs, rfl, hq, fun z => (by cases z), p1⟩
    exact go_called R1 p2 (by rw [List.length_cons, ← (AvA.get p1).1]; exact hlen _ _ _ hm') (fun x h => g1.dom x h) (g.mono g1)
  | ex c e =>
    have hb' : (bind ma fun as => ret (.ref i :: as)) env = .ex c e := by unfold bind; rw [hm']
    unfold bind at hb'
    rw [hb'] at g
    exact g
  | bad =>
    have hb' : (bind ma fun as => ret (.ref i :: as)) env = .bad := by unfold bind; rw [hm']
    unfold bind at hb'
    rw [hb'] at g
    exact g
theorem mc_meth0 (i : Nat) {c m : Str} {k : Nat} {x : Str} {p apos : Pos} {mf : List Sl → CR} {pl : Sem Bool} (mc : MCal X.prog X.w X.K X.mg X.base ca k c m 1 mf) (hr : Room k X.A)
    (ht : eval (.Call (.Attribute (.Name x p) m apos) [] [] pos) X.env = (do
      let ov ← eval (.Name x p) X.env
      standAt apos.atName
      let (f, first) ← holding [ov] (getMethod ov m pl)
      callWith pos f first (backTo pos (starEach [] X.env)) (backToKw pos (keywordEach [] X.env))))
    (hN : X.N[i]? = some x := by rfl) (hv : Vis X.env.scope x := by first | exact Or.inl rfl | exact Or.inr (Or.inl rfl) | exact Or.inr (Or.inr rfl)) (hd : (x == ("__debug__" : Str)) = false := by decide) (hcd : (x == ("__classdict__" : Str)) = false := by decide) : MC ca X (.Call (.Attribute (.Name x p) m apos) [] [] pos) (callMt i c m mf aNil) := fun F W tk => by
  obtain ⟨f, fd, ps, hm, hb, fn⟩ := mc.ex
  refine PE.imp (pe_methS0 (pl := pl) (pe_var hN hv hd hcd) mc.cls hm fn hr hb (fun σ => passAt tk.t σ) ht) fun σ H Q ⟨ow, env, R, g⟩ => ?_
  obtain ⟨q, dx, us, hq, h1, h2, g⟩ := okI_go R g
  have p2 : AvA X.K ca F H ow H env σ [.ref i] [.ref q] := by
    unfold AvA
    exact ⟨.ref q, [], rfl, hq, fun z => (by cases z), by unfold AvA; rfl⟩
  exact ⟨.ref q, hq, q, dx, us, rfl, h1, h2, go_called R p2 rfl (fun x h => h) g⟩
/-! ### making -/
theorem AvA.go {K : PySem.W.Frag} {F : Fr} {Hs H H' : Hp} {ow ow' : Addr → Prop} {e e' : List Sl} {σ : St} (g : Go σ ow e H ow' e' H') : ∀ {as : List AV} {vs : List V}, AvA K ca F Hs ow H e σ as vs → AvA K ca F Hs ow' H' e' σ as vs
  | [], _, h => h
  | a :: r, _, h => by
    unfold AvA at h ⊢
    obtain ⟨v, us, ev, h1, h2, h3⟩ := h
    exact ⟨v, us, ev, h1.go g, h2, AvA.go g h3⟩
structure Make (P : Program) (w : World) (K : PySem.W.Frag) (mg : Str → Option Value) (base : Heap) (ca : CA) (k : Nat) (c : Str) (n : Nat) (mf : List Sl → CR) : Prop where
  at_ : mg c = some (.ref (ca c))
  ex : ∃ (f : Addr) (fd : FuncData) (ps : List Str), Mk K (ca c) f ∧ Binds K fd ps [] ∧ FnOk P w K mg base (L2.CX P w) k f fd ps (spM K ca n mf)
def oMake (c : Str) (mf : List Sl → CR) (ma : M (List AV)) : M Ob := bind ma fun as => fun e => match ios e as 0 with
  | some none => match mf (.o false (.ins c []) :: (contents e as).map argOf) with
    | .ok (.d .none) outs => match (outs[0]? : Option Sl) with
      | some (Sl.o _ k) => .ok k e
      | _ => .bad
    | _ => .bad
  | _ => .bad
/-- an object that is loose has changed, nothing else -/
theorem Rel.looseChanged {K : PySem.W.Frag} {F : Fr} {ow : Addr → Prop} {H H' : Hp} {e : List Sl} {σ : St} {p : Addr} (R : Rel K ca F ow e σ H) (L : Loose F ow e σ p) (mu : MutO (H' p)) (keep : ∀ a o, H a = some o → a ≠ p → (¬ ∃ q ∈ ca.tb, q.1 = a) → NT o → H' a = some o) (dom : ∀ a, H' a = none → H a = none) (tab : ∀ q ∈ ca.tb, TbR ow H' q.1 q.2) : Rel K ca F ow e σ H' ∧ Stp ow H ow H' := by
  have st : Stp ow H ow H' := fun a o h n nt => ⟨keep a o h (fun z => n (by rw [z]; exact L.1)) (fun ⟨q, hq, z⟩ => n (by rw [← z]; exact (R.tab q hq).1)) nt, n⟩
  refine ⟨R.step rfl (fun i s' h => .inl ⟨h, fun l k q hs hq => ?_⟩) st (fun _ h => h) (fun a z => ?_) (fun a z => ?_) (fun a u ha n nt => ?_) dom tab, st⟩
  · subst hs
    obtain ⟨q', eq, w, r⟩ := R.own h
    rw [hq] at eq
    cases eq
    obtain ⟨u, hu⟩ := r.there
    rw [keep q u hu (fun z => L.2.2.2 i l k h (by rw [hq, z])) (R.nT r.noT) (ntI hu r.noT), hu]
  · cases hh : H' a with
    | some o => exact ⟨o, rfl⟩
    | none =>
      obtain ⟨u, hu⟩ := R.trk a z
      rw [dom a hh] at hu; cases hu
  · by_cases ea : a = p
    · subst ea; exact .inr mu
    · by_cases t : ∃ q ∈ ca.tb, q.1 = a
      · exact .inl t
      · refine (R.knd a z).imp id fun m => ?_
        obtain ⟨u, hu⟩ := m.there
        rw [hu] at m
        rw [keep a u hu ea t m.nt]; exact m
  · refine keep a u (R.keep a u ha n nt) (fun z => ?_) (fun ⟨q, hq, z⟩ => n (by rw [← z]; exact (R.tab q hq).2.1)) nt
    rw [z, L.2.1] at ha; cases ha
theorem mo_make {c : Str} {k n : Nat} {p : Pos} {mf : List Sl → CR} {ma : M (List AV)} (mk : Make X.prog X.w X.K X.mg X.base ca k c n mf) (hr : Room (k + 1) X.A) (ha : MA ca X (e :: es) ma) (hlen : ∀ env as e', ma env = .ok as e' → as.length + 1 = n) (hg : Gl X c := by rfl)
    (hdb : (c == ("__debug__" : Str)) = false := by decide) (he : starEach (e :: es) X.env = (false, eval e X.env) :: starEach es X.env := by rfl) (hpl : (backTo pos (starEach es X.env)).any (·.1) = false := by rfl) :
    MO ca X (.Call (.Name c p) (e :: es) [] pos) (oMake c mf ma) := fun F W tk => by
  obtain ⟨f, fd, ps, M, hb, fn⟩ := mk.ex
  refine PE.imp (pe_make M fn hr hg mk.at_ hb .nil passL (ha F W tk) hdb he hpl) fun σ H Q ⟨ow, env, R, g⟩ => ?_
  refine ⟨ow, env, R, ?_⟩
  unfold oMake bind at g
  cases hm : ma env with
  | ok as e1 =>
    rw [hm] at g
    rintro vs ow1 H1 g1 R1 p1 x dx hx hdx hne
    have g2 := g.mono g1
    dsimp only at g2
    cases hi : ios e1 as 0 with
    | none => rw [hi] at g2; exact g2.elim
    | some w =>
      rw [hi] at g2
      cases w with
      | some ij => exact g2.elim
      | none =>
        dsimp only at g2
        have Ra := R1.gr (Gr.new (o := .own x) hdx)
        have hx' : upd H1 dx (.own x) x = none := by rw [upd_ne (fun z => hne z.symm)]; exact hx
        obtain ⟨Rb, L⟩ := Ra.more (o := .ins (ca c) dx []) hx'
        have ga := Go.gr R1 (Gr.new (o := .own x) hdx)
        have gb := Go.more Ra (o := .ins (ca c) dx []) hx'
        have p2 : AvA X.K ca F H (more ow1 x) _ e1 σ as vs := (AvA.go (ga.trans gb) p1)
        have A := argsOk Rb p2 hi
        have no_o : ∀ (i : Nat) (l : Bool) (k1 : Ob), ((contents e1 as).map argOf)[i]? ≠ some (Sl.o l k1) := fun i l k1 z => by
          obtain ⟨s0, e0, e2⟩ := argOf_get z
          cases s0 with
          | o l2 k2 => exact (ios_none hi i l2 k2).1 e0
          | _ => cases e2
        have io : ∀ a, IoA ca (.o false (.ins c []) :: (contents e1 as).map argOf) (.ref x :: vs) a → a = x ∨ ∃ q ∈ ca.tb, q.1 = a := fun a z => by
          rcases z with ⟨i, k1, a1, a2⟩ | z
          · cases i with
            | zero => cases a2; exact .inl rfl
            | succ i => exact absurd a1 (no_o i false k1)
          · exact .inr z
        rw [List.append_nil]
        refine ⟨more ow1 x, .o false (.ins c []) :: (contents e1 as).map argOf, ?_, ⟨?_, ?_, ?_, ?_, fun q hq => let ⟨a, _, _, d⟩ := Rb.tab q hq; ⟨a, d⟩, Rb.knd⟩, Rb.trk, ?_⟩
        · rw [List.length_cons, ← (AvA.get p1).1]; exact hlen _ _ _ hm
        · rw [List.length_cons, List.length_cons, A.len]
        · intro i s v h1 h2
          cases i with
          | zero => cases h1; cases h2; exact ⟨x, rfl, .inr rfl, dx, [], upd_same, .nil⟩
          | succ i => exact A.sl i s v h1 h2
        · intro i k1 z
          cases i with
          | zero => cases z
          | succ i => exact no_o i true k1 z
        · intro i j q k1 k2 h1 h2 h3 h4
          cases i with
          | zero =>
            cases j with
            | zero => rfl
            | succ j => exact absurd h2 (no_o j false k2)
          | succ i => exact absurd h1 (no_o i false k1)
        · cases hmf : mf (.o false (.ins c []) :: (contents e1 as).map argOf) with
          | bad => rw [hmf] at g2; exact g2.elim
          | ex c2 outs => rw [hmf] at g2; exact g2.elim
          | ok r outs =>
            rw [hmf] at g2
            cases r with
            | o k1 => exact g2.elim
            | d y =>
              cases y with
              | none =>
                intro v H2 kp oo rp
                unfold Rp at rp
                refine ⟨rp, ?_⟩
                obtain ⟨k', ho, ro⟩ := oo.1 0 (.ins c []) x rfl rfl
                dsimp only at g2
                rw [ho] at g2
                dsimp only at g2
                obtain ⟨Rc, st⟩ := Rb.looseChanged L ro.mutO (fun a o h n nt t => kp.keep a o h (fun z => (io a z).elim n nt) t) kp.dom oo.2
                have gfin : Go σ ow env H (more ow1 x) e1 H2 := by
                  have g3 := (g1.trans ga).trans gb
                  refine ⟨g3.stp.trans st, fun q w nt n => ?_, fun a h => g3.dom a (kp.dom a h)⟩
                  obtain ⟨w3, h3, n3⟩ := g3.lo q w nt n
                  obtain ⟨u, hu⟩ := R.trk q w
                  have hq : q ≠ x := fun z => by rw [z, g1.dom x hx] at hu; cases hu
                  refine ⟨w3, ?_, n3⟩
                  rw [hu] at h3
                  rw [kp.keep q u h3 (fun z => (io q z).elim hq (R.nT nt)) (ntI hu nt), hu]
                have g5 := g
                dsimp only at g5
                rw [hi] at g5
                dsimp only at g5
                rw [hmf] at g5
                dsimp only at g5
                rw [ho] at g5
                exact g5 (.ref x) _ H2 gfin Rc ⟨x, rfl, g1.dom x hx, ro, L⟩
              | _ => exact g2.elim
  | ex c2 e1 => rw [hm] at g; exact g
  | bad => rw [hm] at g; exact g
/-- a method of a fresh instance: C(..).m() -/
def callF (c m : Str) (mf : List Sl → CR) (mo : M Ob) : M RV := bind mo fun k => fun e => match k with
  | .ins c' fs => if c' = c ∧ fs.lookup m = none then match mf [.o false (.ins c' fs)] with
      | .ok r _ => .ok r e
      | .ex cx _ => .ex cx e
      | .bad => .bad
    else .bad
  | _ => .bad
theorem mc_methF {o : Expr} {c m : Str} {k : Nat} {apos : Pos} {mf : List Sl → CR} {mo : M Ob} {pl : Sem Bool} (mc : MCal X.prog X.w X.K X.mg X.base ca k c m 1 mf) (hr : Room k X.A) (ho : MO ca X o mo)
    (ht : eval (.Call (.Attribute o m apos) [] [] pos) X.env = (do
      let ov ← eval o X.env
      standAt apos.atName
      let (f, first) ← holding [ov] (getMethod ov m pl)
      callWith pos f first (backTo pos (starEach [] X.env)) (backToKw pos (keywordEach [] X.env)))) : MC ca X (.Call (.Attribute o m apos) [] [] pos) (callF c m mf mo) := fun F W tk => by
  obtain ⟨f, fd, ps, hm, hb, fn⟩ := mc.ex
  refine PE.imp (pe_methS0 (pl := pl) (ho F W tk) mc.cls hm fn hr hb (fun σ => passAt tk.t σ) ht) fun σ H Q ⟨ow, env, R, g⟩ => ?_
  refine ⟨ow, env, R, ?_⟩
  unfold callF bind at g
  cases hm : mo env with
  | bad => rw [hm] at g; exact g
  | ex c2 e1 => rw [hm] at g; exact g
  | ok k1 e1 =>
    rw [hm] at g
    rintro v ow1 H1 g1 R1 ⟨p, rfl, n, r, L⟩
    cases k1 with
    | lst xs => exact g.elim
    | dct kvs => exact g.elim
    | ins c' fs =>
      dsimp only at g
      by_cases hcc : c' = c ∧ fs.lookup m = none
      · rw [if_pos hcc] at g
        obtain ⟨rfl, hl⟩ := hcc
        obtain ⟨dx, us, h1, h2⟩ := id r
        refine ⟨p, dx, us, rfl, h1, (h2.lookup m).1 hl, ow1, [.o false (.ins c' fs)], rfl, ⟨rfl, ?_, ?_, ?_, fun q hq => let ⟨a, _, _, d⟩ := R1.tab q hq; ⟨a, d⟩, R1.knd⟩, R1.trk, ?_⟩
        · intro i s v a1 a2
          cases i with
          | zero => cases a1; cases a2; exact ⟨p, rfl, L.1, r⟩
          | succ i => cases a1
        · intro i k2 z
          cases i with
          | zero => cases z
          | succ i => cases z
        · intro i j q k2 k3 a1 a2 a3 a4
          cases i with
          | zero =>
            cases j with
            | zero => rfl
            | succ j => cases a2
          | succ i => cases a1
        · have io : ∀ a, IoA ca [Sl.o false (.ins c' fs)] [V.ref p] a → a = p ∨ ∃ q ∈ ca.tb, q.1 = a := fun a z => by
            rcases z with ⟨i, k2, a1, a2⟩ | z
            · cases i with
              | zero => cases a2; exact .inl rfl
              | succ i => cases a1
            · exact .inr z
          have fin : ∀ {H2 : Hp}, Kept ca H1 H2 [Sl.o false (.ins c' fs)] [V.ref p] → MutO (H2 p) → (∀ q ∈ ca.tb, TbR ow1 H2 q.1 q.2) → Rel X.K ca F ow1 e1 σ H2 ∧ Stp ow1 H1 ow1 H2 ∧ Go σ ow env H ow1 e1 H2 := fun {H2} kp mu tb => by
            obtain ⟨Rc, st⟩ := R1.looseChanged L mu (fun a o h n nt t => kp.keep a o h (fun z => (io a z).elim n nt) t) kp.dom tb
            refine ⟨Rc, st, g1.stp.trans st, fun q w nt nq => ?_, fun a h => g1.dom a (kp.dom a h)⟩
            obtain ⟨w3, h3, n3⟩ := g1.lo q w nt nq
            obtain ⟨u, hu⟩ := R.trk q w
            have hq : q ≠ p := fun z => by rw [z, n] at hu; cases hu
            rw [hu] at h3
            exact ⟨w3, by rw [kp.keep q u h3 (fun z => (io q z).elim hq (R.nT nt)) (ntI hu nt), hu], n3⟩
          cases hmf : mf [.o false (.ins c' fs)] with
          | bad => rw [hmf] at g; exact g.elim
          | ex c2 outs =>
            rw [hmf] at g
            intro H2 kp oo
            obtain ⟨Rc, st, gf⟩ := fin kp ((oo.1 0 (.ins c' fs) p rfl rfl).elim fun k' h => h.2.mutO) oo.2
            exact g ow1 H2 gf Rc
          | ok rv outs =>
            rw [hmf] at g
            cases rv with
            | d x =>
              intro v H2 kp oo rp
              obtain ⟨Rc, st, gf⟩ := fin kp ((oo.1 0 (.ins c' fs) p rfl rfl).elim fun k' h => h.2.mutO) oo.2
              exact g v ow1 H2 gf Rc rp
            | o k2 =>
              intro q H2 kp hq hq' oo ro
              obtain ⟨Rc, st, gf⟩ := fin kp ((oo.1 0 (.ins c' fs) p rfl rfl).elim fun k' h => h.2.mutO) fun q' h' => (oo.2 q' h').stp (anti fun _ z => .inl z) rfl
              -- the new object is one's own
              have hqe : Gr (fun a => if a = q then none else H2 a) H2 := fun a o h => by
                by_cases z : a = q
                · simp only [if_pos z] at h; cases h
                · simp only [if_neg z] at h; exact h
              have tr : Trk (more ow1 q) H2 := fun a z => by
                rcases z with z | z
                · exact Rc.trk a z
                · rw [z]; exact hq'
              have st2 : Stp ow1 H1 (more ow1 q) H2 := fun a o h n nt => ⟨(st a o h n nt).1, fun z => by
                rcases z with z | z
                · exact n z
                · rw [z, hq] at h; cases h⟩
              have R3 : Rel X.K ca F (more ow1 q) e1 σ H2 := by
                refine R1.step rfl (fun i s' h => .inl ⟨h, fun l k3 q2 hs hq2 => ?_⟩) st2 (fun _ h => .inl h) tr (fun a z => by
                  rcases z with z | z
                  · exact Rc.knd a z
                  · rw [z]; exact .inr ro.mutO) (fun a u ha n => Rc.keep a u ha n) kp.dom oo.2
                subst hs
                obtain ⟨q3, eq, w, r3⟩ := R1.own h
                rw [hq2] at eq
                cases eq
                obtain ⟨u, hu⟩ := r3.there
                rw [kp.keep q2 u hu (fun z => (io q2 z).elim (fun z => L.2.2.2 i l k3 h (by rw [hq2, z])) (R1.nT r3.noT)) (ntI hu r3.noT), hu]
              refine g (.ref q) (more ow1 q) H2 ⟨g1.stp.trans st2, fun q2 w nt nq => ?_, gf.dom⟩ R3 ⟨q, rfl, g1.dom q hq, ro, loose_of (.inr rfl) (R1.dom q hq) (fun z => R1.free hq (R1.sub q z)) fun ⟨i, l, k3, a1, a2⟩ => ?_⟩
              · obtain ⟨a, b, c⟩ := gf.lo q2 w nt nq
                exact ⟨.inl a, b, c⟩
              · obtain ⟨q3, eq, w, r3⟩ := R1.own a1
                rw [a2] at eq
                cases eq
                obtain ⟨u, hu⟩ := r3.there
                rw [hq] at hu; cases hu
      · rw [if_neg hcc] at g; exact g.elim
end
end ML
end

section
set_option Elab.async false
set_option linter.all false
set_option maxRecDepth 100000
set_option maxHeartbeats 2000000
/-! # What each operator, built-in function and method gives, by plain data -/
namespace ML
open PySem L2
section
variable {K : PySem.W.Frag} {ca : CA} {ow : Addr → Prop} {H : Hp}
theorem sv_int {i : Int} {v : V} (r : Sl.d (.int i) ≠ .un → SvR K ca ow H (.d (.int i)) v) : v = .int i := by
  have q : Rp K ow H (.int i) v := r (by simp)
  unfold Rp at q; exact q
theorem sv_str {i : Str} {v : V} (r : Sl.d (.str i) ≠ .un → SvR K ca ow H (.d (.str i)) v) : v = .str i := by
  have q : Rp K ow H (.str i) v := r (by simp)
  unfold Rp at q; exact q
theorem sv_bool {i : Bool} {v : V} (r : Sl.d (.bool i) ≠ .un → SvR K ca ow H (.d (.bool i)) v) : v = .bl i := by
  have q : Rp K ow H (.bool i) v := r (by simp)
  unfold Rp at q; exact q
theorem sv_tup {xs : List D} {v : V} (r : Sl.d (.tuple xs) ≠ .un → SvR K ca ow H (.d (.tuple xs)) v) : ∃ a us, v = .ref a ∧ TupAt K ow H xs a us ∧ RpA K ow H xs us := by
  have q : Rp K ow H (.tuple xs) v := r (by simp)
  unfold Rp at q; exact q
theorem rp_int {i : Int} : Rp K ow H (.int i) (.int i) := by unfold Rp; rfl
theorem rp_str {i : Str} : Rp K ow H (.str i) (.str i) := by unfold Rp; rfl
theorem rp_bool {i : Bool} : Rp K ow H (.bool i) (.bl i) := by unfold Rp; rfl
theorem rp_none : Rp K ow H .none .non := by unfold Rp; rfl
end
/-! ### arithmetic -/
/-- two ints -/
def g2I (f : Int → Int → Option Int) : Sl → Sl → Option D
  | .d (.int i), .d (.int j) => (f i j).map PyData.int
  | _, _ => none
theorem ops_I {K : PySem.W.Frag} {ca : CA} {C : Int → Int → Prop} {g : Int → Int → Int} {f : Int → Int → Option Int} (h : ∀ i j z, f i j = some z → C i j ∧ g i j = z) : OpS K ca (rI C fun i j => .int (g i j)) (g2I f) := fun s t z ow H v1 v2 Q e r1 r2 tr k => by
  unfold g2I at e
  split at e
  · rename_i i j
    obtain ⟨y, ey, rfl⟩ := Option.map_eq_some_iff.mp e
    obtain ⟨hc, rfl⟩ := h i j y ey
    exact ⟨i, j, sv_int r1, sv_int r2, hc, k _ H Gr.refl rp_int⟩
  · cases e
theorem ops_I0 {K : PySem.W.Frag} {ca : CA} {g : Int → Int → Int} : OpS K ca (rI0 fun i j => .int (g i j)) (g2I fun i j => some (g i j)) := fun s t z ow H v1 v2 Q e r1 r2 tr k => by
  unfold g2I at e
  split at e
  · rename_i i j
    cases e
    exact ⟨i, j, sv_int r1, sv_int r2, k _ H Gr.refl rp_int⟩
  · cases e
def gB2 (f : Int → Int → Bool) : Sl → Sl → Option D
  | .d (.int i), .d (.int j) => some (.bool (f i j))
  | _, _ => none
theorem ops_B0 {K : PySem.W.Frag} {ca : CA} {g : Int → Int → Bool} : OpS K ca (rI0 fun i j => .bl (g i j)) (gB2 g) := fun s t z ow H v1 v2 Q e r1 r2 tr k => by
  unfold gB2 at e
  split at e
  · rename_i i j
    cases e
    exact ⟨i, j, sv_int r1, sv_int r2, k _ H Gr.refl rp_bool⟩
  · cases e
def small (i : Int) : Bool := decide (i.natAbs < 18446744073709551616)
def gMul : Sl → Sl → Option D := g2I fun i j => if small i = true ∨ small j = true then some (i * j) else none
def gDiv : Sl → Sl → Option D := g2I fun i j => if 0 < j ∧ j.natAbs < 1073741824 then some (i / j) else none
def gMod : Sl → Sl → Option D := g2I fun i j => if 0 < j then some (i % j) else none
def gPow : Sl → Sl → Option D := g2I fun i j => if 0 ≤ j ∧ j ≤ 1000000 ∧ i.natAbs < 2 ^ 64 then some (i ^ j.toNat) else none
def gSub : Sl → Sl → Option D := g2I fun i j => some (i - j)
def gLt : Sl → Sl → Option D := gB2 fun i j => decide (i < j)
def gLe : Sl → Sl → Option D := gB2 fun i j => decide (i ≤ j)
def gGt : Sl → Sl → Option D := gB2 fun i j => decide (j < i)
def gGe : Sl → Sl → Option D := gB2 fun i j => decide (j ≤ i)
section
variable {K : PySem.W.Frag} {ca : CA}
theorem s_mul : OpS K ca (rI CMul fun i j => .int (i * j)) gMul := ops_I (g := fun i j => i * j) fun i j z e => by
  obtain ⟨c, rfl⟩ := ite_some e
  refine ⟨?_, rfl⟩
  rcases c with c | c
  · have := of_decide_eq_true c
    exact .inl ⟨by omega, by omega⟩
  · have := of_decide_eq_true c
    exact .inr ⟨by omega, by omega⟩
theorem s_div : OpS K ca (rI CDiv fun i j => .int (i / j)) gDiv := ops_I (g := fun i j => i / j) fun i j z e => by
  obtain ⟨c, rfl⟩ := ite_some e
  exact ⟨⟨c.1, by omega⟩, rfl⟩
theorem s_mod : OpS K ca (rI (fun _ j => 0 < j) fun i j => .int (i % j)) gMod := ops_I (g := fun i j => i % j) fun i j z e => by
  obtain ⟨c, rfl⟩ := ite_some e
  exact ⟨c, rfl⟩
theorem s_pow : OpS K ca (rI CPow fun i j => .int (i ^ j.toNat)) gPow := ops_I (g := fun i j => i ^ j.toNat) fun i j z e => by
  obtain ⟨c, rfl⟩ := ite_some e
  exact ⟨c, rfl⟩
theorem s_sub : OpS K ca (rI0 fun i j => .int (i - j)) gSub := ops_I0 (g := fun i j => i - j)
theorem s_lt : OpS K ca (rI0 fun i j => .bl (decide (i < j))) gLt := ops_B0 (g := fun i j => decide (i < j))
theorem s_le : OpS K ca (rI0 fun i j => .bl (decide (i ≤ j))) gLe := ops_B0 (g := fun i j => decide (i ≤ j))
theorem s_gt : OpS K ca (rI0 fun i j => .bl (decide (j < i))) gGt := ops_B0 (g := fun i j => decide (j < i))
theorem s_ge : OpS K ca (rI0 fun i j => .bl (decide (j ≤ i))) gGe := ops_B0 (g := fun i j => decide (j ≤ i))
/-! ### + -/
def rAddD (K : PySem.W.Frag) : R2 := fun x y H Q => (rI0 (fun i j => .int (i + j)) x y H Q ∨ (∃ i j, x = .str i ∧ y = .str j ∧ i.length + j.length ≤ sizeLine ∧ Q (.str (i ++ j)) H)) ∨ MK.rCatZ K x y H Q
theorem op_addD {X : Cx} : OpR X (binaryOp .Add) (rAddD X.K) := OpR.or (OpR.or op_add op_add_str) MK.op_catZ
@[simp] def gAdd : Sl → Sl → Option D
  | .d (.int i), .d (.int j) => some (.int (i + j))
  | .d (.str i), .d (.str j) => if i.length + j.length ≤ LIM then some (.str (i ++ j)) else none
  | .d (.tuple xs), .d (.tuple ys) => if xs.length + ys.length ≤ LIM then some (.tuple (xs ++ ys)) else none
  | _, _ => none
theorem RpA.nil_iff {ow : Addr → Prop} {H : Hp} {xs : List D} {us : List V} (h : RpA K ow H xs us) : us = [] ↔ xs = [] := by
  have l := h.length
  constructor
  · intro e; subst e; exact List.length_eq_zero_iff.mp l
  · intro e; subst e; exact List.length_eq_zero_iff.mp l.symm
theorem s_add : OpS K ca (rAddD K) gAdd := fun s t z ow H v1 v2 Q e r1 r2 tr k => by
  unfold gAdd at e
  split at e
  · cases e
    exact .inl (.inl ⟨_, _, sv_int r1, sv_int r2, k _ H Gr.refl rp_int⟩)
  · obtain ⟨hl, rfl⟩ := ite_some e
    exact .inl (.inr ⟨_, _, sv_str r1, sv_str r2, lim_line hl, k _ H Gr.refl rp_str⟩)
  · rename_i xs ys
    obtain ⟨hl, rfl⟩ := ite_some e
    obtain ⟨a, us, rfl, ha, ra⟩ := sv_tup r1
    obtain ⟨b, ws, rfl, hb, rb⟩ := sv_tup r2
    refine .inr ⟨a, b, us, ws, rfl, rfl, ha.sq, hb.sq, lim_line (by rw [← ra.length, ← rb.length]; exact hl), fun h => k _ H Gr.refl ?_, fun h1 h2 => k _ H Gr.refl ?_, fun h1 h2 p o hc hd hp => k _ _ (Gr.new hp) ?_⟩
    · unfold Rp
      rw [(RpA.nil_iff ra).mp h, List.nil_append]
      exact ⟨b, ws, rfl, hb, rb⟩
    · unfold Rp
      rw [(RpA.nil_iff rb).mp h2, List.append_nil]
      exact ⟨a, us, rfl, ha, ra⟩
    · unfold Rp
      exact ⟨p, us ++ ws, rfl, .frz upd_same hd (fun z => by obtain ⟨o, ho⟩ := tr p z; rw [hp] at ho; cases ho), (ra.append rb).stp (Gr.new hp).stp⟩
  · cases e
/-- lists -/
@[simp] def gCat (s t : Sl) : Option (List D) := (slL s).bind fun xs => (slL t).bind fun ys => if xs.length + ys.length ≤ LIM then some (xs ++ ys) else none
theorem s_cat : OpF K ca rCat gCat := fun s t z ow H v1 v2 Q e r1 r2 tr k => by
  obtain ⟨xs, ex, e⟩ := Option.bind_eq_some_iff.mp e
  obtain ⟨ys, ey, e⟩ := Option.bind_eq_some_iff.mp e
  obtain ⟨hl, rfl⟩ := ite_some e
  obtain ⟨a, us, rfl, ha, ra⟩ := slL_ok ex r1
  obtain ⟨b, ws, rfl, hb, rb⟩ := slL_ok ey r2
  exact ⟨a, b, us, ws, rfl, rfl, ha, hb, lim_line (by rw [← ra.length, ← rb.length]; exact hl), fun p hp => k p _ hp (ra.append rb)⟩
/-! ### in place -/
theorem iop_addD {X : Cx} : OpR X (inplaceOp .Add) (fun x y H Q => rI0 (fun i j => .int (i + j)) x y H Q ∨ ∃ i j, x = .str i ∧ y = .str j ∧ i.length + j.length ≤ sizeLine ∧ Q (.str (i ++ j)) H) := OpR.or iop_add iop_add_str
@[simp] def gIAdd : Sl → Sl → Option D
  | .d (.int i), .d (.int j) => some (.int (i + j))
  | .d (.str i), .d (.str j) => if i.length + j.length ≤ LIM then some (.str (i ++ j)) else none
  | _, _ => none
theorem s_iadd : OpS K ca (fun x y H Q => rI0 (fun i j => .int (i + j)) x y H Q ∨ ∃ i j, x = .str i ∧ y = .str j ∧ i.length + j.length ≤ sizeLine ∧ Q (.str (i ++ j)) H) gIAdd := fun s t z ow H v1 v2 Q e r1 r2 tr k => by
  unfold gIAdd at e
  split at e
  · cases e
    exact .inl ⟨_, _, sv_int r1, sv_int r2, k _ H Gr.refl rp_int⟩
  · obtain ⟨hl, rfl⟩ := ite_some e
    exact .inr ⟨_, _, sv_str r1, sv_str r2, lim_line hl, k _ H Gr.refl rp_str⟩
  · cases e
/-! ### == and != of data -/
mutual
/-- without a dict -/
@[simp] def noDct : D → Bool
  | .list xs => noDctA xs
  | .tuple xs => noDctA xs
  | .dict _ => false
  | _ => true
@[simp] def noDctA : List D → Bool
  | [] => true
  | x :: xs => noDct x && noDctA xs
end
mutual
theorem dp_of {ow : Addr → Prop} {H : Hp} : ∀ (d : D) (v : V), Rp K ow H d v → noDct d = true → Dp K H v d
  | .none, v, h, _ => by unfold Rp at h; subst h; exact .non
  | .bool b, v, h, _ => by unfold Rp at h; subst h; exact .bl b
  | .int i, v, h, _ => by unfold Rp at h; subst h; exact .int i
  | .str x, v, h, _ => by unfold Rp at h; subst h; exact .str x
  | .list ds, v, h, n => by
    unfold Rp at h
    unfold noDct at n
    obtain ⟨a, us, rfl, h1, _, h2⟩ := h
    exact .lst (SqL.of h1) (dpA_of ds us h2 n)
  | .tuple ds, v, h, n => by
    unfold Rp at h
    unfold noDct at n
    obtain ⟨a, us, rfl, h1, h2⟩ := h
    exact .tup h1.sq (dpA_of ds us h2 n)
  | .dict kvs, v, h, n => by unfold noDct at n; cases n
theorem dpA_of {ow : Addr → Prop} {H : Hp} : ∀ (ds : List D) (vs : List V), RpA K ow H ds vs → noDctA ds = true → DpAll K H vs ds
  | [], vs, h, _ => by unfold RpA at h; subst h; exact .nil
  | d :: ds, vs, h, n => by
    unfold RpA at h
    unfold noDctA at n
    obtain ⟨v, us, rfl, h1, h2⟩ := h
    obtain ⟨n1, n2⟩ := Bool.and_eq_true_iff.mp n
    exact .cons (dp_of d v h1 n1) (dpA_of ds us h2 n2)
end
/-- what a slot's content is as data, for a comparison -/
@[simp] def slD : Sl → Option D
  | .d x => some x
  | .o _ (.lst xs) => some (.list xs)
  | _ => none
theorem slD_dp {ow : Addr → Prop} {H : Hp} {s : Sl} {d : D} {v : V} (e : slD s = some d) (r : s ≠ .un → SvR K ca ow H s v) (n : noDct d = true) : Dp K H v d := by
  unfold slD at e
  split at e
  · cases e; exact dp_of _ v (r (by simp)) n
  · cases e
    obtain ⟨p, rfl, w, us, h1, h2⟩ := r (by simp)
    unfold noDct at n
    exact .lst (SqL.of h1) (dpA_of _ us h2 n)
  · cases e
def eqOk (d : D) : Bool := noDct d && SeqAt.shaped d
@[simp] def gEq (neg : Bool) (s t : Sl) : Option D := (slD s).bind fun x => (slD t).bind fun y => if eqOk x = true ∧ eqOk y = true then some (.bool (neg ^^ PyData.eqv x y)) else none
theorem s_eq : OpS K ca (rEqD K) (gEq false) := fun s t z ow H v1 v2 Q e r1 r2 tr k => by
  obtain ⟨x, ex, e⟩ := Option.bind_eq_some_iff.mp e
  obtain ⟨y, ey, e⟩ := Option.bind_eq_some_iff.mp e
  obtain ⟨⟨h1, h2⟩, rfl⟩ := ite_some e
  obtain ⟨a1, a2⟩ := Bool.and_eq_true_iff.mp h1
  obtain ⟨b1, b2⟩ := Bool.and_eq_true_iff.mp h2
  exact ⟨x, y, slD_dp ex r1 a1, slD_dp ey r2 b1, a2, b2, k _ H Gr.refl (by unfold Rp; rw [Bool.false_xor])⟩
theorem s_ne : OpS K ca (rNeD K) (gEq true) := fun s t z ow H v1 v2 Q e r1 r2 tr k => by
  obtain ⟨x, ex, e⟩ := Option.bind_eq_some_iff.mp e
  obtain ⟨y, ey, e⟩ := Option.bind_eq_some_iff.mp e
  obtain ⟨⟨h1, h2⟩, rfl⟩ := ite_some e
  obtain ⟨a1, a2⟩ := Bool.and_eq_true_iff.mp h1
  obtain ⟨b1, b2⟩ := Bool.and_eq_true_iff.mp h2
  exact ⟨x, y, slD_dp ex r1 a1, slD_dp ey r2 b1, a2, b2, k _ H Gr.refl (by unfold Rp; rw [Bool.true_xor])⟩
/-! ### is None -/
@[simp] def isNone : D → Bool
  | .none => true
  | _ => false
@[simp] def gIsN (neg : Bool) (s t : Sl) : Option D := match s, t with
  | .d x, .d .none => some (.bool (neg ^^ isNone x))
  | _, _ => none
theorem rp_isN {ow : Addr → Prop} {H : Hp} {d : D} {v : V} (r : Rp K ow H d v) : decide (v = .non) = isNone d := by
  cases d with
  | none => unfold Rp at r; subst r; rfl
  | bool b => unfold Rp at r; subst r; rfl
  | int b => unfold Rp at r; subst r; rfl
  | str b => unfold Rp at r; subst r; rfl
  | list b => unfold Rp at r; obtain ⟨a, xs, rfl, _⟩ := r; rfl
  | tuple b => unfold Rp at r; obtain ⟨a, xs, rfl, _⟩ := r; rfl
  | dict b => unfold Rp at r; obtain ⟨a, xs, rfl, _⟩ := r; rfl
theorem s_isN : OpS K ca (fun x y H Q => y = .non ∧ Q (.bl (decide (x = .non))) H) (gIsN false) := fun s t z ow H v1 v2 Q e r1 r2 tr k => by
  unfold gIsN at e
  split at e
  · rename_i x
    cases e
    have q : Rp K ow H .none v2 := r2 (by simp)
    unfold Rp at q
    refine ⟨q, ?_⟩
    rw [rp_isN (r1 (by simp))]
    exact k _ H Gr.refl (by unfold Rp; rw [Bool.false_xor])
  · cases e
theorem s_notN : OpS K ca (fun x y H Q => y = .non ∧ Q (.bl (!decide (x = .non))) H) (gIsN true) := fun s t z ow H v1 v2 Q e r1 r2 tr k => by
  unfold gIsN at e
  split at e
  · rename_i x
    cases e
    have q : Rp K ow H .none v2 := r2 (by simp)
    unfold Rp at q
    refine ⟨q, ?_⟩
    rw [rp_isN (r1 (by simp))]
    exact k _ H Gr.refl (by unfold Rp; rw [Bool.true_xor])
  · cases e
/-! ### in -/
def rInA (K : PySem.W.Frag) (neg : Bool) : R2 := fun x y H Q => (∃ (c : Nat) (z : Str), x = .str ⟨#[c]⟩ ∧ y = .str z ∧ Q (.bl (neg ^^ decide (c ∈ z.cps.toList))) H) ∨ rIn K neg x y H Q
theorem op_inA {X : Cx} : OpR X (compareOp .In) (rInA X.K false) := fun pins s σ H x y v u Q I rx ry h => by
  rcases h with ⟨c, z, e1, e2, q⟩ | h
  · exact op_in_sign pins s σ H x y v u Q I rx ry ⟨c, z, e1, e2, by rw [Bool.false_xor] at q; exact q⟩
  · exact op_in_seq pins s σ H x y v u Q I rx ry h
theorem op_ninA {X : Cx} : OpR X (compareOp .NotIn) (rInA X.K true) := fun pins s σ H x y v u Q I rx ry h => by
  rcases h with ⟨c, z, e1, e2, q⟩ | h
  · exact op_notIn_sign pins s σ H x y v u Q I rx ry ⟨c, z, e1, e2, by rw [Bool.true_xor] at q; exact q⟩
  · exact op_notIn_seq pins s σ H x y v u Q I rx ry h
/-- a scalar as a value -/
def dV : D → Option V
  | .none => some .non
  | .bool b => some (.bl b)
  | .int i => some (.int i)
  | .str x => some (.str x)
  | _ => none
def dVs : List D → Option (List V)
  | [] => some []
  | d :: ds => (dV d).bind fun v => (dVs ds).map fun vs => v :: vs
@[simp] def seqOf : Sl → Option (List D)
  | .d (.list xs) => some xs
  | .d (.tuple xs) => some xs
  | .o _ (.lst xs) => some xs
  | _ => none
theorem seqOf_ok {ow : Addr → Prop} {H : Hp} {s : Sl} {v : V} {xs : List D} (h : seqOf s = some xs) (r : s ≠ .un → SvR K ca ow H s v) : ∃ a us, v = .ref a ∧ (SqL K H a us ∨ SqT K H a us) ∧ RpA K ow H xs us := by
  unfold seqOf at h
  split at h
  · cases h
    have q : Rp K ow H (.list xs) v := r (by simp)
    unfold Rp at q
    obtain ⟨a, us, e, h1, _, h2⟩ := q
    exact ⟨a, us, e, .inl (SqL.of h1), h2⟩
  · cases h
    obtain ⟨a, us, e, h1, h2⟩ := sv_tup r
    exact ⟨a, us, e, .inr h1.sq, h2⟩
  · cases h
    obtain ⟨p, e, w, us, h1, h2⟩ := r (by simp)
    exact ⟨p, us, e, .inl (SqL.of h1), h2⟩
  · cases h
theorem dV_ok {ow : Addr → Prop} {H : Hp} {d : D} {v u : V} (h : dV d = some u) (r : Rp K ow H d v) : v = u ∧ flatV u = true := by
  cases d <;> first | (cases h; unfold Rp at r; exact ⟨r, rfl⟩) | cases h
theorem dVs_ok {ow : Addr → Prop} {H : Hp} : ∀ {ds : List D} {vs us : List V}, dVs ds = some us → RpA K ow H ds vs → vs = us ∧ us.all flatV = true
  | [], _, _, h, r => by
    cases h
    unfold RpA at r
    exact ⟨r, rfl⟩
  | d :: ds, _, _, h, r => by
    unfold dVs at h
    obtain ⟨v, hv, h⟩ := Option.bind_eq_some_iff.mp h
    obtain ⟨vs, hvs, rfl⟩ := Option.map_eq_some_iff.mp h
    unfold RpA at r
    obtain ⟨w, ws, rfl, r1, r2⟩ := r
    obtain ⟨rfl, f1⟩ := dV_ok hv r1
    obtain ⟨rfl, f2⟩ := dVs_ok hvs r2
    exact ⟨rfl, by rw [List.all_cons, f1, f2]; rfl⟩
@[simp] def gIn (neg : Bool) (s t : Sl) : Option D := match s, t with
  | .d (.str x), .d (.str z) => match x.cps.toList with
    | [c] => some (.bool (neg ^^ decide (c ∈ z.cps.toList)))
    | _ => none
  | .d x, t => (dV x).bind fun v => (seqOf t).bind fun ds => (dVs ds).map fun us => .bool (if neg then !inV v us else inV v us)
  | _, _ => none
theorem s_in {neg : Bool} : OpS K ca (rInA K neg) (gIn neg) := fun s t z ow H v1 v2 Q e r1 r2 tr k => by
  unfold gIn at e
  split at e
  · rename_i x z'
    split at e
    · rename_i c hc
      cases e
      have hx : x = ⟨#[c]⟩ := by
        obtain ⟨cps⟩ := x
        have : cps = #[c] := by rw [← Array.toArray_toList (xs := cps)]; rw [show cps.toList = [c] from hc]
        rw [this]
      refine .inl ⟨c, z', ?_, sv_str r2, k _ H Gr.refl rp_bool⟩
      rw [← hx]; exact sv_str r1
    · cases e
  · rename_i x
    obtain ⟨v, hv, e⟩ := Option.bind_eq_some_iff.mp e
    obtain ⟨ds, hds, e⟩ := Option.bind_eq_some_iff.mp e
    obtain ⟨us, hus, rfl⟩ := Option.map_eq_some_iff.mp e
    obtain ⟨a, ws, rfl, ha, ra⟩ := seqOf_ok hds r2
    obtain ⟨rfl, f1⟩ := dV_ok hv (r1 (by simp))
    obtain ⟨rfl, f2⟩ := dVs_ok hus ra
    exact .inr ⟨a, ws, rfl, ha, f1, f2, k _ H Gr.refl rp_bool⟩
  · cases e
/-! ### negation -/
@[simp] def gNeg : Sl → Option D
  | .d (.int i) => some (.int (-i))
  | _ => none
end
def e1 (g : Sl → Option D) (m : M D) : M D := bind m fun x => lift (g (.d x))
theorem me_neg {ca : CA} {X : Cx} {a : Expr} {pos : Pos} {m : M D} (h : ME ca X a m) : ME ca X (.UnaryOp .USub a pos) (e1 gNeg m) := fun F W tk => PE.imp (pe_un un_neg (h F W tk)) fun σ H Q ⟨ow, env, R, g⟩ => go_bind R g fun x e1 v ow1 H1 g1 R1 p1 q1 => by
  obtain ⟨z, ez, q⟩ := lift_go q1
  unfold gNeg at ez
  split at ez
  · rename_i i hi
    cases ez
    cases hi
    have p1' : Rp X.K ow1 H1 (.int i) v := p1
    unfold Rp at p1'
    exact ⟨i, p1', go_val R1 q Gr.refl rp_int⟩
  · cases ez
/-! ### built-in functions -/
section
variable {K : PySem.W.Frag} {ca : CA}
theorem sva1 {ow : Addr → Prop} {H : Hp} {s : Sl} {vs : List V} (h : SvA K ca ow H [s] vs) : ∃ v, vs = [v] ∧ (s ≠ .un → SvR K ca ow H s v) := by
  unfold SvA at h
  obtain ⟨v, us, rfl, h1, t⟩ := h
  unfold SvA at t
  subst t
  exact ⟨v, rfl, h1⟩
theorem sva2 {ow : Addr → Prop} {H : Hp} {s t : Sl} {vs : List V} (h : SvA K ca ow H [s, t] vs) : ∃ v w, vs = [v, w] ∧ (s ≠ .un → SvR K ca ow H s v) ∧ (t ≠ .un → SvR K ca ow H t w) := by
  unfold SvA at h
  obtain ⟨v, us, rfl, h1, t⟩ := h
  obtain ⟨w, rfl, h2⟩ := sva1 t
  exact ⟨v, w, rfl, h1, h2⟩
@[simp] def bLen : List Sl → Option D
  | [.d (.str z)] => if z.length ≤ LIM then some (.int z.length) else none
  | [.sc ns] => some (.int ns.length)
  | [s] => (seqOf s).map fun xs => .int xs.length
  | _ => none
theorem b_len : BltS K ca (fun xs H Q => ∃ x n, xs = [x] ∧ LenV K x H n ∧ Q (.int n) H) bLen := fun ss z ow H vs Q e h tr k => by
  unfold bLen at e
  split at e
  · obtain ⟨hl, rfl⟩ := ite_some e
    obtain ⟨v, rfl, r⟩ := sva1 h
    have ev := sv_str r
    subst ev
    exact ⟨_, _, rfl, ⟨lim_line hl, rfl⟩, k _ H Gr.refl rp_int⟩
  · rename_i ns
    cases e
    obtain ⟨v, rfl, r⟩ := sva1 h
    obtain ⟨a, rfl, h1⟩ := r (by simp)
    exact ⟨_, ns.length, rfl, .inl ⟨_, h1.sq, by rw [List.length_map]⟩, k _ H Gr.refl rp_int⟩
  · rename_i s _ _
    obtain ⟨xs, hx, rfl⟩ := Option.map_eq_some_iff.mp e
    obtain ⟨v, rfl, r⟩ := sva1 h
    obtain ⟨a, us, rfl, h1, h2⟩ := seqOf_ok hx r
    refine ⟨_, xs.length, rfl, ?_, k _ H Gr.refl rp_int⟩
    rcases h1 with h1 | h1
    · exact .inl ⟨us, h1, h2.length⟩
    · exact .inr ⟨us, h1, h2.length⟩
  · cases e
@[simp] def bInt : List Sl → Option D
  | [.d (.int i)] => some (.int i)
  | [.d (.bool b)] => some (.int (if b then 1 else 0))
  | _ => none
theorem b_int : BltS K ca (fun xs H Q => (∃ i, xs = [.int i] ∧ Q (.int i) H) ∨ ∃ k, xs = [.bl k] ∧ Q (.int (if k then 1 else 0)) H) bInt := fun ss z ow H vs Q e h tr k => by
  unfold bInt at e
  split at e
  · cases e
    obtain ⟨v, rfl, r⟩ := sva1 h
    have ev := sv_int r
    subst ev
    exact .inl ⟨_, rfl, k _ H Gr.refl rp_int⟩
  · cases e
    obtain ⟨v, rfl, r⟩ := sva1 h
    have ev := sv_bool r
    subst ev
    exact .inr ⟨_, rfl, k _ H Gr.refl rp_int⟩
  · cases e
@[simp] def bAbs : List Sl → Option D
  | [.d (.int i)] => some (.int (if i < 0 then -i else i))
  | _ => none
theorem b_abs : BltS K ca (fun xs H Q => ∃ i, xs = [.int i] ∧ Q (.int (if i < 0 then -i else i)) H) bAbs := fun ss z ow H vs Q e h tr k => by
  unfold bAbs at e
  split at e
  · cases e
    obtain ⟨v, rfl, r⟩ := sva1 h
    have ev := sv_int r
    subst ev
    exact ⟨_, rfl, k _ H Gr.refl rp_int⟩
  · cases e
def bOrd : List Sl → Option D
  | [.d (.str x)] => if x.length = 1 then some (.int (x.cps.getD 0 0 : Nat)) else none
  | _ => none
theorem b_ord : BltS K ca (fun xs H Q => ∃ x, xs = [.str x] ∧ x.length = 1 ∧ Q (.int (x.cps.getD 0 0 : Nat)) H) bOrd := fun ss z ow H vs Q e h tr k => by
  unfold bOrd at e
  split at e
  · obtain ⟨hl, rfl⟩ := ite_some e
    obtain ⟨v, rfl, r⟩ := sva1 h
    have ev := sv_str r
    subst ev
    exact ⟨_, rfl, hl, k _ H Gr.refl rp_int⟩
  · cases e
def bMin : List Sl → Option D
  | [.d (.int i), .d (.int j)] => some (.int (if j < i then j else i))
  | _ => none
theorem b_min : BltS K ca (fun xs H Q => ∃ i j, xs = [.int i, .int j] ∧ Q (.int (if j < i then j else i)) H) bMin := fun ss z ow H vs Q e h tr k => by
  unfold bMin at e
  split at e
  · cases e
    obtain ⟨v, w, rfl, r, r2⟩ := sva2 h
    have ev := sv_int r
    have ew := sv_int r2
    subst ev ew
    exact ⟨_, _, rfl, k _ H Gr.refl rp_int⟩
  · cases e
def bMax : List Sl → Option D
  | [.d (.int i), .d (.int j)] => some (.int (if j > i then j else i))
  | _ => none
theorem b_max : BltS K ca (fun xs H Q => ∃ i j, xs = [.int i, .int j] ∧ Q (.int (if j > i then j else i)) H) bMax := fun ss z ow H vs Q e h tr k => by
  unfold bMax at e
  split at e
  · cases e
    obtain ⟨v, w, rfl, r, r2⟩ := sva2 h
    have ev := sv_int r
    have ew := sv_int r2
    subst ev ew
    exact ⟨_, _, rfl, k _ H Gr.refl rp_int⟩
  · cases e
/-- ints, bools of a list -/
@[simp] def dInts : List D → Option (List Int)
  | [] => some []
  | .int i :: r => (dInts r).map fun is => i :: is
  | _ => none
@[simp] def dBools : List D → Option (List Bool)
  | [] => some []
  | .bool i :: r => (dBools r).map fun is => i :: is
  | _ => none
@[simp] def dStrs : List D → Option (List Str)
  | [] => some []
  | .str i :: r => (dStrs r).map fun is => i :: is
  | _ => none
theorem dInts_ok {ow : Addr → Prop} {H : Hp} : ∀ {ds : List D} {vs : List V} {is : List Int}, dInts ds = some is → RpA K ow H ds vs → vs = is.map V.int
  | [], _, _, h, r => by cases h; unfold RpA at r; exact r
  | .int i :: ds, _, _, h, r => by
    unfold dInts at h
    obtain ⟨js, hj, rfl⟩ := Option.map_eq_some_iff.mp h
    unfold RpA at r
    obtain ⟨v, us, rfl, r1, r2⟩ := r
    unfold Rp at r1
    rw [r1, dInts_ok hj r2]; rfl
theorem dBools_ok {ow : Addr → Prop} {H : Hp} : ∀ {ds : List D} {vs : List V} {is : List Bool}, dBools ds = some is → RpA K ow H ds vs → vs = is.map V.bl
  | [], _, _, h, r => by cases h; unfold RpA at r; exact r
  | .bool i :: ds, _, _, h, r => by
    unfold dBools at h
    obtain ⟨js, hj, rfl⟩ := Option.map_eq_some_iff.mp h
    unfold RpA at r
    obtain ⟨v, us, rfl, r1, r2⟩ := r
    unfold Rp at r1
    rw [r1, dBools_ok hj r2]; rfl
theorem dStrs_ok {ow : Addr → Prop} {H : Hp} : ∀ {ds : List D} {vs : List V} {is : List Str}, dStrs ds = some is → RpA K ow H ds vs → vs = is.map V.str
  | [], _, _, h, r => by cases h; unfold RpA at r; exact r
  | .str i :: ds, _, _, h, r => by
    unfold dStrs at h
    obtain ⟨js, hj, rfl⟩ := Option.map_eq_some_iff.mp h
    unfold RpA at r
    obtain ⟨v, us, rfl, r1, r2⟩ := r
    unfold Rp at r1
    rw [r1, dStrs_ok hj r2]; rfl
@[simp] def bSum : List Sl → Option D
  | [s] => (slL s).bind fun xs => (dInts xs).map fun is => .int is.sum
  | _ => none
theorem b_sum : BltS K ca (rSum K) bSum := fun ss z ow H vs Q e h tr k => by
  unfold bSum at e
  split at e
  · obtain ⟨xs, hx, e⟩ := Option.bind_eq_some_iff.mp e
    obtain ⟨is, hi, rfl⟩ := Option.map_eq_some_iff.mp e
    obtain ⟨v, rfl, r⟩ := sva1 h
    obtain ⟨a, us, rfl, h1, h2⟩ := slL_ok hx r
    exact ⟨a, is, rfl, by rw [← dInts_ok hi h2]; exact SqL.of h1, k _ H Gr.refl rp_int⟩
  · cases e
@[simp] def bAll : List Sl → Option D
  | [s] => (slL s).bind fun xs => (dBools xs).map fun is => .bool (is.all id)
  | _ => none
theorem b_all : BltS K ca (rAll K) bAll := fun ss z ow H vs Q e h tr k => by
  unfold bAll at e
  split at e
  · obtain ⟨xs, hx, e⟩ := Option.bind_eq_some_iff.mp e
    obtain ⟨is, hi, rfl⟩ := Option.map_eq_some_iff.mp e
    obtain ⟨v, rfl, r⟩ := sva1 h
    obtain ⟨a, us, rfl, h1, h2⟩ := slL_ok hx r
    exact ⟨a, is, rfl, by rw [← dBools_ok hi h2]; exact SqL.of h1, k _ H Gr.refl rp_bool⟩
  · cases e
def bListOf : List Sl → Option (List D)
  | [s] => seqOf s
  | _ => none
theorem b_list : BltF K ca (fun xs H Q => ∃ p ys, xs = [.ref p] ∧ (SqL K H p ys ∨ SqT K H p ys) ∧ ∀ l, H l = none → Q (.ref l) (upd H l (.lst ys))) bListOf := fun ss z ow H vs Q e h tr k => by
  unfold bListOf at e
  split at e
  · obtain ⟨v, rfl, r⟩ := sva1 h
    obtain ⟨a, us, rfl, h1, h2⟩ := seqOf_ok e r
    exact ⟨a, us, rfl, h1, fun l hl => k l us hl h2⟩
  · cases e
@[simp] def bTupOf : List Sl → Option D
  | [s] => (seqOf s).map PyData.tuple
  | _ => none
theorem b_tup : BltS K ca (fun xs H Q => ∃ p ys, xs = [.ref p] ∧ ((SqL K H p ys ∧ MK.NewT ys H Q) ∨ (SqT K H p ys ∧ Q (.ref p) H))) bTupOf := fun ss z ow H vs Q e h tr k => by
  unfold bTupOf at e
  split at e
  · obtain ⟨xs, hx, rfl⟩ := Option.map_eq_some_iff.mp e
    obtain ⟨v, rfl, r⟩ := sva1 h
    have new : ∀ {a : Addr} {us : List V}, RpA K ow H xs us → MK.NewT us H Q := fun {a us} h2 l o hc hd hl => k _ _ (Gr.new hl) (by
      unfold Rp
      exact ⟨l, us, rfl, .frz upd_same hd (fun z => by obtain ⟨o, ho⟩ := tr l z; rw [hl] at ho; cases ho), h2.stp (Gr.new hl).stp⟩)
    unfold seqOf at hx
    split at hx
    · cases hx
      have q : Rp K ow H (.list xs) v := r (by simp)
      unfold Rp at q
      obtain ⟨a, us, rfl, h1, _, h2⟩ := q
      exact ⟨a, us, rfl, .inl ⟨SqL.of h1, new (a := a) h2⟩⟩
    · cases hx
      obtain ⟨a, us, rfl, h1, h2⟩ := sv_tup r
      exact ⟨a, us, rfl, .inr ⟨h1.sq, k _ H Gr.refl (by unfold Rp; exact ⟨a, us, rfl, h1, h2⟩)⟩⟩
    · cases hx
      obtain ⟨p, rfl, w, us, h1, h2⟩ := r (by simp)
      exact ⟨p, us, rfl, .inl ⟨SqL.of h1, new (a := p) h2⟩⟩
    · cases hx
  · cases e
end
/-! ### isinstance -/
@[simp] def tyName : D → String
  | .none => "NoneType"
  | .bool _ => "bool"
  | .int _ => "int"
  | .str _ => "str"
  | .list _ => "list"
  | .tuple _ => "tuple"
  | .dict _ => "dict"
/-- of a built-in type -/
@[simp] def isTy (T : String) (d : D) : Bool := tyName d == T || (T == "int" && tyName d == "bool")
def TyKnown (T : String) : Prop := ∀ n ∈ ["NoneType", "bool", "int", "str", "list", "tuple", "dict"], kitB n T = some (n == T || (T == "int" && n == "bool"))
theorem tyK_int : TyKnown "int" := by intro n hn; revert n; decide +kernel
theorem tyK_bool : TyKnown "bool" := by intro n hn; revert n; decide +kernel
theorem tyK_str : TyKnown "str" := by intro n hn; revert n; decide +kernel
theorem tyK_list : TyKnown "list" := by intro n hn; revert n; decide +kernel
theorem tyK_tuple : TyKnown "tuple" := by intro n hn; revert n; decide +kernel
theorem tyK_dict : TyKnown "dict" := by intro n hn; revert n; decide +kernel
theorem tyName_mem (d : D) : tyName d ∈ ["NoneType", "bool", "int", "str", "list", "tuple", "dict"] := by cases d <;> simp [tyName]
theorem tyX_of {K : PySem.W.Frag} {ow : Addr → Prop} {H : Hp} {d : D} {v : V} (r : Rp K ow H d v) : TyX K H v (.type (tyName d)) := by
  cases d with
  | none => unfold Rp at r; subst r; exact .base .non
  | bool b => unfold Rp at r; subst r; exact .base (.bl b)
  | int b => unfold Rp at r; subst r; exact .base (.int b)
  | str b => unfold Rp at r; subst r; exact .base (.str b)
  | list b => unfold Rp at r; obtain ⟨a, xs, rfl, h, _⟩ := r; exact .base (.lst h)
  | tuple b =>
    unfold Rp at r
    obtain ⟨a, xs, rfl, h, _⟩ := r
    rcases h.at_ with ⟨h, _⟩ | ⟨o, h, _⟩ | ⟨o, its, n, h, c, _⟩
    · exact .base (.tup h)
    · exact .fTuple h
    · exact .kTuple h c
  | dict b => unfold Rp at r; obtain ⟨a, xs, rfl, h, _⟩ := r; exact .base (.dK h)
/-- isinstance(e, T) -/
def eIsi (T : String) (m : M D) : M D := bind m fun x => ret (.bool (isTy T x))
theorem me_isi {ca : CA} {X : Cx} {e : Expr} {p p2 pos : Pos} {T : String} {m : M D} (h : ME ca X e m) (hm : X.mg "isinstance" = none) (hmT : X.mg (Str.ofString T) = none) (hT : TyKnown T) (hb : bootBuiltins (Str.ofString T) = some (.type T)) (hg : Gl X "isinstance" := by rfl) (hgT : Gl X (Str.ofString T) := by rfl)
    (hnT : (Str.ofString T) ≠ "__name__" := by decide) (hdT : ((Str.ofString T) == ("__debug__" : Str)) = false := by decide)
    (he1 : starEach [e, .Name (Str.ofString T) p2] X.env = (false, eval e X.env) :: starEach [.Name (Str.ofString T) p2] X.env := by rfl) (he2 : starEach [.Name (Str.ofString T) p2] X.env = (false, eval (.Name (Str.ofString T) p2) X.env) :: starEach [] X.env := by rfl)
    (hpl : (backTo pos (starEach [.Name (Str.ofString T) p2] X.env)).any (·.1) = false := by rfl) :
    ME ca X (.Call (.Name "isinstance" p) [e, .Name (Str.ofString T) p2] [] pos) (eIsi T m) := fun F W tk =>
  PE.imp (pe_callB call_isi hg hm (by decide +kernel) (pa_cons (h F W tk) (pa_cons (pe_bltn (v := .ty T) hgT hmT hb rfl hnT hdT) pa_nil he2) he1) (by decide) (by decide) he1 hpl) fun σ H Q ⟨ow, env, R, g⟩ => go_bind R g fun x e1 v ow1 H1 g1 R1 p1 q1 =>
    ⟨v, .ty T, .type (tyName x), .type T, _, rfl, .ty T, tyX_of p1, kit_ty (hT _ (tyName_mem x)), q1 _ ow1 H1 Go.refl R1 rp_bool⟩
end ML
end

section
set_option Elab.async false
set_option linter.all false
set_option maxRecDepth 100000
set_option maxHeartbeats 2000000
/-! # Names of the module, chains, subscripts, slices, strings -/
namespace ML
open PySem L2
/-! ### a module's constant -/
theorem me_gl {ca : CA} {X : Cx} {pos : Pos} {x : Str} {v : V} {u : Value} {d : D} (hm : X.mg x = some u) (r : RelV v u) (rp : ∀ ow H, Rp X.K ow H d v) (hg : Gl X x := by rfl) (hd : (x == ("__debug__" : Str)) = false := by decide) : ME ca X (.Name x pos) (eC d) := fun F W _ =>
  PE.imp (pe_glob hg hm r hd) fun σ H Q h => go_pure (H := H) (v := v) ⟨_, _, h.choose_spec.choose_spec.1, h.choose_spec.choose_spec.2⟩ fun ow => rp ow H
section
variable {K : PySem.W.Frag} {ca : CA}
theorem rg_int {i : Int} (ow : Addr → Prop) (H : Hp) : Rp K ow H (.int i) (.int i) := rp_int
theorem rg_str {i : Str} (ow : Addr → Prop) (H : Hp) : Rp K ow H (.str i) (.str i) := rp_str
/-! ### subscripts -/
@[simp] def ixD (xs : List D) : Sl → Option D
  | .d (.int i) => atI xs i
  | _ => none
@[simp] def gIx : Sl → Sl → Option D
  | .d (.str z), .d (.int i) => if z.length ≤ LIM then (atI z.cps.toList i).map fun c => .str (sign c) else none
  | .sc ns, .d (.int i) => (atI ns i).map PyData.int
  | s, t => (seqOf s).bind fun xs => ixD xs t
theorem atI_map {α β : Type} {f : α → β} {xs : List α} {i : Int} : atI (xs.map f) i = (atI xs i).map f := by
  unfold atI
  rw [List.length_map]
  cases ixN xs.length i with
  | none => rfl
  | some j => simp
theorem RpA.atI {ow : Addr → Prop} {H : Hp} {xs : List D} {us : List V} {i : Int} {d : D} (h : RpA K ow H xs us) (e : atI xs i = some d) : ∃ v, L2.atI us i = some v ∧ Rp K ow H d v := by
  unfold L2.atI at e
  obtain ⟨j, hj, e⟩ := Option.bind_eq_some_iff.mp e
  have hl : j < us.length := by rw [← h.length]; exact (List.getElem?_eq_some_iff.mp e).1
  obtain ⟨v, hv⟩ := some_of_lt hl
  refine ⟨v, ?_, h.get e hv⟩
  unfold L2.atI
  rw [← h.length, hj]
  exact hv
theorem ite_opt {α : Type} {c : Prop} [Decidable c] {x : Option α} {z : α} (h : (if c then x else none) = some z) : c ∧ x = some z := by
  by_cases q : c
  · rw [if_pos q] at h; exact ⟨q, h⟩
  · rw [if_neg q] at h; cases h
theorem s_ix : OpS K ca (rIx K) gIx := fun s t z ow H v1 v2 Q e r1 r2 tr k => by
  unfold gIx at e
  split at e
  · obtain ⟨hl, e⟩ := ite_opt e
    obtain ⟨c, hc, rfl⟩ := Option.map_eq_some_iff.mp e
    exact .inr (.inr ⟨_, _, c, sv_str r1, sv_int r2, lim_line hl, hc, k _ H Gr.refl rp_str⟩)
  · rename_i ns i
    obtain ⟨c, hc, rfl⟩ := Option.map_eq_some_iff.mp e
    obtain ⟨a, rfl, h1⟩ := r1 (by simp)
    exact .inl ⟨a, _, i, .int c, rfl, sv_int r2, h1.sq, by rw [atI_map, hc]; rfl, k _ H Gr.refl rp_int⟩
  · obtain ⟨xs, hx, e⟩ := Option.bind_eq_some_iff.mp e
    unfold ixD at e
    split at e
    · obtain ⟨a, us, rfl, h1, h2⟩ := seqOf_ok hx r1
      obtain ⟨v, hv, rv⟩ := h2.atI e
      rcases h1 with h1 | h1
      · exact .inl ⟨a, us, _, v, rfl, sv_int r2, h1, hv, k v H Gr.refl rv⟩
      · exact .inr (.inl ⟨a, us, _, v, rfl, sv_int r2, h1, hv, k v H Gr.refl rv⟩)
    · cases e
/-! ### slices -/
def cut {α : Type} (xs : List α) (lo hi : Option Int) : List α := (xs.drop (HT.sIx xs.length 0 lo)).take (HT.sIx xs.length xs.length hi - HT.sIx xs.length 0 lo)
theorem RpA.drop {ow : Addr → Prop} {H : Hp} : ∀ {xs : List D} {us : List V} (n : Nat), RpA K ow H xs us → RpA K ow H (xs.drop n) (us.drop n)
  | _, _, 0, h => h
  | [], _, n + 1, h => by
    unfold RpA at h
    subst h
    show RpA K ow H [] []
    unfold RpA; rfl
  | x :: xs, _, n + 1, h => by
    unfold RpA at h
    obtain ⟨u, us, rfl, h1, h2⟩ := h
    exact RpA.drop n h2
theorem RpA.take {ow : Addr → Prop} {H : Hp} : ∀ {xs : List D} {us : List V} (n : Nat), RpA K ow H xs us → RpA K ow H (xs.take n) (us.take n)
  | xs, us, 0, h => by
    show RpA K ow H [] []
    unfold RpA; rfl
  | [], _, n + 1, h => by
    unfold RpA at h
    subst h
    show RpA K ow H [] []
    unfold RpA; rfl
  | x :: xs, _, n + 1, h => by
    unfold RpA at h
    obtain ⟨u, us, rfl, h1, h2⟩ := h
    show RpA K ow H (x :: xs.take n) (u :: us.take n)
    unfold RpA
    exact ⟨u, _, rfl, h1, RpA.take n h2⟩
theorem RpA.cut {ow : Addr → Prop} {H : Hp} {xs : List D} {us : List V} {lo hi : Option Int} (h : RpA K ow H xs us) : RpA K ow H (ML.cut xs lo hi) (cutV us lo hi) := by
  unfold ML.cut cutV
  rw [h.length]
  exact (h.drop _).take _
theorem RpA.reverse {ow : Addr → Prop} {H : Hp} : ∀ {xs : List D} {us : List V}, RpA K ow H xs us → RpA K ow H xs.reverse us.reverse
  | [], _, h => by
    unfold RpA at h
    subst h
    show RpA K ow H [] []
    unfold RpA; rfl
  | x :: xs, _, h => by
    unfold RpA at h
    obtain ⟨u, us, rfl, h1, h2⟩ := h
    rw [List.reverse_cons, List.reverse_cons]
    exact RpA.snoc h1 h2.reverse
/-- a slice of a list: a new one -/
def gSlL (s : Sl) (lo hi : Option Int) : Option (List D) := (slL s).map fun xs => cut xs lo hi
theorem s_slL : SlF K ca (rSlL K) gSlL := fun s lo hi z ow H v Q e r tr k => by
  obtain ⟨xs, hx, rfl⟩ := Option.map_eq_some_iff.mp e
  obtain ⟨a, us, rfl, h1, h2⟩ := slL_ok hx r
  exact ⟨a, us, rfl, SqL.of h1, fun p hp => k p _ hp h2.cut⟩
/-- .. of a tuple -/
@[simp] def gSlT : Sl → Option Int → Option Int → Option D
  | .d (.tuple xs), lo, hi => some (.tuple (cut xs lo hi))
  | _, _, _ => none
theorem s_slT : SlS K ca (MK.rSlZ K) gSlT := fun s lo hi z ow H v Q e r tr k => by
  unfold gSlT at e
  split at e
  · rename_i xs
    cases e
    obtain ⟨a, us, rfl, ha, ra⟩ := sv_tup r
    refine ⟨a, us, rfl, ha.sq, fun hw => k _ H Gr.refl ?_, fun hw p o hc hd hp => k _ _ (Gr.new hp) ?_⟩
    · have e : cut xs lo hi = xs := by
        unfold cut
        rw [ra.length, hw.1, hw.2, List.drop_zero, Nat.sub_zero]
        exact List.take_of_length_le (by rw [ra.length]; exact Nat.le_refl _)
      unfold Rp
      rw [e]
      exact ⟨a, us, rfl, ha, ra⟩
    · unfold Rp
      exact ⟨p, _, rfl, .frz upd_same hd (fun z => by obtain ⟨o, ho⟩ := tr p z; rw [hp] at ho; cases ho), (ra.cut).stp (Gr.new hp).stp⟩
  · cases e
/-- .. of a text -/
def gSlS : Sl → Option Int → Option Int → Option D
  | .d (.str z), lo, hi => if z.length ≤ LIM then some (.str (cutS z lo hi)) else none
  | _, _, _ => none
theorem s_slS : SlS K ca rSlS gSlS := fun s lo hi z ow H v Q e r tr k => by
  unfold gSlS at e
  split at e
  · obtain ⟨hl, rfl⟩ := ite_some e
    exact ⟨_, sv_str r, lim_line hl, k _ H Gr.refl rp_str⟩
  · cases e
end
/-! ### a op b op c -/
def eChain (g g' : Sl → Sl → Option D) (ma mb mc : M AV) : M D := bind ma fun a => bind mb fun b => fun e => match (g (content e a) (content e b)).bind dB with
  | some true => bind mc (fun c => fun e => lift (g' (content e b) (content e c)) e) e
  | some false => .ok (.bool false) e
  | none => .bad
theorem me_chain {ca : CA} {X : Cx} {a b c : Expr} {pos : Pos} {op op' : CmpOp} {r r' : R2} {g g' : Sl → Sl → Option D} {ma mb mc : M AV} (ho : OpR X (compareOp op) r) (hs : OpS X.K ca r g) (ho' : OpR X (compareOp op') r') (hs' : OpS X.K ca r' g') (ha : MQ ca X a ma) (hb : MQ ca X b mb) (hc : MQ ca X c mc)
    (hm : lastMarks [op, op'] [b, c] = false := by with_unfolding_all rfl) : ME ca X (.Compare a [op, op'] [b, c] pos) (eChain g g' ma mb mc) := fun F W tk =>
  PE.imp (pe_chain ho ho' (ha F W tk) (hb F W tk) (hc F W tk) hm) fun σ H Q ⟨ow, env, R, gg⟩ =>
    go_bind R gg fun x e1 v1 ow1 H1 g1 R1 p1 q1 => go_bind R1 q1 fun y e2 v2 ow2 H2 g2 R2 p2 q2 => by
      cases hd : (g (content e2 x) (content e2 y)).bind dB with
      | none => simp only [hd] at q2; exact q2.elim
      | some k =>
        obtain ⟨d, ed, ez⟩ := Option.bind_eq_some_iff.mp hd
        have ed' := dB_some ez
        subst ed'
        refine hs _ _ _ ow2 H2 v1 v2 _ ed (fun n => (p1.1.go g2).sv R2 n) (fun n => p2.1.sv R2 n) R2.trk fun v H' gr rp => ?_
        unfold Rp at rp
        refine ⟨k, rp, ?_⟩
        have R3 := R2.gr gr
        have g3 := Go.gr R2 gr
        cases k with
        | true =>
          rw [if_pos rfl]
          simp only [hd] at q2
          exact go_bind R3 (q2.mono g3) fun z e4 v4 ow4 H4 g4 R4 p4 q4 => by
            obtain ⟨w, ew, q⟩ := lift_go q4
            exact hs' _ _ w ow4 H4 v2 v4 Q ew (fun n => ((p2.1.go g3).go g4).sv R4 n) (fun n => p4.1.sv R4 n) R4.trk fun v H' gr rp => go_val R4 q gr rp
        | false =>
          rw [if_neg Bool.false_ne_true]
          simp only [hd] at q2
          exact q2 (.bl false) ow2 H' g3 R3 (by show Rp _ _ _ (.bool false) _; unfold Rp; rfl)
end ML
end

section
set_option Elab.async false
set_option linter.all false
set_option maxRecDepth 100000
set_option maxHeartbeats 2000000
/-! # list(reversed(tuple)), tuple[::-1], at the library's level -/
namespace RT
open PySem PySem.Spec PyProof.Rows L2
theorem nolen_rt : typeLookup (.type "reversed") "__len__" = pure none := by rw [typeLookup_type, builtinLookup_eq_fast]; kernel_rfl
theorem hint_rt : typeLookup (.type "reversed") "__length_hint__" = pure (some (.builtin "reversed.__length_hint__")) := by rw [typeLookup_type, builtinLookup_eq_fast]; kernel_rfl
section
variable {prog : Program} {w : World} {A : Around} {E : Value → Shared → Prop} {s : Shared}
theorem IsTup.at' {h h' : Heap} {t : Addr} {items : Array Value} (x : IsTup h t items) (k : ∀ o, h.get? t = some o → h'.get? t = some o) : IsTup h' t items := let ⟨o, ho, r⟩ := x; ⟨o, k _ ho, r⟩
theorem walks_rt (hh : A.handled = none) (it t : Addr) (hne : t ≠ it) (items : Array Value) (hsz : items.size ≤ sizeLine) :
    Walks prog w A it [it, t] [it] items.size (fun i v => items[items.size - 1 - i]? = some v) (fun i h => i ≤ items.size ∧ IsRt h it t ((items.size : Int) - 1 - (i : Int)) ∧ IsTup h t items) where
  sub := fun b hb => by simp at hb; simp [hb]
  frame := fun _ _ _ x hk => ⟨x.1, x.2.1.at fun o e => hk it (by simp) o e, IsTup.at' x.2.2 fun o e => hk t (by simp) o e⟩
  item := fun i s Q E hi x hQ => by
    have e : (items.size : Int) - 1 - (i : Int) = ((items.size - 1 - i : Nat) : Int) := by omega
    have hit := x.2.1
    rw [e] at hit
    have hx : items[items.size - 1 - i]? = some (items[items.size - 1 - i]'(by omega)) := Array.getElem?_eq_getElem (by omega)
    refine next_rt_item hit x.2.2 hx hsz fun h' hit' hs' => ?_
    have e2 : ((items.size - 1 - i : Nat) : Int) - 1 = (items.size : Int) - 1 - ((i + 1 : Nat) : Int) := by omega
    rw [e2] at hit'
    exact hQ _ h' (s.toks + 1) hx ⟨hi, hit', IsTup.at' x.2.2 fun o eo => (hs'.2 t hne).trans eo⟩ fun b o hb eo => hs'.extBut b o (fun h => hb (by simp [h])) eo
  done := fun s Q E x hQ => by
    have e : (items.size : Int) - 1 - (items.size : Int) = -1 := by omega
    have hit := x.2.1
    rw [e] at hit
    exact next_rt_end hh hit fun h' he' => hQ h' s.toks fun b o hb eo => he' b o (fun h => hb (by simp [h])) eo
  self := fun _ _ _ _ x hQ => iter_rt x.2.1 hQ
theorem slot_rt_hint : Slot "reversed" "__length_hint__" "reversed.__length_hint__" :=
  .of (owner := "reversed") (n := "__length_hint__") hint_rt (by decide +kernel) (by decide +kernel) (by decide +kernel)
    (by first | exact .inl (by decide +kernel) | exact .inr (by decide +kernel)) (by rw [isSubtype_type]; kernel_rfl)
theorem entry_rt_hint : entryFor table "reversed.__length_hint__" = some Builtin.«reversed.__length_hint__» := entryFor_of_tree (by kernel_rfl)
theorem args_rt_hint (a : Value) : argsOk "reversed.__length_hint__" ⟨[a], []⟩ := by
  unfold argsOk; rw [signature?_of (id := "reversed.__length_hint__") (n := ['_', '_', 't', 'n', 'i', 'h', '_', 'h', 't', 'g', 'n', 'e', 'l', '_', '_']) (o := ['d', 'e', 's', 'r', 'e', 'v', 'e', 'r']) (by kernel_rfl) owner_rt]; kernel_rfl
theorem hint_ok {it t : Addr} {items : Array Value} {Q : Bool → Shared → Prop} (hit : IsRt s.heap it t ((items.size : Int) - 1)) (ht : IsTup s.heap t items) (hn : items.size ≤ sizeLine)
    (h : ∀ tk, Q ((items.size : Int) != 0) { s with toks := tk }) : wpAny (model prog w) A (Builtin.List.listLengthHint (.ref it)) Q E s := by
  have hT : s.TypeIs (.ref it) "reversed" := hit.typeIs
  have l63 := line63
  have hz : items.size < 2 ^ 63 := by omega
  obtain ⟨o, ho, hc, hd⟩ := id hit
  unfold Builtin.List.listLengthHint
  refine wpAny_bind (wpAny_specialOf hT nolen_rt ?_)
  show wpAny _ _ (specialOf (Value.ref it) (Str.ofString "__length_hint__") >>= _) _ _ _
  refine wpAny_bind (wpAny_specialOf hT hint_rt ?_)
  generalize hid : ("reversed.__length_hint__" : String) = id0
  wp_delta
  rw [show splitId id0 = some ("reversed", "__length_hint__") from by subst hid; decide +kernel]
  subst hid
  refine wpAny_bind (wpAny_isInstance (b := true) hT (by rw [isSubtype_type]; kernel_rfl) ?_)
  refine wpAny_ite_split (fun hab => absurd hab (by decide)) (fun _ => ?_)
  refine wpAny_ite_split (fun hab => absurd hab (by decide +kernel)) (fun _ => ?_)
  refine wpAny_bind (wpAny_rule ?_)
  refine wpAny_bind (wpAny_of_eq (slot_rt_hint.bind _) ?_)
  try dsimp only
  refine wpAny_bind (wpAny_attempt (wpAny_call_entry slot_rt_hint hT entry_rt_hint ?_ (args_rt_hint _)))
  unfold Builtin.«reversed.__length_hint__»
  refine wpAny_bind (wpAny_of_eq (a := Value.ref it) rfl ?_)
  try dsimp only
  refine wpAny_bind (wpAny_field ho hd (x := .ref t) rfl ?_)
  try dsimp only
  rw [if_neg (show ¬ ((Value.ref t == Value.none) = true) from Bool.false_ne_true)]
  refine wpAny_bind (len_tuple ht (by omega) ?_)
  refine wpAny_bind (wpAny_of_eq (a := some ((items.size : Nat) : Int)) rfl ?_)
  try dsimp only
  refine wpAny_bind (wpAny_field (s := { s with toks := s.toks + 1 + 1 }) ho hd (x := rawInt ((items.size : Int) - 1)) rfl ?_)
  show wpAny _ _ (if ((items.size : Nat) : Int) < ((items.size : Int) - 1) + 1 then _ else _) _ _ _
  rw [if_neg (by omega)]
  refine wpAny_bind (wpAny_mkInt ?_)
  refine wpAny_pure ⟨_, rfl, ?_⟩
  have htl : Builtin.List.listTooLong ((((items.size : Int) - 1) + 1).toNat) = false := notLongL (by omega)
  have hfi : Builtin.List.listFitsIndex (((items.size : Int) - 1) + 1) = true := by unfold Builtin.List.listFitsIndex; simp; omega
  refine wpAny_bind (m := asInt? _) (wpAny_pure ?_)
  try dsimp only
  refine wpAny_ite_split (fun hab => absurd hab (by rw [hfi]; decide)) (fun _ => ?_)
  refine wpAny_ite_split (fun hab => absurd hab (by omega)) (fun _ => ?_)
  refine wpAny_ite_split (fun hab => absurd hab (by rw [htl]; decide)) (fun _ => wpAny_pure ?_)
  have e : ((items.size : Int) - 1) + 1 = (items.size : Int) := by omega
  rw [e]
  exact h _
theorem extend_rt {R : Result → Shared → Prop} {it t : Addr} {items : Array Value} (hh : A.handled = none) (hit : IsRt s.heap it t ((items.size : Int) - 1)) (ht : IsTup s.heap t items) (hne : t ≠ it) (hn : items.size ≤ sizeLine)
    (S : Addr) (res : Value) (c₀ : Nat) (hS : s.heap.get? S = some { cls := .type "list", data := .seq #[] c₀ }) (hSi : S ≠ it) (hSt : S ≠ t)
    (hR : ∀ h' tk acc' c', (∀ b o, b ≠ S → b ≠ it → s.heap.get? b = some o → h'.get? b = some o) → h'.get? S = some { cls := .type "list", dict := none, data := .seq acc' c', slots := #[] } →
      ItemsOf (fun i v => items[items.size - 1 - i]? = some v) acc' items.size → R (.ok (.ret res)) { s with heap := h', toks := tk }) :
    wpAny (model prog w) A.in1 (Builtin.List.listExtendWith (.ref S) (.ref it) res)
      (fun fin s' => match fin with | .done f => R (.ok f) s' | .again c' => c'.quiet = true ∧ codeAny (model prog w) A c' R s') (fun e s' => R (.error e) s') s := by
  have W := (walks_rt (prog := prog) (w := w) (A := A.in1) hh it t hne items hn).toS
  have hSf : S ∉ [it, t] := by simp only [List.mem_cons, List.not_mem_nil, or_false, not_or]; exact ⟨hSi, hSt⟩
  have hT : s.TypeIs (.ref it) "reversed" := hit.typeIs
  have h1 : Builtin.List.listSameRef (.ref S) (.ref it) = false := by simp [Builtin.List.listSameRef, hSi]
  unfold Builtin.List.listExtendWith
  refine wpAny_bind (wpAny_typeOf hT ?_)
  rw [if_neg (by rw [h1]; decide)]
  refine wpAny_bind (iter_rt hit ?_)
  refine wpAny_bind (wpAny_holding (hint_ok hit ht hn fun tk => ?_))
  have e0 : ((items.size : Nat) : Int) - 1 - ((0 : Nat) : Int) = (items.size : Int) - 1 := by omega
  have key : ∀ (h : Heap) (c₁ tk : Nat), IsRt h it t ((items.size : Int) - 1) → IsTup h t items → (∀ b o, b ≠ S → s.heap.get? b = some o → h.get? b = some o) →
      h.get? S = some { cls := .type "list", data := .seq #[] c₁ } → codeAny (model prog w) A (.builtin "list.extend.loop" ⟨[.ref S, .ref it, res], []⟩) R { s with heap := h, toks := tk } := by
    intro h c₁ tk hi1 ht1 hk hS₁
    refine codeAny_extend_loopS W hn S hSf res items.size 0 _ #[] c₁ rfl (Nat.zero_le _) ⟨Nat.zero_le _, by rw [e0]; exact hi1, ht1⟩ hS₁ (ItemsOf.nil _) fun s' acc' c' hm hS' hacc => ?_
    rw [Moved.eq_with hm]
    refine hR s'.heap s'.toks acc' c' (fun b o hb hb2 e => hm.heap b o (fun hmem => ?_) (hk b o hb e)) hS' hacc
    rcases List.mem_cons.mp hmem with e' | hmem
    · exact hb e'
    · exact hb2 (List.mem_singleton.mp hmem)
  refine wpAny_ite_split (fun _ => ?_) (fun _ => wpAny_pure ⟨plainId_quiet F.plain_extend_loop _, key _ c₀ _ hit ht (fun b o _ e => e) hS⟩)
  refine wpAny_bind (wpAny_rule ?_)
  refine wpAny_bind ?_
  show wpAny _ _ (updateSeq S (·.push .none) >>= fun _ => updateSeq S (·.pop)) _ _ _
  refine wpAny_bind (wpAny_updateSeq hS rfl ?_)
  have hS₂ := Heap.get?_update_self (Obj.mapSeq (·.push Value.none)) hS rfl
  refine wpAny_updateSeq (hz := by seq_fits) hS₂ rfl ?_
  have hS₃ := Heap.get?_update_self (Obj.mapSeq (·.pop)) hS₂ rfl
  have oth : ∀ b o, b ≠ S → s.heap.get? b = some o → ((s.heap.update S (Obj.mapSeq (·.push Value.none))).update S (Obj.mapSeq (·.pop))).get? b = some o := fun b o hb e => (Heap.get?_update_other _ _ (Ne.symm hb)).trans ((Heap.get?_update_other _ _ (Ne.symm hb)).trans e)
  refine wpAny_pure ⟨plainId_quiet F.plain_extend_loop _, key _ _ _ (hit.at fun o e => oth _ o (Ne.symm hSi) e) (IsTup.at' ht fun o e => oth _ o (Ne.symm hSt) e) oth hS₃⟩
theorem call_list_rt {Q : Value → Shared → Prop} {it t : Addr} {items : Array Value} (hh : A.handled = none) (hit : IsRt s.heap it t ((items.size : Int) - 1)) (ht : IsTup s.heap t items) (hne : t ≠ it) (hn : items.size ≤ sizeLine)
    (hQ : ∀ h' tk acc' c', (∀ b o, b ≠ it → s.heap.get? b = some o → h'.get? b = some o) →
      h'.get? s.heap.objs.size = some { cls := .type "list", dict := none, data := .seq acc' c', slots := #[] } → ItemsOf (fun i v => items[items.size - 1 - i]? = some v) acc' items.size → Q (.ref s.heap.objs.size) { s with heap := h', toks := tk }) :
    wpAny (model prog w) A (call (.type "list") [.ref it]) Q E s := by
  refine callType_codes (Q₁ := fun obj s₁ => obj = .ref s.heap.objs.size ∧ s₁ = { s with heap := s.heap.push { cls := .type "list", data := .seq #[] } }) F.called_list (F.typeCall_list_1 _) F.entry_list_init
    (code_list_new _ ⟨rfl, rfl⟩) fun obj s₁ h₁ => ?_
  obtain ⟨rfl, rfl⟩ := h₁
  have hS : (s.heap.push { cls := .type "list", data := .seq #[] }).get? s.heap.objs.size = some { cls := .type "list", data := .seq #[] } := Heap.get?_push_size _ rfl
  have hSi : s.heap.objs.size ≠ it := by obtain ⟨o, ho, _⟩ := id hit; exact Nat.ne_of_gt (Heap.lt_size ho)
  have hSt : s.heap.objs.size ≠ t := by obtain ⟨o, ho, _⟩ := id ht; exact Nat.ne_of_gt (Heap.lt_size ho)
  refine ⟨⟨_, hS, rfl⟩, F.args_list_init_2 _ _, ?_⟩
  show wpAny _ _ (do let old ← Builtin.List.listItems (.ref s.heap.objs.size); Builtin.List.listUpdate (.ref s.heap.objs.size) (fun _ => #[]); letGo old.toList.reverse; Builtin.List.listExtendWith (.ref s.heap.objs.size) (.ref it) .none) _ _ _
  refine wpAny_bind ?_
  unfold Builtin.List.listItems
  refine wpAny_bind (wpAny_seqItems hS rfl (wpAny_pure ?_))
  show wpAny _ _ (updateSeq s.heap.objs.size (fun _ => #[]) >>= fun _ => letGo (#[] : Array Value).toList.reverse >>= fun _ => Builtin.List.listExtendWith (.ref s.heap.objs.size) (.ref it) .none) _ _ _
  refine wpAny_bind (wpAny_updateSeq hS rfl ?_)
  have hS₂ := Heap.get?_update_self (Obj.mapSeq (fun _ => (#[] : Array Value))) hS rfl
  have oth : ∀ b o, b ≠ s.heap.objs.size → s.heap.get? b = some o → ((s.heap.push { cls := .type "list", data := .seq #[] }).update s.heap.objs.size (Obj.mapSeq (fun _ => (#[] : Array Value)))).get? b = some o :=
    fun b o hb e => (Heap.get?_update_other _ _ (Ne.symm hb)).trans (Heap.get?_push_of_some _ e)
  refine wpAny_bind (wpAny_letGo ?_)
  refine extend_rt (A := A.in1) hh (hit.at fun o e => oth _ o (Ne.symm hSi) e) (IsTup.at' ht fun o e => oth _ o (Ne.symm hSt) e) hne hn _ _ _ hS₂ hSi hSt fun h' tk acc' c' hk hS' hacc => ?_
  exact ⟨rfl, hQ h' tk acc' c' (fun b o hb e => hk b o (Nat.ne_of_lt (Heap.lt_size e)) hb (oth b o (Nat.ne_of_lt (Heap.lt_size e)) e)) hS' hacc⟩
end
/-! ### t[::-1] -/
section
variable {prog : Program} {w : World} {A : Around} {E : Value → Shared → Prop} {s : Shared}
theorem sliceApplied_rev {sl : Addr} {vl vu vs : Value} {n : Nat} {Q : Int × Int × Nat → Shared → Prop} (hs : s.heap.IsSliceOf sl vl vu vs) (pl : IsPart vl none) (pu : IsPart vu none) (ps : IsPart vs (some (-1)))
    (h : Q ((n : Int) - 1, -1, n) s) : wpAny (model prog w) A (Builtin.Slice.sliceApplied (.ref sl) (pure (n : Int))) Q E s := by
  obtain ⟨os, hos, hcs, hds⟩ := id hs
  unfold Builtin.Slice.sliceApplied Builtin.Slice.sliceFields
  refine wpAny_bind (wpAny_bind (wpAny_field hos hds (x := vl) rfl (wpAny_bind (wpAny_field hos hds (x := vu) rfl (wpAny_bind (wpAny_field hos hds (x := vs) rfl (wpAny_pure ?_)))))))
  refine wpAny_bind (HT.slicePart_ ps ?_)
  show wpAny _ _ (if ((-1 : Int) == 0) = true then _ else _) _ _ s
  rw [if_neg (by decide)]
  refine wpAny_bind (HT.slicePart_ pl (wpAny_bind (HT.slicePart_ pu (wpAny_bind (wpAny_pure ?_)))))
  show wpAny _ _ (match Builtin.Slice.sliceAdjust none none (-1) (n : Int) with | (lo, hi) => pure (lo, (-1 : Int), Builtin.Slice.slicePlaces lo hi (-1))) _ _ s
  have e1 : Builtin.Slice.sliceAdjust none none (-1) (n : Int) = ((n : Int) - 1, -1) := by
    unfold Builtin.Slice.sliceAdjust
    simp
  rw [e1]
  show wpAny _ _ (pure ((n : Int) - 1, (-1 : Int), Builtin.Slice.slicePlaces ((n : Int) - 1) (-1) (-1))) _ _ s
  have e2 : Builtin.Slice.slicePlaces ((n : Int) - 1) (-1) (-1) = n := by
    unfold Builtin.Slice.slicePlaces
    have h1 : ¬ ((-1 : Int) > 0) := by omega
    simp only [h1, if_false]
    by_cases hn : (n : Int) - 1 > -1
    · simp only [hn, if_true]
      have h2 : (- (-1 : Int)) = 1 := by decide
      first
      | (rw [h2, Int.ediv_one]; omega)
      | (simp only [h2, Int.ediv_one]; omega)
      | (split <;> omega)
    · first
      | (simp only [hn, if_false]; omega)
      | (split <;> omega)
  rw [e2]
  exact wpAny_pure h
theorem fm_congr {α β : Type} {f g : α → Option β} : ∀ {l : List α}, (∀ x, x ∈ l → f x = g x) → l.filterMap f = l.filterMap g
  | [], _ => rfl
  | x :: l, h => by
    rw [List.filterMap_cons, List.filterMap_cons, h x List.mem_cons_self, fm_congr fun y hy => h y (List.mem_cons_of_mem _ hy)]
theorem pick_rev (xs : Array Value) : ((List.range xs.size).filterMap fun (m : Nat) => xs[(((xs.size : Int) - 1) + (m : Int) * (-1)).toNat]?).toArray = xs.toList.reverse.toArray := by
  have e : ∀ m, m ∈ List.range xs.size → xs[(((xs.size : Int) - 1) + (m : Int) * (-1)).toNat]? = xs[xs.size - 1 - m]? := by
    intro m hm
    have hm' := List.mem_range.mp hm
    have : (((xs.size : Int) - 1) + (m : Int) * (-1)).toNat = xs.size - 1 - m := by omega
    rw [this]
  have e2 : ((List.range xs.size).filterMap fun (m : Nat) => xs[(((xs.size : Int) - 1) + (m : Int) * (-1)).toNat]?) = (List.range xs.size).filterMap fun m => xs[xs.size - 1 - m]? := fm_congr e
  rw [e2]
  have e3 : ((List.range xs.size).filterMap fun m => xs[xs.size - 1 - m]?) = ((List.range xs.size).map fun m => xs.size - 1 - m).filterMap (xs[·]?) := by rw [List.filterMap_map]; rfl
  rw [e3, PySem.W.krv_range, List.filterMap_reverse, PySem.W.krv_all]
theorem getItem_tuple_rev {t sl : Addr} {items : Array Value} {vl vu vs : Value} {Q : Value → Shared → Prop} (ht : IsTup s.heap t items) (hs : s.heap.IsSliceOf sl vl vu vs) (pl : IsPart vl none) (pu : IsPart vu none) (ps : IsPart vs (some (-1)))
    (h : Q (.ref s.heap.objs.size) { s with heap := s.heap.push { cls := .type "tuple", data := .seq items.toList.reverse.toArray } })
    (hsz : items.size ≤ sizeLine) : wpAny (model prog w) A (getItem (.ref t) (.ref sl)) Q E s := by
  have htake : sizeOk (.seq items.toList.reverse.toArray) := by
    show items.toList.reverse.toArray.size ≤ sizeLine
    rw [List.size_toArray, List.length_reverse, Array.length_toList]
    exact hsz
  obtain ⟨os, hos, hcs, hds⟩ := id hs
  have hTs : s.TypeIs (.ref sl) "slice" := ⟨os, hos, hcs⟩
  unfold getItem
  try with_reducible refine wpAny_holding ?_
  first | refine wpAny_bind (wpAny_pure ?_) | skip
  refine wpAny_bind (wpAny_sequenceKey ht.typeIs (by decide) ?_)
  refine wpAny_bind (wpAny_callSpecial?_slot (name := Str.ofString "__getitem__") ht.typeIs PyProof.Rows.slot_tuple_getitem
    (wpAny_call_entry PyProof.Rows.slot_tuple_getitem ht.typeIs entry_tuple_getitem ?_ (args_tuple_getitem _ _)))
  show wpAny _ _ (Builtin.Tuple.tupleItemsOf (.ref t) >>= _) _ _ s
  refine wpAny_bind (tupleItemsOf_ ht ?_)
  refine wpAny_bind (wpAny_typeOf hTs ?_)
  rw [if_pos (by decide)]
  refine wpAny_bind (sliceApplied_rev hs pl pu ps ?_)
  have hno : ¬ ((((items.size : Int) - 1) == 0 && (-1 : Int) == 1 && items.size == items.size) = true) := by
    intro q
    rw [Bool.and_eq_true, Bool.and_eq_true] at q
    exact absurd (eq_of_beq q.1.2) (by decide)
  show wpAny _ _ (if ((((items.size : Int) - 1)) == 0 && (-1 : Int) == 1 && (items.size) == items.size) = true then _ else _) _ _ s
  rw [if_neg hno, pick_rev]
  first
    | exact wpAny_bind (m := Builtin.Tuple.tupleExact _) (wpAny_newObj_type (wpAny_pure ⟨_, rfl, wpAny_pure h⟩) htake)
    | exact wpAny_bind (m := Builtin.Tuple.tupleExact _) (wpAny_newObj_type (wpAny_bind (wpAny_pure (wpAny_pure ⟨_, rfl, wpAny_pure h⟩))) htake)
    | exact wpAny_bind (wpAny_bind (m := Builtin.Tuple.tupleExact _) (wpAny_newObj_type (wpAny_pure (wpAny_pure ⟨_, rfl, wpAny_pure h⟩)) htake))
    | exact wpAny_bind (wpAny_bind (m := Builtin.Tuple.tupleExact _) (wpAny_newObj_type (wpAny_pure ⟨_, rfl, wpAny_pure h⟩) htake))
end
end RT
end

section
set_option Elab.async false
set_option linter.all false
set_option maxRecDepth 100000
set_option maxHeartbeats 2000000
/-! # Turned rows, enumerate, texts, dicts, several targets -/
namespace ML
open PySem L2
open PySem.Spec PyProof.Rows in
/-- t[::-1] -/
def tRevT (K : PySem.W.Frag) (te : TE) : TE := fun σ H Q => te σ H fun x H1 => ∃ a xs, x = .ref a ∧ SqT K H1 a xs ∧ MK.NewT xs.reverse H1 Q
section
open PySem.Spec PyProof.Rows
variable {X : Cx}
theorem pe_revT {e : Expr} {te : TE} {k : Nat} {p1 p2 p3 pos : Pos} (he : PE X e te) : PE X (.Subscript e (.Slice none none (some (.UnaryOp .USub (.Constant (.int 1) k p1) p2)) p3) pos) (tRevT X.K te) := by
  refine ⟨fun pins s σ H Q I h => ?_⟩
  refine Subscript_ (thn (he.run pins s σ H _ I h) fun v s1 ⟨x, H1, I1, r1, q1⟩ => ?_)
  obtain ⟨a, xs, ex, hx, q⟩ := q1
  subst ex
  cases r1
  have hst : PO X (some (.UnaryOp .USub (.Constant (.int 1) k p1) p2)) (tPart (tUn (rU fun i => .int (-i)) (tC (.int 1)))) := po_some (pe_un un_neg pe_int)
  refine wpAny_Slice (thn (po_none.run pins s1 σ H1 (fun o H2 => o = none ∧ H2 = H1) I1 ⟨rfl, rfl⟩) fun vl s2 ⟨l, H2, I2, pl, el, e2⟩ => ?_)
  subst el e2
  refine thn (po_none.run pins s2 σ H2 (fun o H3 => o = none ∧ H3 = H2) I2 ⟨rfl, rfl⟩) fun vu s3 ⟨u, H3, I3, pu, eu, e3⟩ => ?_
  subst eu e3
  refine thn (hst.run pins s3 σ H3 (fun o H4 => o = some (-1) ∧ H4 = H3) I3 ⟨1, rfl, -1, rfl, rfl, rfl⟩) fun vs s4 ⟨o, H4, I4, ps, eo, e4⟩ => ?_
  subst eo e4
  have I5 : Inv X pins σ H4 { s4 with heap := s4.heap.push { cls := .type "slice", data := .fields #[vl, vu, vs] } } := I4.kept (t' := s4.toks) fun b ob q => Heap.get?_push_of_some _ q
  obtain ⟨its, r, ht, hz⟩ := I5.tuple hx
  have hlen := r.length
  show wpAny (model X.prog X.w) X.A (subscriptTail e (.Slice none none (some (.UnaryOp .USub (.Constant (.int 1) k p1) p2)) p3) (.ref a) (.ref s4.heap.objs.size)) (EP X pins σ Q) X.xe { s4 with heap := s4.heap.push { cls := .type "slice", data := .fields #[vl, vu, vs] } }
  refine tail_any (ops := [.ref a, .ref s4.heap.objs.size]) ht.typeIs (PyProof.Rows.slot_tuple_getitem.lookup) ?_ (by with_unfolding_all rfl)
  refine RT.getItem_tuple_rev ht (Heap.IsSliceOf.new _ vl vu vs) pl pu ps ?_ (by rw [List.size_toArray]; omega)
  exact MK.layT (t' := s4.toks) I5 (by rw [List.length_reverse]; exact hz) r.reverse q
/-- list(reversed(t)), t a tuple -/
def tLstRt (K : PySem.W.Frag) (te : TE) : TE := fun σ H Q => te σ H fun v H1 => ∃ (a : Addr) (xs : List V), v = .ref a ∧ SqT K H1 a xs ∧ ∀ q, H1 q = none → Q (.ref q) (upd H1 q (.lst xs.reverse))
theorem pe_listRt {e : Expr} {te : TE} {p p2 pos pos2 : Pos} (hc : X.calm = true) (hm : X.mg "list" = none) (hm2 : X.mg "reversed" = none) (he : PE X e te) (hg : Gl X "list" := by rfl) (hg2 : Gl X "reversed" := by rfl)
    (hs : starEach [e] X.env = (false, eval e X.env) :: starEach [] X.env := by rfl)
    (hs2 : starEach [.Call (.Name "reversed" p2) [e] [] pos2] X.env = (false, eval (.Call (.Name "reversed" p2) [e] [] pos2) X.env) :: starEach [] X.env := by rfl) :
    PE X (.Call (.Name "list" p) [.Call (.Name "reversed" p2) [e] [] pos2] [] pos) (tLstRt X.K te) := by
  refine ⟨fun pins s σ H Q I h => ?_⟩
  refine Call_ (ld_blt I hg hm boot_list (PyProof.Rows.callWith_type1 (args_cons ?_ hs2) hs2))
  refine Call_ (ld_blt I hg2 hm2 PyProof.Rows.boot_reversed (PyProof.Rows.callWith_type1 (args_cons (thn (he.run pins s σ H _ I h) fun u s1 ⟨v, H1, I1, r1, q1⟩ => args_nil ?_) hs) hs rfl))
  obtain ⟨a, xs, ev, hq, q⟩ := q1
  subst ev
  obtain rfl : u = Value.ref a := r1
  obtain ⟨its, rv, p', hz⟩ := I1.tuple hq
  have hl := rv.length
  have hn := line63
  have hsz : its.toArray.size ≤ sizeLine := by rw [List.size_toArray]; omega
  refine RT.call_reversed_tup p' (fun A E Q k => len_tuple p' (by simp only [List.size_toArray] <;> omega) k) (args_nil ?_)
  have p2 : IsTup (s1.heap.push (RT.rtObj a ((its.toArray.size : Int) - 1))) a its.toArray := RT.IsTup.at' p' fun o e => Heap.get?_push_of_some _ e
  have hne : a ≠ s1.heap.objs.size := by obtain ⟨o, ho, _⟩ := id p'; exact Nat.ne_of_lt (Heap.lt_size ho)
  refine RT.call_list_rt (s := { s1 with heap := s1.heap.push (RT.rtObj a ((its.toArray.size : Int) - 1)), toks := s1.toks + 1 + 1 }) (items := its.toArray) (I.ok.hd hc) ⟨_, Heap.get?_push_size _ rfl, rfl, rfl⟩ p2 hne hsz fun h' tk acc c' hk e' hi => ?_
  have hsl : s1.heap.objs.size ≤ (s1.heap.push (RT.rtObj a ((its.toArray.size : Int) - 1))).objs.size := by simp [Heap.push]
  refine ⟨.ref _, upd H1 _ (.lst xs.reverse), I1.laid (t' := tk) (fun b o z => hk b o (Nat.ne_of_lt (Heap.lt_size z)) (Heap.get?_push_of_some _ z)) hsl (show ObjOk X.prog X.w _ _ _ (.lst xs.reverse) from ⟨?_, acc.toList, c', RT.vals_rev rv hi, ?_⟩), rfl, q _ (I1.hok.fresh hsl)⟩
  · rw [List.length_reverse, hl]; simpa using hsz
  · rw [Array.toArray_toList]; exact e'
end
section
variable {ca : CA} {X : Cx} {pos : Pos} {tg e a b c : Expr} {es : List Expr}
@[simp] def dTup : D → Option (List D)
  | .tuple xs => some xs
  | _ => none
theorem dTup_some {d : D} {xs : List D} (h : dTup d = some xs) : d = .tuple xs := by
  cases d <;> first | cases h | skip
  rfl
def eRevT (m : M D) : M D := bind m fun x => lift ((dTup x).map fun xs => .tuple xs.reverse)
theorem me_revT {m : M D} {k : Nat} {p1 p2 p3 : Pos} (h : ME ca X e m) : ME ca X (.Subscript e (.Slice none none (some (.UnaryOp .USub (.Constant (.int 1) k p1) p2)) p3) pos) (eRevT m) := fun F W tk =>
  PE.imp (pe_revT (h F W tk)) fun σ H Q ⟨ow, env, R, g⟩ => go_bind R g fun x e1 v ow1 H1 g1 R1 p1 q1 => by
    obtain ⟨z, ez, q⟩ := lift_go q1
    obtain ⟨xs, ex, rfl⟩ := Option.map_eq_some_iff.mp ez
    have ed := dTup_some ex
    subst ed
    have p1' : Rp X.K ow1 H1 (.tuple xs) v := p1
    unfold Rp at p1'
    obtain ⟨a, us, rfl, h1, h2⟩ := p1'
    refine ⟨a, us, rfl, h1.sq, fun p o hc hd hp => go_val R1 q (Gr.new hp) ?_⟩
    unfold Rp
    exact ⟨p, _, rfl, .frz upd_same hd (R1.free hp), (h2.reverse).stp (Gr.new hp).stp⟩
def oRevL (m : M D) : M Ob := bind m fun x => lift ((dTup x).map fun xs => .lst xs.reverse)
theorem mo_listRt {m : M D} {p p2 pos2 : Pos} (h : ME ca X e m) (hm : X.mg "list" = none) (hm2 : X.mg "reversed" = none) (hc : X.calm = true := by rfl) (hg : Gl X "list" := by rfl) (hg2 : Gl X "reversed" := by rfl)
    (hs : starEach [e] X.env = (false, eval e X.env) :: starEach [] X.env := by rfl)
    (hs2 : starEach [.Call (.Name "reversed" p2) [e] [] pos2] X.env = (false, eval (.Call (.Name "reversed" p2) [e] [] pos2) X.env) :: starEach [] X.env := by rfl) :
    MO ca X (.Call (.Name "list" p) [.Call (.Name "reversed" p2) [e] [] pos2] [] pos) (oRevL m) := fun F W tk =>
  PE.imp (pe_listRt hc hm hm2 (h F W tk) hg hg2 hs hs2) fun σ H Q ⟨ow, env, R, g⟩ => go_bind R g fun x e1 v ow1 H1 g1 R1 p1 q1 => by
    obtain ⟨z, ez, q⟩ := lift_go q1
    obtain ⟨xs, ex, rfl⟩ := Option.map_eq_some_iff.mp ez
    have ed := dTup_some ex
    subst ed
    have p1' : Rp X.K ow1 H1 (.tuple xs) v := p1
    unfold Rp at p1'
    obtain ⟨a, us, rfl, h1, h2⟩ := p1'
    exact ⟨a, us, rfl, h1.sq, fun p hp => go_new R1 q (fun x h => g1.dom x h) hp h2.reverse⟩
/-! ### enumerate -/
def enumD : Nat → List D → List D
  | _, [] => []
  | i, d :: r => .tuple [.int (i : Nat), d] :: enumD (i + 1) r
theorem enumD_get : ∀ (ds : List D) (k i : Nat), (enumD k ds)[i]? = (ds[i]?).map fun d => .tuple [.int ((k + i : Nat) : Int), d]
  | [], k, i => by unfold enumD; simp
  | d :: r, k, 0 => by unfold enumD; rfl
  | d :: r, k, i + 1 => by
    unfold enumD
    rw [List.getElem?_cons_succ, List.getElem?_cons_succ, enumD_get r (k + 1) i]
    rw [show k + 1 + i = k + (i + 1) from by omega]
theorem enumD_len : ∀ (ds : List D) (k : Nat), (enumD k ds).length = ds.length
  | [], k => rfl
  | d :: r, k => by unfold enumD; rw [List.length_cons, List.length_cons, enumD_len r]
theorem wk_enum {K : PySem.W.Frag} {ow : Addr → Prop} {H : Hp} {a : Addr} {xs : List V} {ds : List D} (h : H a = some (.lst xs)) (n : ¬ ow a) (r : RpA K ow H ds xs) : Wk K (Ite K a) (enumD 0 ds) ow H := by
  refine ⟨fun ow H => H a = some (.lst xs) ∧ ¬ ow a ∧ RpA K ow H ds xs, ⟨h, n, r⟩, fun ow1 H1 ow2 H2 st ⟨h, n, r⟩ => ⟨(st a _ h n nt_lst).1, (st a _ h n nt_lst).2, r.stp st⟩, fun i ow H ⟨h, n, r⟩ tr hi => ?_, fun i ow H ⟨h, n, r⟩ hi => ⟨xs, SqL.of h, ?_⟩⟩
  · rw [enumD_len] at hi
    obtain ⟨x, hx⟩ := some_of_lt (xs := xs) (i := i) (by rw [← r.length]; exact hi)
    refine ⟨⟨xs, x, SqL.of h, hx⟩, fun v H' ⟨T, y, ev, hT, eH, hy⟩ => ?_⟩
    subst ev eH
    have exy : xs[i]? = some y := hy xs (SqL.of h)
    refine ⟨Gr.new hT, fun d hd => ?_⟩
    rw [enumD_get] at hd
    obtain ⟨d0, h0, rfl⟩ := Option.map_eq_some_iff.mp hd
    unfold Rp
    refine ⟨T, _, rfl, .weak upd_same (fun z => by obtain ⟨o, ho⟩ := tr T z; rw [hT] at ho; cases ho) rfl, ?_⟩
    unfold RpA
    refine ⟨_, _, rfl, by rw [Nat.zero_add]; exact rp_int, ?_⟩
    unfold RpA
    exact ⟨_, _, rfl, (r.get h0 exy).stp (Gr.new hT).stp, by unfold RpA; rfl⟩
  · rw [enumD_len] at hi
    rw [← r.length]; exact hi
@[simp] def dLst : D → Option (List D)
  | .list xs => some xs
  | _ => none
theorem dLst_some {d : D} {xs : List D} (h : dLst d = some xs) : d = .list xs := by
  cases d <;> first | cases h | skip
  rfl
def iEn (m : M D) : M (List D) := bind m fun x => lift ((dLst x).map (enumD 0))
theorem mi_enum {m : M D} {p tpos : Pos} {elts : List Expr} {kk : Nat} (h : ME ca X e m) (hm : X.mg "enumerate" = none) (hg : Gl X "enumerate" := by rfl) (hs : starEach [e] X.env = [(false, eval e X.env)] := by rfl) :
    MI ca X (.Tuple elts kk tpos) (.Call (.Name "enumerate" p) [e] [] pos) (iEn m) := fun F W tk =>
  PI.imp (pi_enum hg hm (pa_cons (h F W tk) pa_nil hs) hs) fun σ H R ⟨ow, env, rel, g⟩ => by
    refine ⟨ow, env, rel, ?_⟩
    unfold iEn bind at g
    cases hq : m env with
    | ok x e1 =>
      rw [hq] at g
      rintro v ow1 H1 g1 R1 p1
      dsimp only at g
      unfold lift at g
      cases hd : dLst x with
      | none => simp only [hd, Option.map_none] at g
      | some xs =>
        simp only [hd, Option.map_some] at g
        have ed := dLst_some hd
        subst ed
        have p1' : Rp X.K ow1 H1 (.list xs) v := p1
        unfold Rp at p1'
        obtain ⟨a, us, rfl, h1, n, h2⟩ := p1'
        exact ⟨a, us, rfl, SqL.of h1, g (Ite X.K a) ow1 H1 g1 R1 (wk_enum h1 n h2)⟩
    | ex c e1 => rw [hq] at g; exact g
    | bad => rw [hq] at g; exact g
/-! ### text * int -/
def mulS (x : Str) (n : Int) : Str := Txt.mul x n
theorem op_mulS : OpR X (binaryOp .Mult) (fun x y H Q => ∃ (z : Str) (n : Int), x = .str z ∧ y = .int n ∧ MulOk z n ∧ Q (.str (Txt.mul z n)) H) := by
  intro pins s σ H x y v u Q I rx ry h
  obtain ⟨z, n, rfl, rfl, hok, q⟩ := h
  obtain ⟨t, rfl⟩ := rx
  obtain ⟨t', rfl⟩ := ry
  exact SB.mul hok fun t' k => ⟨.str (Txt.mul z n), H, I.tok _, ⟨_, rfl⟩, q⟩
end
end ML
end

section
set_option Elab.async false
set_option linter.all false
set_option maxRecDepth 100000
set_option maxHeartbeats 2000000
/-! # Texts' methods, dicts, several targets -/
namespace ML
open PySem L2
section
variable {K : PySem.W.Frag} {ca : CA}
def gMulS : Sl → Sl → Option D
  | .d (.str z), .d (.int n) => if 0 ≤ n ∧ n ≤ 10000 ∧ z.length ≤ 100 then some (.str (Txt.mul z n)) else none
  | _, _ => none
theorem mulOk {z : Str} {n : Int} (h0 : 0 ≤ n) (h1 : n ≤ 10000) (h2 : z.length ≤ 100) : MulOk z n := by
  refine ⟨?_, fun _ _ => ?_, fun _ _ => ?_⟩
  · simp; omega
  · have hz : (z.length : Int) ≤ 100 := by omega
    rw [Int.not_lt]
    by_cases hn : n = 0
    · subst hn; simp at *
    · exact Int.le_trans hz (by
        have h3 : (0 : Int) < n := by omega
        rw [Int.le_ediv_iff_mul_le h3]
        omega)
  · unfold Builtin.Str.tooLong
    have : z.length * n.toNat ≤ 100 * 10000 := Nat.mul_le_mul h2 (by omega)
    rw [sizeLine_eq]
    exact decide_eq_false (by omega)
theorem s_mulS : OpS K ca (fun x y H Q => ∃ (z : Str) (n : Int), x = .str z ∧ y = .int n ∧ MulOk z n ∧ Q (.str (Txt.mul z n)) H) gMulS := fun s t z ow H v1 v2 Q e r1 r2 tr k => by
  unfold gMulS at e
  split at e
  · obtain ⟨⟨h0, h1, h2⟩, rfl⟩ := ite_some e
    exact ⟨_, _, sv_str r1, sv_int r2, mulOk h0 h1 h2, k _ H Gr.refl rp_str⟩
  · cases e
end
def bindO {α β : Type} (o : Option α) (f : α → M β) : M β := match o with
  | some a => f a
  | none => fun _ => .bad
theorem bindO_go {α β γ : Type} {K : PySem.W.Frag} {ca : CA} {F : Fr} {W : WX} {P : PP γ β} {ow : Addr → Prop} {env : List Sl} {Hs H : Hp} {σ : St} {Q : β → Hp → Prop} {o : Option α} {f : α → M γ} (g : GoG K ca F W P Hs ow env H σ Q (bindO o f env)) : ∃ z, o = some z ∧ GoG K ca F W P Hs ow env H σ Q (f z env) := by
  cases o with
  | none => exact g.elim
  | some z => exact ⟨z, rfl, g⟩
@[simp] def dStr : D → Option Str
  | .str x => some x
  | _ => none
theorem dStr_some {d : D} {x : Str} (h : dStr d = some x) : d = .str x := by
  cases d <;> first | cases h | skip
  rfl
section
variable {ca : CA} {X : Cx} {pos : Pos} {tg e a b c o : Expr} {es : List Expr}
theorem PE.start {X : Cx} {e : Expr} {te : TE} (h : PE X e te) : PE X e te := h
/-! ### s.index(t) -/
def eIndex (mo m : M D) : M D := bind mo fun x => bindO (dStr x) fun a => bind m fun y => bindO (dStr y) fun b => lift ((Txt.index0 a b).map fun k => .int (k : Nat))
theorem me_index {apos : Pos} {mo m : M D} (ho : ME ca X o mo) (he : ME ca X e m) (hc : X.calm = true := by rfl)
    (hbase : attributeBase o "index" X.env (eval o X.env) = eval o X.env := by rfl)
    (hfew : ((backTo pos (starEach [e] X.env)).all (fun x => !x.1) && (backToKw pos (keywordEach [] X.env)).all (fun x => x.1.isSome)
      && decide (([e] : List Expr).length + ([] : List Keyword).length + (if ([] : List Keyword).isEmpty then 0 else 1) < 30)) = true := by rfl)
    (hline : (apos.endLine == pos.line) = true := by rfl) (hs : starEach [e] X.env = (false, eval e X.env) :: starEach [] X.env := by rfl) (hplain : (backTo pos (starEach [] X.env)).any (·.1) = false := by rfl) :
    ME ca X (.Call (.Attribute o "index" apos) [e] [] pos) (eIndex mo m) := fun F W tk =>
  PE.imp (pe_bmS PySem.F.plainAttrs_str PySem.F.slot_str_index PySem.F.type_str_index (mt_indexX hc tk.t) (ho F W tk) (pa_cons (he F W tk) pa_nil hs) hbase hfew hline hs hplain) fun σ H Q ⟨ow, env, R, g⟩ =>
    go_bind R g fun x e1 v ow1 H1 g1 R1 p1 q1 => by
      obtain ⟨za, ea, q1⟩ := bindO_go q1
      have ed := dStr_some ea
      subst ed
      have p1' : Rp X.K ow1 H1 (.str za) v := p1
      unfold Rp at p1'
      subst p1'
      refine ⟨rfl, go_bind R1 q1 fun y e2 u ow2 H2 g2 R2 p2 q2 => ?_⟩
      obtain ⟨zb, eb, q2⟩ := bindO_go q2
      have ed := dStr_some eb
      subst ed
      have p2' : Rp X.K ow2 H2 (.str zb) u := p2
      unfold Rp at p2'
      subst p2'
      obtain ⟨z, ez, q3⟩ := lift_go q2
      obtain ⟨k, hk, rfl⟩ := Option.map_eq_some_iff.mp ez
      refine ⟨za, zb, rfl, rfl, fun k' hk' => ?_, fun hn => by rw [hk] at hn; cases hn⟩
      rw [hk] at hk'
      cases hk'
      exact q3 _ ow2 H2 Go.refl R2 rp_int
/-! ### s.join(list) -/
def joinOk (a : Str) (ys : List Str) : Bool := decide ((ys.map (·.length)).sum + ys.length * a.length ≤ 16777216)
def eJoin (mo : M D) (m : M AV) : M D := bind mo fun x => bindO (dStr x) fun a => bind m fun v => fun e => lift ((slL (content e v)).bind fun xs => (dStrs xs).bind fun ys => if joinOk a ys = true then some (.str (Txt.join a ys)) else none) e
theorem me_join {apos : Pos} {mo : M D} {m : M AV} (ho : ME ca X o mo) (he : MQ ca X e m) (hs : starEach [e] X.env = [(false, eval e X.env)] := by rfl) (hbase : attributeBase o "join" X.env (eval o X.env) = eval o X.env := by rfl) (hline : (apos.endLine == pos.line) = true := by rfl) :
    ME ca X (.Call (.Attribute o "join" apos) [e] [] pos) (eJoin mo m) := fun F W tk =>
  PE.imp (pe_join (ho F W tk) (he F W tk) hs hbase hline) fun σ H Q ⟨ow, env, R, g⟩ =>
    go_bind R g fun x e1 v ow1 H1 g1 R1 p1 q1 => by
      obtain ⟨za, ea, q1⟩ := bindO_go q1
      have ed := dStr_some ea
      subst ed
      have p1' : Rp X.K ow1 H1 (.str za) v := p1
      unfold Rp at p1'
      subst p1'
      refine ⟨⟨za, rfl⟩, go_bind R1 q1 fun y e2 u ow2 H2 g2 R2 p2 q2 => ?_⟩
      obtain ⟨z, ez, q3⟩ := lift_go q2
      obtain ⟨xs, hx, ez⟩ := Option.bind_eq_some_iff.mp ez
      obtain ⟨ys, hy, ez⟩ := Option.bind_eq_some_iff.mp ez
      obtain ⟨hj, rfl⟩ := ite_some ez
      obtain ⟨p, us, rfl, h1, h2⟩ := slL_ok hx fun n => p2.1.sv R2 n
      refine ⟨za, p, ys, rfl, rfl, .inl (by rw [← dStrs_ok hy h2]; exact SqL.of h1), of_decide_eq_true hj, q3 _ ow2 H2 Go.refl R2 rp_str⟩
/-! ### dicts -/
@[simp] def keyOf : D → Option Key
  | .int i => some (.inl i)
  | .str x => some (.inr x)
  | _ => none
theorem keyOf_ok {K : PySem.W.Frag} {ow : Addr → Prop} {H : Hp} {d : D} {k : Key} {v : V} (h : keyOf d = some k) (r : Rp K ow H d v) : v = kV k := by
  cases d <;> first | cases h | skip
  · unfold Rp at r; exact r
  · unfold Rp at r; exact r
/-- the pairs of a display -/
def PK (K : PySem.W.Frag) : PP (List (Key × D)) (List (V × V)) := fun kvs ps _ ow H _ _ => ∃ us : List (Key × V), ps = us.map (fun kv => (kV kv.1, kv.2)) ∧ RpE K ow H kvs us
def MPs (ca : CA) (X : Cx) (pos : Pos) (keys : List (Option Expr)) (values : List Expr) (m : M (List (Key × D))) : Prop :=
  ∀ F W, Tk X F W → ∃ trs, PPs X pos keys values trs ∧ ∀ σ H Q, tG X.K ca F W (PK X.K) m σ H Q → tPairs trs σ H Q
def kNil : M (List (Key × D)) := ret []
def kCons (mk mv : M D) (r : M (List (Key × D))) : M (List (Key × D)) := bind mk fun x => bindO (keyOf x) fun k => bind mv fun y => bind r fun kvs => ret ((k, y) :: kvs)
theorem mps_nil : MPs ca X pos [] [] kNil := fun F W tk => ⟨[], pps_nil, fun σ H Q ⟨ow, env, R, g⟩ => g [] ow H Go.refl R ⟨[], rfl, .nil⟩⟩
theorem mps_cons {k v : Expr} {ks : List (Option Expr)} {vs : List Expr} {mk mv : M D} {r : M (List (Key × D))} (hk : ME ca X k mk) (hv : ME ca X v mv) (hr : MPs ca X pos ks vs r) : MPs ca X pos (some k :: ks) (v :: vs) (kCons mk mv r) := fun F W tk => by
  obtain ⟨trs, hp, ht⟩ := hr F W tk
  refine ⟨_, pps_cons (hk F W tk) (hv F W tk) hp, fun σ H Q ⟨ow, env, R, g⟩ => ?_⟩
  exact go_bind R g fun x e1 v ow1 H1 g1 R1 p1 q1 => by
    obtain ⟨k, ek, q1⟩ := bindO_go q1
    have ev := keyOf_ok ek p1
    subst ev
    exact go_bind R1 q1 fun y e2 u ow2 H2 g2 R2 p2 q2 => ht _ _ _ (go_bind R2 q2 fun kvs e3 ps ow3 H3 g3 R3 ⟨us, eps, re⟩ q3 => by
      subst eps
      exact q3 _ ow3 H3 Go.refl R3 ⟨(k, u) :: us, rfl, .cons ⟨rfl, Rp.stp g3.stp _ _ p2⟩ re⟩)
def nodupK : List (Key × D) → Bool
  | [] => true
  | p :: r => r.all (fun q => decide (q.1 ≠ p.1)) && nodupK r
theorem RpE.keys {K : PySem.W.Frag} {ow : Addr → Prop} {H : Hp} : ∀ {kvs : List (Key × D)} {us : List (Key × V)}, RpE K ow H kvs us → us.map (·.1) = kvs.map (·.1)
  | _, _, .nil => rfl
  | _, _, .cons h t => by rw [List.map_cons, List.map_cons, h.1, RpE.keys t]
theorem putK_new {κ : Type} [DecidableEq κ] {acc : List (κ × V)} {k : κ} {v : V} (h : ∀ p ∈ acc, p.1 ≠ k) : putK acc k v = acc ++ [(k, v)] := by
  unfold putK
  rw [if_neg]
  intro z
  obtain ⟨p, hp, e⟩ := List.any_eq_true.mp z
  exact h p hp (of_decide_eq_true e)
theorem merge_new : ∀ (us acc : List (Key × V)), (acc.map (·.1) ++ us.map (·.1)).Nodup → mergeK acc us = acc ++ us
  | [], acc, _ => by unfold mergeK; rw [List.foldl_nil, List.append_nil]
  | u :: us, acc, n => by
    show mergeK (putK acc u.1 u.2) us = _
    rw [putK_new fun p hp e => ?_, merge_new us (acc ++ [(u.1, u.2)]) (by
      rw [List.map_append, List.append_assoc]; exact n), List.append_assoc]
    · rfl
    · rw [List.map_cons] at n
      have := List.nodup_append.mp n
      exact this.2.2 _ (List.mem_map_of_mem hp) _ List.mem_cons_self e
theorem nodupK_ok : ∀ {kvs : List (Key × D)}, nodupK kvs = true → (kvs.map (·.1)).Nodup
  | [], _ => List.nodup_nil
  | p :: r, h => by
    unfold nodupK at h
    obtain ⟨h1, h2⟩ := Bool.and_eq_true_iff.mp h
    rw [List.map_cons]
    refine List.nodup_cons.mpr ⟨fun z => ?_, nodupK_ok h2⟩
    obtain ⟨q, hq, e⟩ := List.mem_map.mp z
    exact of_decide_eq_true (List.all_eq_true.mp h1 q hq) e
def oDct (m : M (List (Key × D))) : M Ob := bind m fun kvs => lift (if nodupK kvs = true ∧ kvs.length ≤ 15 then some (.dct kvs) else none)
theorem RpE.length {K : PySem.W.Frag} {ow : Addr → Prop} {H : Hp} {kvs : List (Key × D)} {us : List (Key × V)} (h : RpE K ow H kvs us) : us.length = kvs.length := by
  have := congrArg List.length h.keys
  rwa [List.length_map, List.length_map] at this
theorem mo_disp {keys : List (Option Expr)} {values : List Expr} {m : M (List (Key × D))} (h : MPs ca X pos keys values m) (hall : keys.all (·.isSome) = true := by rfl) (hl : keys.length = values.length := by rfl) (h0 : keys ≠ [] := by intro z; cases z) (h15 : keys.length ≤ 15 := by decide) :
    MO ca X (.Dict keys values pos) (oDct m) := fun F W tk => by
  obtain ⟨trs, hp, ht⟩ := h F W tk
  refine PE.imp (pe_disp hp hall hl h0 h15) fun σ H Q ⟨ow, env, R, g⟩ p hn => ht _ _ _ ?_
  obtain ⟨R1, L⟩ := R.more (o := .dK []) hn
  have g0 := Go.more R (o := .dK []) hn
  refine ⟨more ow p, env, R1, ?_⟩
  unfold oDct bind at g
  cases hm : m env with
  | ex c e1 => rw [hm] at g; exact fun ow' H' st R' => g ow' H' (g0.trans st) R'
  | bad => rw [hm] at g; exact g
  | ok kvs e1 =>
    rw [hm] at g
    rintro ps ow1 H1 g1 R1 ⟨us, eps, re⟩
    dsimp only at g
    by_cases hc : nodupK kvs = true ∧ kvs.length ≤ 15
    rotate_left
    · rw [if_neg hc] at g; exact g.elim
    rw [if_pos hc] at g
    obtain ⟨hn1, hn2⟩ := hc
    have q := g
    obtain ⟨L1, eq⟩ := L.go g1 (fun ⟨_, e⟩ => by rw [upd_same] at e; cases e)
    have hp1 : H1 p = some (.dK []) := by rw [eq]; exact upd_same
    refine ⟨hp1, us, eps, by rw [re.length]; exact hn2, ?_⟩
    have em : mergeK [] us = us := by
      rw [merge_new us [] (by rw [List.map_nil, List.nil_append, re.keys]; exact nodupK_ok hn1), List.nil_append]
    rw [em]
    have sm : Stp ow1 H1 ow1 (upd H1 p (.dK us)) := stp_mut L1.1
    have R3 := R1.mutL (o := .dK us) L1
    refine q (.ref p) ow1 _ ⟨(g0.stp.trans g1.stp).trans sm, fun q w nt n => ?_, fun a ha => ?_⟩ R3 ⟨p, rfl, hn, ⟨us, upd_same, re.stp sm⟩, L1⟩
    · obtain ⟨a1, b1, c1⟩ := g0.lo q w nt n
      obtain ⟨a2, b2, c2⟩ := g1.lo q a1 (by rw [b1]; exact nt) c1
      obtain ⟨u, hu⟩ := R.trk q w
      exact ⟨a2, by rw [upd_ne (fun z => by rw [z, hn] at hu; cases hu)]; exact b2.trans b1, c2⟩
    · by_cases z : a = p
      · rw [z]; exact hn
      · rw [upd_ne z] at ha; exact g0.dom a (g1.dom a ha)
theorem mo_dict0 : MO ca X (.Dict [] [] pos) (ret (.dct [])) := fun F W tk =>
  PE.imp pe_dnewK fun σ H Q ⟨ow, env, R, g⟩ p hn => by
    obtain ⟨R1, L⟩ := R.more (o := .dK []) hn
    exact g (.ref p) _ _ (Go.more R hn) R1 ⟨p, rfl, hn, ⟨[], upd_same, .nil⟩, L⟩
/-- {..}[y] -/
def valD (kvs : List (Key × D)) (k : Key) : Option D := (kvs.find? fun kv => decide (kv.1 = k)).map (·.2)
theorem RpE.val {K : PySem.W.Frag} {ow : Addr → Prop} {H : Hp} : ∀ {kvs : List (Key × D)} {us : List (Key × V)} {k : Key} {d : D}, RpE K ow H kvs us → valD kvs k = some d → ∃ v, valV us k = some v ∧ Rp K ow H d v
  | _, _, k, d, .nil, e => by cases e
  | p :: kvs, q :: us, k, d, .cons h t, e => by
    by_cases hk : p.1 = k
    · have e1 : valD (p :: kvs) k = some p.2 := by simp [valD, List.find?_cons, hk]
      rw [e1] at e
      cases e
      exact ⟨q.2, valV_pos (h.1.symm.trans hk), h.2⟩
    · have e1 : valD (p :: kvs) k = valD kvs k := by simp [valD, List.find?_cons, hk]
      rw [e1] at e
      obtain ⟨v, hv, r⟩ := RpE.val t e
      exact ⟨v, by rw [valV_neg (fun z => hk (h.1.trans z))]; exact hv, r⟩
@[simp] def obK : Ob → Option (List (Key × D))
  | .dct kvs => some kvs
  | _ => none
theorem obK_some {k : Ob} {kvs : List (Key × D)} (h : obK k = some kvs) : k = .dct kvs := by
  cases k <;> first | cases h | skip
  rfl
def eDGet (mo : M Ob) (my : M D) : M D := bind mo fun k => bindO (obK k) fun kvs => bind my fun y => bindO (keyOf y) fun ky => lift (valD kvs ky)
theorem me_dget {mo : M Ob} {my : M D} (hu : X.A.units + 1 < cLine) (ho : MO ca X o mo) (hi : ME ca X e my) (hs : NoSl e) : ME ca X (.Subscript o e pos) (eDGet mo my) := fun F W tk =>
  PE.imp (pe_dget hu (ho F W tk) (hi F W tk) hs) fun σ H Q ⟨ow, env, R, g⟩ => go_bind R g fun k e1 v ow1 H1 g1 R1 ⟨p, ev, n, r, L⟩ q1 => by
    obtain ⟨kvs, ek, q1⟩ := bindO_go q1
    have ed := obK_some ek
    subst ed
    subst ev
    exact go_bind R1 q1 fun y e2 u ow2 H2 g2 R2 p2 q2 => by
      obtain ⟨ky, eky, q2⟩ := bindO_go q2
      obtain ⟨z, ez, q3⟩ := lift_go q2
      obtain ⟨L2, eq⟩ := L.go g2 r.noT
      obtain ⟨us, h1, h2⟩ := r.stp g2.stp eq
      obtain ⟨w, hw, rw_⟩ := h2.val ez
      have eu := keyOf_ok eky p2
      refine ⟨p, w, rfl, ?_, q3 _ ow2 H2 Go.refl R2 rw_⟩
      rw [eu, ← hw]
      exact DGet.k h1
/-! ### several targets -/
def sAsg (g : GF) (m : M D) : MStm := xS m fun x => fun e => match g x e with
  | some e' => .nx e'
  | none => .bad
theorem ms_asg {js : List Nat} {g : GF} {m : M D} (h : ME ca X e m) (hg : MG ca X tg js g) (hs : swapsWithSole [tg] e pos.line X.env = pure false := by rfl) (hw : swappedStores [tg] e X.env = pure none := by rfl)
    (h1 : (assignEach [tg] X.env).map (·.2) = [assign tg X.env] := by rfl) : MS ca X (.Assign [tg] e pos) (sAsg g m) := fun F W tk hp =>
  PS.imp (ps_asg (h F W tk) (hg F) hs hw h1) fun Dn σ H ⟨ow, env, R, gg⟩ => go_stm R gg fun x e1 v ow1 H1 g1 R1 p1 q1 => by
    split at q1
    · rename_i e' he
      exact ⟨ow1, e1, x, e', R1, p1, he, fun σ' _ _ R' _ => q1 σ' ow1 H1 Stp.refl R'⟩
    · exact q1.elim
end
end ML
end

section
set_option Elab.async false
set_option linter.all false
set_option maxRecDepth 100000
set_option maxHeartbeats 4000000
/-! # An own exception class whose __init__ calls the class's above, without fields -/
namespace ML
open PySem L2 PySem.Spec PyProof.Rows
structure InitOf (K : PySem.W.Frag) (B : Addr) (mc : Value) : Prop where
  rd : PySem.W.readsIn K B mc = true
  ga : PySem.W.specialIn K (.ref B) "__getattribute__" = some (some (.builtin "type.__getattribute__"))
  at_ : PySem.W.findCls K (.ref B) mc "__init__" = some (.val (.builtin "ValueError.__init__"))
def tOwI (K : PySem.W.Frag) (ta : TA) : TE := fun σ H Q => ta σ H fun vs H1 => ∃ (a C : Addr), vs = [.ref a] ∧ OexC K C ∧ H1 a = some (exo a C none) ∧ Q .non H1
section
variable {X : Cx} {o e : Expr} {es : List Expr} {to te : TE} {ta : TA} {f : Str} {p p' p1 p2 pos : Pos}
theorem pe_ownI {x : Str} {B : Addr} {mc : Value} {pl : Sem Bool} (hm : X.mg x = some (.ref B)) (IB : InitOf X.K B mc) (ha : PA X [e] ta) (hg : Gl X x := by rfl) (hdb : (x == ("__debug__" : Str)) = false := by decide)
    (hc : eval (.Call (.Attribute (.Name x p1) "__init__" p2) [e] [] pos) X.env = (do
      let ov ← eval (.Name x p1) X.env
      standAt p2.atName
      let (f, first) ← holding [ov] (getMethod ov "__init__" pl)
      callWith pos f first (backTo pos (starEach [e] X.env)) (backToKw pos (keywordEach [] X.env))) := by rfl)
    (he : starEach [e] X.env = (false, eval e X.env) :: starEach [] X.env := by rfl) (hpl : (backTo pos (starEach [] X.env)).any (·.1) = false := by rfl) :
    PE X (.Call (.Attribute (.Name x p1) "__init__" p2) [e] [] pos) (tOwI X.K ta) := by
  refine ⟨fun pins s σ H Q I h => ?_⟩
  refine PySem.W.methodCall_KW (ld_glob I hg hm ?_ hdb) hc
  refine PySem.W.method_cls I.kIn IB.ga (PySem.W.cls_value I.kIn IB.rd IB.at_ (by decide +kernel) ?_)
  show wpAny _ _ (callWith pos (Value.builtin "ValueError.__init__") [] (backTo pos (starEach [e] X.env)) []) _ _ _
  refine PyProof.Rows.callWith_method1 (thn (ha.run pos pins _ σ H _ (I.tok _) h) fun us s1 ⟨vs, H1, I1, r1, a, C, ev, T, ea, q⟩ => ?_) he hpl
  subst ev
  cases r1 with
  | @cons _ u0 _ ur ra rw' =>
    obtain rfl : u0 = Value.ref a := ra
    cases rw'
    exact oinit_ok T I1 ea (Nat.zero_le _) fun s' J => ⟨.non, H1, J, rfl, q⟩
end
/-- what an __init__ of that kind does -/
def spI (K : PySem.W.Frag) : Sp := fun vs H Q E => ∃ (a C : Addr), vs = [.ref a] ∧ OexC K C ∧ H a = some (exo a C none) ∧ Q .non H
section
variable {P : Program} {w : World} {K : PySem.W.Frag} {mg : Str → Option Value} {base : Heap}
theorem fnI {x qual : Str} {st : Stmt} {f : Addr} {fd : FuncData} {N : List Str} {y : Str} {k : Nat} (Fn : Fun K x qual st f fd) (S : FnScope [y] [y] (defScope st))
    (hbody : ∀ (cdv : Value) (A : Around) (outer : List Env) (s : Shared) (H : Hp) (E : XK), PSs (cxOf (L2.CX P w) P w K mg base [y] qual (defScope st) f cdv A outer s H E) (defBody st) (tDrop (tOwI K (tCons (fun σ H Q => ∃ v, σ[0]? = some (some v) ∧ Q v H) tNil)))) :
    FnOk P w K mg base (L2.CX P w) (k + 1) f fd [y] (spI K) := by
  refine Fn.okX S (fun vs H Q E ⟨a, C, e, _⟩ => by rw [e]; rfl) fun cdv A outer s H vs Q E hr ⟨a, C, e, T, ea, q⟩ => ?_
  subst e
  exact ⟨_, hbody cdv A outer s H E, .ref a, rfl, a, C, rfl, T, ea, q⟩
end
section
variable {X : Cx}
theorem mk_endN {pins : List (Addr × Obj)} {σ : L2.St} {H1 : Hp} {hp hp2 h2 : Heap} {g1 g2 : Array GenState} {d1 d2 : Drawn} {t1 t2 : Nat} {os1 os2 : OsState} {a C : Addr} (I1 : Inv X pins σ H1 ⟨hp, g1, d1, t1, os1⟩)
    (ha : hp.objs.size ≤ a) (k : ∀ b o, hp.get? b = some o → hp2.get? b = some o) (un : Un (frs X.stack) [] (upd H1 a (exo a C none)) (upd H1 a (exo a C none)) hp2 h2) (hok : HOk X.prog X.w (upd H1 a (exo a C none)) h2) (ho : os2 = os1) (hb : AllBare g2) :
    ∃ (t0 : Addr) (G : Heap), Inv X pins σ H1 ⟨G, g2, d2, t2, os2⟩ ∧ (∀ b o, G.get? b = some o → h2.get? b = some o) ∧ G.get? a = none ∧
      h2.get? a = some ({ cls := .ref C, dict := none, data := .fields #[.ref t0, .none, .none, .none, .bool false, .none] } : Obj) := by
  obtain ⟨t0, hoe⟩ := exo_at hok upd_same
  have hn : H1 a = none := I1.hok.fresh ha
  obtain ⟨G, g1', g2'⟩ := restrict h2 fun b => decide (b ≠ a)
  have gk : ∀ b, b ≠ a → G.get? b = h2.get? b := fun b hb => g1' b (decide_eq_true hb)
  have ge : G.get? a = none := g2' a (by simp)
  have nha : ∀ {b : Addr} {o : Obj}, hp.get? b = some o → b ≠ a := fun {b o} z => Nat.ne_of_lt (Nat.lt_of_lt_of_le (Heap.lt_size z) ha)
  have up : ∀ {b : Addr}, b ≠ a → H1 b = none → upd H1 a (exo a C none) b = none := fun {b} hb n => by rw [upd_ne hb]; exact n
  have U : Un (frs X.stack) [] H1 H1 hp G := {
    keep := fun b o z n hf hx => by
      rw [gk b (nha z)]
      exact un.keep b o (k b o z) (up (nha z) n) hf hx
    slot := fun b o z n hf hx => by
      rw [gk b (nha z)]
      exact un.slot b o (k b o z) (up (nha z) n) hf hx
    free := fun b o z n hx => n
    there := fun b o z hx => by
      rw [gk b (nha z)]
      exact un.there b o (k b o z) hx
    tups := fun b xs z => z
    frzs := fun b o v z => z
    tbls := fun b ps z => ⟨#[], by rw [z]; simp⟩ }
  have hok3 : HOk X.prog X.w H1 G := fun b o z => by
    have hba : b ≠ a := fun e => by rw [e, hn] at z; cases z
    have z2 : upd H1 a (exo a C none) b = some o := by rw [upd_ne hba]; exact z
    have noa : ∀ {c : Addr}, upd H1 a (exo a C none) c = some (.own b) → c ≠ a := fun {c} hc => at_ne upd_same hc exo_own
    exact (hok b o z2).stay (fun c v hc y => by
        have hca : c ≠ a := by
          rcases hc with hc | hc
          · rw [hc]; exact hba
          · exact noa hc
        rw [gk c hca]
        exact y)
      (fun c hc => by have := noa hc; rw [upd_ne this] at hc; exact hc) (fun c xs hc => by have := at_ne upd_same hc exo_tup; rw [upd_ne this] at hc; exact hc)
  have J : Inv X pins σ H1 ⟨G, g2, d2, t2, os2⟩ := I1.call' (ch := []) ho U hok3 hb (fun b z => absurd z (by simp))
  refine ⟨t0, G, J, fun b o z => ?_, ge, hoe⟩
  by_cases hba : b = a
  · rw [hba, ge] at z
    cases z
  · exact (gk b hba).symm.trans z
theorem pmk_oex0 {x : Str} {p pos : Pos} {C fI : Addr} {k : Nat} {fd : FuncData} {ps : List Str} (T : OexC X.K C) (iC : PySem.W.findIn X.K (.ref C) "__init__" = some (some (.ref fI))) (tI : PySem.W.typeIn X.K (.ref fI) = some (.type "function"))
    (F1 : FnOk X.prog X.w X.K X.mg X.base (L2.CX X.prog X.w) k fI fd ps (spI X.K)) (hr : Room (k + 1) X.A) (hb : Binds X.K fd ps []) (hm : X.mg x = some (.ref C)) (hg : Gl X x := by rfl)
    (hdb : (x == ("__debug__" : Str)) = false := by decide) :
    PMk X (.Call (.Name x p) [] [] pos) (fun _ H Q => Q (.ref C) none H) := by
  intro pins s σ H Q I h
  obtain ⟨nm, q, N, bs, bm, sn, sub, ab, col, dd, k0, k1, k2, k3, k5, hC, hbm⟩ := T.cls
  refine wpAny_Call_Name_kw (ld_glob I hg hm ?_ hdb)
  refine PySem.W.callWith_K0 I.kIn T.kC ?_
  show wpAny _ _ (call (.ref C) []) _ _ _
  have I1 := I
  obtain ⟨hp, g, dr, tk, os⟩ := s
  have hsz : hp.objs.size ≤ hp.objs.size + 1 := Nat.le_succ _
  have hn : H (hp.objs.size + 1) = none := I1.hok.fresh hsz
  have kk : ∀ b o, hp.get? b = some o → ((hp.push (PySem.W.kdv_tup [])).push (PySem.HandSPX.excO C hp.objs.size)).get? b = some o := fun b o e => Heap.get?_push_of_some _ (Heap.get?_push_of_some _ e)
  have hget : ((hp.push (PySem.W.kdv_tup [])).push (PySem.HandSPX.excO C hp.objs.size)).get? (hp.objs.size + 1) = some (PySem.HandSPX.excO C hp.objs.size) := by heap_get
  have I2 : Inv X pins σ (upd H (hp.objs.size + 1) (exo (hp.objs.size + 1) C none)) ⟨(hp.push (PySem.W.kdv_tup [])).push (PySem.HandSPX.excO C hp.objs.size), g, dr, tk, os⟩ :=
    I1.laid (t' := tk) (a := hp.objs.size + 1) (o := exo (hp.objs.size + 1) C none) (h' := (hp.push (PySem.W.kdv_tup [])).push (PySem.HandSPX.excO C hp.objs.size)) kk hsz (exo_ok hget)
  have hq : spI X.K [V.ref (hp.objs.size + 1)] (upd H (hp.objs.size + 1) (exo (hp.objs.size + 1) C none)) (fun v H2 => v = .non ∧ H2 = upd H (hp.objs.size + 1) (exo (hp.objs.size + 1) C none)) (fun _ _ _ => False) :=
    ⟨_, C, rfl, T, upd_same, rfl, rfl⟩
  have r2 : Vals [V.ref (hp.objs.size + 1)] [Value.ref (hp.objs.size + 1)] := .cons rfl .nil
  have hl : ([Value.ref (hp.objs.size + 1)] ++ ([] : List Value)).length = ps.length := by
    have e := r2.length
    rw [F1.len _ _ _ _ hq] at e
    exact e.symm
  have hx : Passes (L2.CX X.prog X.w) X (fun _ _ _ => False) := passL
  refine wpAny_call (PySem.HandSPX.call_own (rest := []) F.excBase_ValueError (fun Y => PySem.HandSPX.refsVE_contains Y bm hbm) (I1.kIn _ _ hC) (PySem.W.looks_findIn I1.kIn iC) (fun self => PySem.W.bind_fn I1.kIn self tI) (Nat.zero_le _)
    (codeAny_mono (F1.run _ X.stack _ _ ⟨[Value.ref (hp.objs.size + 1)], []⟩ [Value.ref (hp.objs.size + 1)] _ _ (fun _ _ _ => False) (hr.make C [] []) (I2.env0.make C [] []) (hb _ [Value.ref (hp.objs.size + 1)] I2.kIn hl) r2 hq) fun r s' hq' => ?_))
  cases r with
  | error er => exact hx pins σ _ _ er s' I2 hq'
  | ok fl =>
    cases fl with
    | ret u =>
      obtain ⟨v, H2, os2, bare2, un2, hok2, rv, ev, eH⟩ := hq'
      subst ev eH
      obtain ⟨h2, g2, d2, t2, os'⟩ := s'
      obtain ⟨t0, G, J, kG, ge, hoe⟩ := mk_endN (d2 := d2) (t2 := t2) I1 hsz kk un2 hok2 os2 bare2
      exact ⟨rv, _, _, _, ⟨G, g2, d2, t2, os'⟩, H, .ref C, none, rfl, J, kG, ge, hoe, ⟨rfl, rfl⟩, rfl, rfl, hn, rfl, bare2, raises_own T.exC T.tyC, h⟩
    | next => exact False.elim hq'
    | brk => exact False.elim hq'
    | cont => exact False.elim hq'
end
end ML
end

section
set_option Elab.async false
set_option linter.all false
set_option maxRecDepth 100000
set_option maxHeartbeats 2000000
/-! # Defs of a program's top, by facts -/
namespace ML
open PySem L2
open PyProof.Rows (envOfC)
def eRv (m : M RV) : M D := bind m fun r => lift (rvD r)
def oRv (m : M RV) : M Ob := bind m fun r => lift (rvO r)
section
variable {ca : CA} {X : Cx} {pos : Pos}
theorem me_gi {x : Str} {i : Int} (h : ∃ t, X.mg x = some (.int i t)) (hg : Gl X x := by rfl) (hd : (x == ("__debug__" : Str)) = false := by decide) : ME ca X (.Name x pos) (eC (.int i)) := by
  obtain ⟨t, h⟩ := h
  exact me_gl (v := .int i) h ⟨t, rfl⟩ (fun ow H => rp_int) hg hd
theorem me_gs {x : Str} {z : Str} (h : ∃ t, X.mg x = some (.str z t)) (hg : Gl X x := by rfl) (hd : (x == ("__debug__" : Str)) = false := by decide) : ME ca X (.Name x pos) (eC (.str z)) := by
  obtain ⟨t, h⟩ := h
  exact me_gl (v := .str z) h ⟨t, rfl⟩ (fun ow H => rp_str) hg hd
/-- the module's name x is a tuple of data -/
def TupG (K : PySem.W.Frag) (mg : Str → Option Value) (x : Str) (ds : List D) : Prop := ∃ (a : Addr), mg x = some (.ref a) ∧ ∀ ow H, Rp K ow H (.tuple ds) (.ref a)
theorem me_gt {x : Str} {ds : List D} (h : TupG X.K X.mg x ds) (hg : Gl X x := by rfl) (hd : (x == ("__debug__" : Str)) = false := by decide) : ME ca X (.Name x pos) (eC (.tuple ds)) := by
  obtain ⟨a, h, r⟩ := h
  exact me_gl (v := .ref a) h rfl r hg hd
end
theorem len1 {m : M (List AV)} {n : Nat} (h : Len m n) : ∀ env as e', m env = .ok as e' → as.length + 1 = n + 1 := fun env as e' q => by rw [h env as e' q]
section
variable {P : Program} {w : World} {K : PySem.W.Frag} {mg : Str → Option Value} {base : Heap} {ca : CA}
theorem fnMD {x qual : Str} {params : Arguments} {body : List Stmt} {scope : Scope} {f : Addr} {fd : FuncData} {N ps : List Str} {k : Nat} {m : MStm} (Fn : FunD K x qual params body scope [] [] f fd) (S : FnScope N ps scope) (hl : ps.length ≤ N.length)
    (hbody : ∀ (cdv : Value) (A : Around) (outer : List Env) (s : Shared) (H : Hp) (E : XK), Room k (A.deeper (envOfC qual scope s.heap.objs.size f cdv)) → MSs ca (cxOf (L2.CX P w) P w K mg base N qual scope f cdv A outer s H E) body m) :
    FnOk P w K mg base (L2.CX P w) (k + 1) f fd ps (spM K ca ps.length (runBody ps.length N.length m)) := by
  refine Fn.ok S (fun vs H Q E ⟨_, _, h, _⟩ => h) fun cdv A outer s H vs Q E hr ⟨ow, args, hv, AO, tr, g⟩ => ?_
  have hp : PassesOwn (model P w) (cxOf (L2.CX P w) P w K mg base N qual scope f cdv A outer s H E).A (cxOf (L2.CX P w) P w K mg base N qual scope f cdv A outer s H E).env (cxOf (L2.CX P w) P w K mg base N qual scope f cdv A outer s H E).xe := PassesOwn.leaving
  refine ⟨_, hbody cdv A outer s H E hr ⟨H, ow, IoA ca args vs, vs, 0⟩ (fun cls d _ H => E cls d H) ⟨takes_of rfl rfl rfl rfl, fun a h => by have z := hr.hd; rw [show (A.deeper (envOfC qual scope s.heap.objs.size f cdv)).handled = some (.ref a) from h] at z; cases z⟩ hp, ?_⟩
  have ha : args.length = ps.length := AO.len.trans hv
  refine ⟨ow, _, AO.rel tr (by omega), ?_⟩
  show GoS K ca _ _ ow H _ _
  unfold runBody at g
  rw [if_pos ha] at g
  rw [← hv] at g
  rw [hv] at g ⊢
  cases hm : m (args ++ List.replicate (N.length - ps.length) .un) with
  | nx e =>
    rw [hm] at g
    dsimp only at g
    by_cases io : ioOk args e = true
    · rw [if_pos io] at g
      exact fun σ' ow' H' s' R' => g .non H' R'.kept (outs_of R' ha io R'.sub) (by unfold Rp; rfl)
    · rw [if_neg io] at g; exact g.elim
  | rt r e =>
    rw [hm] at g
    dsimp only at g
    by_cases io : ioOk args e = true
    · rw [if_pos io] at g
      cases r with
      | d x => exact fun v σ' ow' H' s' R' rp => g v H' R'.kept (outs_of R' ha io R'.sub) (rp.stp (anti R'.sub))
      | o k =>
        intro p σ' ow' H' s' R' ro L
        have sub : ∀ a, more ow p a → ow' a := fun a z => by
          rcases z with z | z
          · exact R'.sub a z
          · rw [z]; exact L.1
        exact g p H' R'.kept L.2.1 ro.there (outs_of R' ha io sub) (ro.stp (anti sub) rfl)
    · rw [if_neg io] at g; exact g.elim
  | ex c e =>
    rw [hm] at g
    dsimp only at g
    by_cases io : ioOk args e = true
    · rw [if_pos io] at g
      exact fun σ' ow' H' s' R' => g H' R'.kept (outs_of R' ha io R'.sub)
    · rw [if_neg io] at g; exact g.elim
  | bk e => rw [hm] at g; exact g.elim
  | ct e => rw [hm] at g; exact g.elim
  | bad => rw [hm] at g; exact g.elim
/-- a function of the top -/
theorem calD {x qual : Str} {params : Arguments} {body : List Stmt} {scope : Scope} {f : Addr} {fd : FuncData} {N ps : List Str} {k : Nat} {m : MStm} (Fn : FunD K x qual params body scope [] [] f fd) (hm : mg x = some (.ref f)) (S : FnScope N ps scope)
    (hb : ∀ (kV doc pm : Value) (an : Option Addr) (cdv ct : Value) (us : List Value), us.length = ps.length → bindArgs (PySem.W.fnOf x qual params body scope .none kV doc pm an cdv ct) ⟨us, []⟩ = pure (ps.zip us))
    (hbody : ∀ (cdv : Value) (A : Around) (outer : List Env) (s : Shared) (H : Hp) (E : XK), Room k (A.deeper (envOfC qual scope s.heap.objs.size f cdv)) → MSs ca (cxOf (L2.CX P w) P w K mg base N qual scope f cdv A outer s H E) body m)
    (hl : ps.length ≤ N.length := by decide) : Cal P w K mg base ca (k + 1) x ps.length (runBody ps.length N.length m) :=
  ⟨f, fd, ps, hm, Fn.kp, Fn.bindsN hb, fnMD Fn S hl hbody⟩
/-- a method -/
theorem mcalD {c x qual : Str} {params : Arguments} {body : List Stmt} {scope : Scope} {f : Addr} {fd : FuncData} {N ps : List Str} {k : Nat} {m : MStm} (Fn : FunD K x qual params body scope [] [] f fd) (hc : Cls K (ca c)) (hm : Meth K (ca c) x f) (S : FnScope N ps scope)
    (hb : ∀ (kV doc pm : Value) (an : Option Addr) (cdv ct : Value) (us : List Value), us.length = ps.length → bindArgs (PySem.W.fnOf x qual params body scope .none kV doc pm an cdv ct) ⟨us, []⟩ = pure (ps.zip us))
    (hbody : ∀ (cdv : Value) (A : Around) (outer : List Env) (s : Shared) (H : Hp) (E : XK), Room k (A.deeper (envOfC qual scope s.heap.objs.size f cdv)) → MSs ca (cxOf (L2.CX P w) P w K mg base N qual scope f cdv A outer s H E) body m)
    (hl : ps.length ≤ N.length := by decide) : MCal P w K mg base ca (k + 1) c x ps.length (runBody ps.length N.length m) :=
  ⟨hc, f, fd, ps, hm, Fn.bindsN hb, fnMD Fn S hl hbody⟩
theorem MCal.mono {j k : Nat} {c m : Str} {n : Nat} {mf : List Sl → CR} (h : MCal P w K mg base ca j c m n mf) (z : j ≤ k) : MCal P w K mg base ca k c m n mf := by
  obtain ⟨f, fd, ps, a, b, d⟩ := h.ex
  exact ⟨h.cls, f, fd, ps, a, b, d.mono z⟩
/-- making -/
theorem makeD {c qual : Str} {params : Arguments} {body : List Stmt} {scope : Scope} {f : Addr} {fd : FuncData} {N ps : List Str} {k : Nat} {m : MStm} (Fn : FunD K "__init__" qual params body scope [] [] f fd) (hc : mg c = some (.ref (ca c))) (hm : Mk K (ca c) f) (S : FnScope N ps scope)
    (hb : ∀ (kV doc pm : Value) (an : Option Addr) (cdv ct : Value) (us : List Value), us.length = ps.length → bindArgs (PySem.W.fnOf "__init__" qual params body scope .none kV doc pm an cdv ct) ⟨us, []⟩ = pure (ps.zip us))
    (hbody : ∀ (cdv : Value) (A : Around) (outer : List Env) (s : Shared) (H : Hp) (E : XK), Room k (A.deeper (envOfC qual scope s.heap.objs.size f cdv)) → MSs ca (cxOf (L2.CX P w) P w K mg base N qual scope f cdv A outer s H E) body m)
    (hl : ps.length ≤ N.length := by decide) : Make P w K mg base ca (k + 1) c ps.length (runBody ps.length N.length m) :=
  ⟨hc, f, fd, ps, hm, Fn.bindsN hb, fnMD Fn S hl hbody⟩
theorem Make.mono {j k : Nat} {c : Str} {n : Nat} {mf : List Sl → CR} (h : Make P w K mg base ca j c n mf) (z : j ≤ k) : Make P w K mg base ca k c n mf := by
  obtain ⟨f, fd, ps, a, b, d⟩ := h.ex
  exact ⟨h.at_, f, fd, ps, a, b, d.mono z⟩
/-- an own error that can be raised -/
structure Rz (P : Program) (w : World) (K : PySem.W.Frag) (mg : Str → Option Value) (base : Heap) (ca : CA) (c : Str) : Prop where
  at_ : mg c = some (.ref (ca c))
  T : OexC K (ca c)
  ex : ∃ (fI : Addr) (fd : FuncData) (ps : List Str), PySem.W.findIn K (.ref (ca c)) "__init__" = some (some (.ref fI)) ∧ PySem.W.typeIn K (.ref fI) = some (.type "function") ∧ FnOk P w K mg base (L2.CX P w) 1 fI fd ps (spI K) ∧ Binds K fd ps []
theorem pmk_r {X : Cx} {p pos : Pos} {c : Str} (r : Rz X.prog X.w X.K X.mg X.base ca c) (hr : Room 2 X.A) (hg : Gl X c := by rfl) (hdb : (c == ("__debug__" : Str)) = false := by decide) : PMk X (.Call (.Name c p) [] [] pos) (fun _ H Q => Q (.ref (ca c)) none H) := by
  obtain ⟨fI, fd, ps, h1, h2, h3, h4⟩ := r.ex
  exact pmk_oex0 r.T h1 h2 h3 hr h4 r.at_ hg hdb
theorem fnID {x qual : Str} {params : Arguments} {body : List Stmt} {scope : Scope} {f : Addr} {fd : FuncData} {y : Str} {k : Nat} (Fn : FunD K x qual params body scope [] [] f fd) (S : FnScope [y] [y] scope)
    (hbody : ∀ (cdv : Value) (A : Around) (outer : List Env) (s : Shared) (H : Hp) (E : XK), PSs (cxOf (L2.CX P w) P w K mg base [y] qual scope f cdv A outer s H E) body (tDrop (tOwI K (tCons (fun σ H Q => ∃ v, σ[0]? = some (some v) ∧ Q v H) tNil)))) :
    FnOk P w K mg base (L2.CX P w) (k + 1) f fd [y] (spI K) := by
  refine Fn.ok S (fun vs H Q E ⟨a, C, e, _⟩ => by rw [e]; rfl) fun cdv A outer s H vs Q E hr ⟨a, C, e, T, ea, q⟩ => ?_
  subst e
  exact ⟨_, hbody cdv A outer s H E, .ref a, rfl, a, C, rfl, T, ea, q⟩
end
/-! ### facts of the written part -/
open He
def oexB (K : PySem.W.Frag) (C : Addr) : Bool := match K.lookup C with
  | some ⟨.type "type", dd, .cls cd, sl⟩ => (match cd.mro, sl.toList with
    | .ref C' :: bm, [k0, k1, k2, k3, some (.builtin n), k5] => C' == C && n == "ValueError.__new__" && !cd.hasDel && cd.hasDict && PySem.HandSPX.refsVE bm
    | _, _ => false) && (eqO (PySem.W.findIn K (.ref C) "__setattr__") (some (some (.builtin "object.__setattr__"))) && decide (PySem.W.subIn K (.ref C) (.type "BaseException") = some true) && decide (PySem.W.typeIn K (.ref C) = some (.type "type")) && PySem.W.keepIn K (.ref C))
  | _ => false
theorem oexB_ok {K : PySem.W.Frag} {C : Addr} (h : oexB K C = true) : OexC K C := by
  unfold oexB at h
  split at h
  · rename_i dd cd sl ho
    obtain ⟨h1, h2⟩ := Bool.and_eq_true_iff.mp h
    obtain ⟨h2, hk⟩ := Bool.and_eq_true_iff.mp h2
    obtain ⟨h2, ht⟩ := Bool.and_eq_true_iff.mp h2
    obtain ⟨h2, hb⟩ := Bool.and_eq_true_iff.mp h2
    split at h1
    · rename_i C' bm k0 k1 k2 k3 n k5 hm hs
      simp only [Bool.and_eq_true, beq_iff_eq, Bool.not_eq_true'] at h1
      obtain ⟨⟨⟨⟨rfl, rfl⟩, hdel⟩, hdict⟩, hve⟩ := h1
      refine ⟨?_, eqO_ok h2, of_decide_eq_true hb, of_decide_eq_true ht, hk⟩
      obtain ⟨nm, bs, mro, ns, qn, hd, sn, sub, ab, col, del⟩ := cd
      dsimp only at hm hdel hdict
      subst hm hdel hdict
      have hsl : sl = #[k0, k1, k2, k3, some (.builtin "ValueError.__new__"), k5] := by
        obtain ⟨l⟩ := sl
        simp only at hs
        rw [hs]
      subst hsl
      exact ⟨nm, qn, ns, bs, bm, sn, sub, ab, col, dd, k0, k1, k2, k3, k5, ho, hve⟩
    · cases h1
  · cases h
def initB (K : PySem.W.Frag) (B : Addr) : Bool := PySem.W.readsIn K B (.type "type") && eqO (PySem.W.specialIn K (.ref B) "__getattribute__") (some (some (.builtin "type.__getattribute__"))) && (match PySem.W.findCls K (.ref B) (.type "type") "__init__" with
  | some (.val v) => decide (v = .builtin "ValueError.__init__")
  | _ => false)
theorem initB_ok {K : PySem.W.Frag} {B : Addr} (h : initB K B = true) : InitOf K B (.type "type") := by
  unfold initB at h
  obtain ⟨h, h3⟩ := Bool.and_eq_true_iff.mp h
  obtain ⟨h1, h2⟩ := Bool.and_eq_true_iff.mp h
  refine ⟨h1, eqO_ok h2, ?_⟩
  split at h3
  · rename_i v hv
    rw [hv, of_decide_eq_true h3]
  · cases h3
def excCB (K : PySem.W.Frag) (C : Addr) : Bool := eqO (PySem.W.findIn K (.ref C) "__getattribute__") (some (some (.builtin "BaseException.__getattribute__"))) && (eqO (PySem.W.findIn K (.ref C) "__getattr__") (some none) && (decide (PySem.W.subIn K (.ref C) (.type "BaseException") = some true) && (PySem.W.hasDictIn K C &&
  (eqO (PySem.W.findIn K (.ref C) "__class__") (some (some (.builtin "object.__class__"))) && (eqO (PySem.W.specialIn K (.builtin "object.__class__") "__get__") (some (some (.builtin "getset_descriptor.__get__"))) && (decide (PySem.W.takesIn K (.builtin "object.__class__") = some true) && decide (PySem.W.mroIn K C (.type "object") = some true)))))))
theorem excCB_ok {K : PySem.W.Frag} {C : Addr} (h : excCB K C = true) : ExcC K C := by
  unfold excCB at h
  obtain ⟨h1, h⟩ := Bool.and_eq_true_iff.mp h
  obtain ⟨h2, h⟩ := Bool.and_eq_true_iff.mp h
  obtain ⟨h3, h⟩ := Bool.and_eq_true_iff.mp h
  obtain ⟨h4, h⟩ := Bool.and_eq_true_iff.mp h
  obtain ⟨h5, h⟩ := Bool.and_eq_true_iff.mp h
  obtain ⟨h6, h⟩ := Bool.and_eq_true_iff.mp h
  obtain ⟨h7, h8⟩ := Bool.and_eq_true_iff.mp h
  exact ⟨eqO_ok h1, eqO_ok h2, of_decide_eq_true h3, h4, eqO_ok h5, eqO_ok h6, of_decide_eq_true h7, of_decide_eq_true h8⟩
/-- a method of an error's class -/
def metB (K : PySem.W.Frag) (C : Addr) (m : Str) : Bool := eqO (PySem.W.findIn K (.ref C) m) (some (some (.ref (ma K C m)))) && decide (PySem.W.typeIn K (.ref (ma K C m)) = some (.type "function"))
/-- a tuple of scalars -/
def dV' : D → Option V := dV
theorem tup_data {K : PySem.W.Frag} {a : Addr} {ds : List D} {vs : List V} (h : SqT K (fun _ => none) a vs) (e : dVs ds = some vs) : ∀ ow H, Rp K ow H (.tuple ds) (.ref a) := fun ow H => by
  unfold Rp
  have sg : sigD ds = false := by
    cases ds with
    | nil => rfl
    | cons d ds =>
      unfold dVs at e
      obtain ⟨v, hv, _⟩ := Option.bind_eq_some_iff.mp e
      have : sigP d = false := by cases d <;> first | rfl | cases hv
      show (true && (sigP d && ds.all sigP)) = false
      rw [this]; rfl
  refine ⟨a, vs, rfl, ⟨?_, fun z => by rw [sg] at z; cases z⟩, ?_⟩
  · rcases h with h | h
    · rcases h with h | ⟨o, h⟩ <;> cases h
    · exact .inr (.inr h)
  · have key : ∀ (ds : List D) (vs : List V), dVs ds = some vs → RpA K ow H ds vs := by
      intro ds
      induction ds with
      | nil => intro vs e; cases e; unfold RpA; rfl
      | cons d ds ih =>
        intro vs e
        unfold dVs at e
        obtain ⟨v, hv, e⟩ := Option.bind_eq_some_iff.mp e
        obtain ⟨us, hus, rfl⟩ := Option.map_eq_some_iff.mp e
        unfold RpA
        refine ⟨v, us, rfl, ?_, ih us hus⟩
        cases d <;> first | cases hv | skip
        all_goals (unfold Rp; rfl)
    exact key ds vs e
/-! ### the hook: what mainGlobals and more roots reach -/
abbrev AlM : Type := AlD × Bool
def obsM (rt : List Addr) (fa : List Fa) (fn : List DefD) (ex : PySem.W.Frag → Bool) (n : Nat) (g : Addr → Option Obj) : AlM := (obsD fa fn (frG g (asD g n ++ rt)), ex (frG g (asD g n ++ rt)))
def valM (fn : List DefD) : AlM := (He.valD fn, true)
structure SaysM (fa : List Fa) (fn : List DefD) (ex : PySem.W.Frag → Bool) (K : PySem.W.Frag) : Prop where
  d : SaysD fa fn K
  more : ex K = true
def hookM (rt : List Addr) (n : Nat) (fa : List Fa) (fn : List DefD) (ex : PySem.W.Frag → Bool) : PySem.W.Hook where
  α := AlM
  obs := fun s => obsM rt fa fn ex n s.heap.get?
  val := fun _ => valM fn
  says := fun _ h => ∃ K : PySem.W.Frag, K.In h ∧ SaysM fa fn ex K
  of := fun _ _ e => ⟨_, frG_in, congrArg (fun z : AlM => z.1) e, congrArg (fun z : AlM => z.2) e⟩
  keeps := fun _ _ _ ⟨K, hK, c⟩ k => ⟨K, PySem.W.Frag.In.keeps hK k, c⟩
theorem obsM_eq {rt : List Addr} {n : Nat} {fa : List Fa} {fn : List DefD} {ex : PySem.W.Frag → Bool} {g : Addr → Option Obj} {s : Shared} (h : ∀ a, g a = s.heap.get? a) : obsM rt fa fn ex n g = (hookM rt n fa fn ex).obs s := by
  have e : g = s.heap.get? := funext h
  rw [e] <;> rfl
end ML
end

section
set_option Elab.async false
set_option linter.all false
set_option maxRecDepth 100000
set_option maxHeartbeats 2000000
/-! # A lambda without parameters handed to a def that calls it once, within a try -/
namespace ML
open PySem L2 LamX
open PyProof.Rows (envOfC)
/-- how a lambda's making may change the heap -/
def LamStep (H : Hp) (P : Addr) (q : Str) (H1 : Hp) : Prop := H1 = H ∨ ∃ (ps more : Array Value) (c' : Addr), H P = some (.tbl ps) ∧ H c' = none ∧ TriplesOk (ps ++ more).toList ∧
  (∀ (pos : Pos) (cv : Value), codeAmong pos (ps ++ more).toList = some cv → codeAmong pos ps.toList = some cv ∨ cv = .ref c') ∧ H1 = upd (upd H P (.tbl (ps ++ more))) c' (CodeO c' q)
section
variable {X : Cx} {pins : List (Addr × Obj)} {σ : L2.St} {H : Hp} {s : Shared}
theorem lamMake {c P : Addr} {ps : Array Value} {params : Arguments} {body : Expr} {scope : Scope} {pos : Pos} {E : Value → Shared → Prop} {Q : Value → Shared → Prop} (I : Inv X pins σ H s) (TB : TabB X.base X.mg c P) (hcode : X.env.code = .ref c)
    (hP : H P = some (.tbl ps)) (ht : TriplesOk ps.toList) (ha : ∀ (pos : Pos) (cv : Value), codeAmong pos ps.toList = some cv → ∃ c, cv = .ref c ∧ H c = some (CodeO c (X.env.qual ++ "<lambda>")))
    (hdef : defaultsOf params X.env = ([], [])) (hfree : ∀ y ∈ scope.names, y.2 = .free → ∃ c, X.env.cells.lookup y.1 = some c)
    (go : ∀ (f c' : Addr) (pm ctv : Value) (H1 : Hp) (s' : Shared), Inv X pins σ H1 s' → LamStep H P (X.env.qual ++ "<lambda>") H1 →
      s'.heap.get? f = some (PySem.W.kla_obj "<lambda>" (X.env.qual ++ "<lambda>") params body scope (cloFrom X.env.cells scope.names []) pm c' ctv) → H1 f = none → f ∉ frs X.stack → H1 c' = some (CodeO c' (X.env.qual ++ "<lambda>")) → Q (.ref f) s') :
    wpAny (model X.prog X.w) X.A (eval (.Lambda params body scope pos) X.env) Q E s := by
  have hb := TB.bm.keeps I.bk
  have hPh : s.heap.get? P = some { cls := .none, data := .fields ps } := I.hok P _ hP
  have away : ∀ f, s.heap.objs.size ≤ f → f ∉ frs X.stack := fun f hf z => (List.mem_cons.mp (I.stkSub _ z)).elim (fun e => Nat.lt_irrefl _ (Nat.lt_of_lt_of_le (e ▸ I.lt) hf)) (I.nofs hf)
  refine PySem.W.kla_eval hdef ?_
  rcases hc : codeAmong pos ps.toList with _ | cv
  · refine PySem.W.kla_makeFunction (closure_ok hfree) I.ok.glob (I.mod.glob.keeps I.bk) hcode (TB.code.keeps I.bk) hPh ht hc TB.gP hb fun c' ctv h' tk hx hge hlt ⟨c2, oc, vs, t, e2, hoc, hd, hv⟩ htb => ?_
    obtain rfl : c' = c2 := by cases e2; rfl
    have fresh : H c' = none := I.hok.fresh hge
    have big := Nat.le_trans hge (Nat.le_of_lt hlt)
    have J := inv_table (t' := tk) (more := #[rawInt pos.line, rawInt pos.col, .ref c']) (h' := h'.push (PySem.W.kla_obj "<lambda>" (X.env.qual ++ "<lambda>") params body scope (cloFrom X.env.cells scope.names []) ((X.mg "__name__").getD .none) c' ctv)) I hP
      (fun b o nb e => Heap.get?_push_of_some _ (hx b o nb e)) (Heap.get?_push_of_some _ htb) hge ⟨oc, vs, t, Heap.get?_push_of_some _ hoc, hd, hv⟩
    have lst : (ps ++ #[rawInt pos.line, rawInt pos.col, .ref c']).toList = ps.toList ++ [rawInt pos.line, rawInt pos.col, .ref c'] := by simp
    refine go h'.objs.size c' _ ctv _ _ J (.inr ⟨ps, _, c', hP, fresh, ?_, fun p cv h => ?_, rfl⟩) (Heap.get?_push_size _ rfl) ?_ (away _ big) upd_same
    · rw [lst]; exact PySem.TriplesOk_snoc _ _ _ _ ht
    · rw [lst] at h; exact among_app _ ht h
    · rw [upd_ne (Nat.ne_of_gt hlt), upd_ne (Nat.ne_of_gt (Nat.lt_of_lt_of_le (Heap.lt_size hPh) big))]
      exact I.hok.fresh big
  · obtain ⟨c', rfl, hco⟩ := ha pos cv hc
    refine PySem.W.kla_makeFunctionHit (closure_ok hfree) I.ok.glob (I.mod.glob.keeps I.bk) hcode (TB.code.keeps I.bk) hPh ht hc hb fun ctv h' tk hx big => ?_
    exact go h'.objs.size c' _ ctv H _ (I.kept fun b o e => Heap.get?_push_of_some _ (hx b o e)) (.inl rfl) (Heap.get?_push_size _ rfl) (I.hok.fresh big) (away _ big) hco
end
section
variable {K : PySem.W.Frag} {ca : CA} {F : Fr} {ow : Addr → Prop} {env : List Sl} {H H1 : Hp} {σ : St}
theorem Rel.lam (R : Rel K ca F ow env σ H) {P : Addr} {q : Str} (hP : (P, q) ∈ ca.tb) (hu : ∀ p ∈ ca.tb, p.1 = P → p.2 = q) (l : LamStep H P q H1) : Rel K ca F ow env σ H1 ∧ Go σ ow env H ow env H1 := by
  rcases l with rfl | ⟨ps, more, c', h1, h2, h3, h4, rfl⟩
  · exact ⟨R, Go.refl⟩
  have nP : ¬ P = c' := fun z => by rw [z, h2] at h1; cases h1
  obtain ⟨wP, ioP, thP, _⟩ := R.tab _ hP
  have at_ : ∀ {a : Addr} {o : HO}, H a = some o → a ≠ P → upd (upd H P (.tbl (ps ++ more))) c' (CodeO c' q) a = some o := fun {a o} e n => by
    rw [upd_ne (fun z => by rw [z, h2] at e; cases e), upd_ne n]; exact e
  have nw : ¬ ow c' := fun z => by
    obtain ⟨o, e⟩ := R.trk _ z
    rw [h2] at e; cases e
  have st : Stp ow H ow (upd (upd H P (.tbl (ps ++ more))) c' (CodeO c' q)) := fun a o e n _ => ⟨at_ e (fun z => n (z ▸ wP)), n⟩
  have sl : ∀ {p : Addr} {k : Ob}, OwnR K ca ow H p k → upd (upd H P (.tbl (ps ++ more))) c' (CodeO c' q) p = H p := fun {p k} r => by
    obtain ⟨o, e⟩ := r.there
    rw [e]
    exact at_ e fun z => r.noTbl (ps := ps) (by rw [z]; exact h1)
  refine ⟨R.step rfl (fun i s' h => .inl ⟨h, fun l k p hs hp => ?_⟩) st (fun _ h => h) (fun a z => ?_) (fun a z => ?_) (fun a o e n nt => ?_) (fun a e => ?_) (fun p hp => ?_), ⟨st, fun p w nt n => ⟨w, ?_, n⟩, fun a e => ?_⟩⟩
  · subst hs
    obtain ⟨p', ep, _, r⟩ := R.own h
    rw [hp] at ep; cases ep
    exact sl r
  · by_cases e : a = P
    · exact ⟨.tbl (ps ++ more), by rw [e, upd_ne nP, upd_same]⟩
    · obtain ⟨o, ho⟩ := R.trk a z
      exact ⟨o, at_ ho e⟩
  · refine (R.knd a z).imp id fun m => ?_
    obtain ⟨o, ho⟩ := m.there
    rw [ho] at m
    rw [at_ ho fun e => m.nt ps (by rw [e, h1] at ho; exact (Option.some.inj ho).symm)]
    exact m
  · exact at_ (R.keep a o e n nt) fun z => nt ps (by have := R.keep a o e n nt; rw [z, h1] at this; exact (Option.some.inj this).symm)
  · cases h : H a with
    | none => rfl
    | some o =>
      exfalso
      by_cases z : a = P
      · rw [z, upd_ne nP, upd_same] at e; cases e
      · rw [at_ h z] at e; cases e
  · by_cases z : p.1 = P
    · rw [hu p hp z, z]
      refine ⟨_, by rw [upd_ne nP, upd_same], h3, fun pos cv h => ?_⟩
      obtain ⟨ps', a1, a2, a3⟩ := (R.tab _ hP).2.2.2
      have a1' : H P = some (.tbl ps') := a1
      rw [h1] at a1'
      cases a1'
      rcases h4 pos cv h with h5 | rfl
      · obtain ⟨c, e1, e2, n⟩ := a3 pos cv h5
        refine ⟨c, e1, at_ e2 (fun z => ?_), n⟩
        rw [z, h1] at e2
        exact nt_code ps (Option.some.inj e2).symm
      · exact ⟨c', rfl, upd_same, nw⟩
    · exact (R.tab p hp).2.2.2.stp st (by
        obtain ⟨ps', e⟩ := (R.tab p hp).2.2.2.tbl
        rw [e]; exact at_ e z)
  · obtain ⟨o, ho⟩ := R.trk p w
    rw [ho]
    exact at_ ho fun z => nt ⟨ps, by rw [z]; exact h1⟩
  · cases h : H a with
    | none => rfl
    | some o =>
      exfalso
      by_cases z : a = P
      · rw [z, upd_ne nP, upd_same] at e; cases e
      · rw [at_ h z] at e; cases e
end
end ML
end

section
set_option Elab.async false
set_option linter.all false
set_option maxRecDepth 100000
set_option maxHeartbeats 2000000
namespace ML
open PySem L2 LamX
open PyProof.Rows (envOfC)
/-- which word the handlers have for an error of a class -/
def chain (K : PySem.W.Frag) : List (Value × Str) → (Str → Prop) → Value → Prop
  | [], _, _ => False
  | (c, w) :: r, k, cls => ∃ b, PySem.W.exmOne K cls c = some b ∧ (b = true → k w) ∧ (b = false → chain K r k cls)
/-- a def that calls what it got: kT behind a value, kW behind a handled error -/
def TTw (K : PySem.W.Frag) (l : List (Value × Str)) (kT : V → Hp → VK → Prop) (kW : Str → Hp → VK → Prop) : (XK → Hp → VK → Prop) → Hp → VK → Prop := fun tl H Q => tl (fun cls _ H' => chain K l (fun w => kW w H' Q) cls) H (fun v H' => kT v H' Q)
def eSaid (rT : D → D) (rW : Str → D) (pk : Str → Option Str) (m : M D) : M D := fun e => match m e with
  | .ok x e' => .ok (rT x) e'
  | .ex c e' => match pk c with
    | some w => .ok (rW w) e'
    | none => .bad
  | .bad => .bad
/-- what the def gives of a value, of a word -/
def GvT (K : PySem.W.Frag) (kT : V → Hp → VK → Prop) (rT : D → D) : Prop := ∀ (v : V) (x : D) (ow : Addr → Prop) (H : Hp) (Q : VK), Trk ow H → Rp K ow H x v → (∀ v' H', Gr H H' → Rp K ow H' (rT x) v' → Q v' H') → kT v H Q
def GvW (K : PySem.W.Frag) (kW : Str → Hp → VK → Prop) (rW : Str → D) : Prop := ∀ (w : Str) (ow : Addr → Prop) (H : Hp) (Q : VK), Trk ow H → (∀ v' H', Gr H H' → Rp K ow H' (rW w) v' → Q v' H') → kW w H Q
structure SaidD (X : Cx) (x a : Str) (Ng : List Str) (sg : Scope) (bg : List Stmt) (l : List (Value × Str)) (kT : V → Hp → VK → Prop) (kW : Str → Hp → VK → Prop) : Prop where
  ex : ∃ (g : Addr) (pg : Arguments) (dV kV doc pm cdv ct oc : Value) (an od : Option Addr) (osl : Array (Option Value)), X.mg x = some (.ref g) ∧ PySem.W.keepIn X.K (.ref g) = true ∧
    X.K.lookup g = some ⟨oc, od, .func (PySem.W.fnOf x x pg bg sg dV kV doc pm an cdv ct), osl⟩ ∧ PySem.W.codeIn X.K cdv x = true ∧ L2.Binds X.K (PySem.W.fnOf x x pg bg sg dV kV doc pm an cdv ct) [a] []
  S : FnScope Ng [a] sg
  at0 : Ng[0]? = some a
  vis : Vis sg a
section
variable {ca : CA} {X : Cx}
theorem me_said {x a : Str} {c P : Addr} {k : Nat} {Ng : List Str} {sg : Scope} {bg : List Stmt} {l : List (Value × Str)} {kT : V → Hp → VK → Prop} {kW : Str → Hp → VK → Prop} {rT : D → D} {rW : Str → D} {pk : Str → Option Str} {params : Arguments} {body : Expr} {scope : Scope} {m : M D} {p lpos pos : Pos}
    (sd : SaidD X x a Ng sg bg l kT kW) (hT : GvT X.K kT rT) (hW : GvW X.K kW rW) (hpk : ∀ (e w : Str) (q : Str → Prop), pk e = some w → q w → chain X.K l q (.ref (ca e)))
    (hG : ∀ (g : Addr) (cdv : Value), GivesTo X Ng x sg g cdv bg a (X.env.qual ++ "<lambda>") (TTw X.K l kT kW))
    (TB : TabB X.base X.mg c P) (hcode : X.env.code = .ref c) (hmT : (P, X.env.qual ++ "<lambda>") ∈ ca.tb) (hu : ∀ p ∈ ca.tb, p.1 = P → p.2 = X.env.qual ++ "<lambda>") (hr : Room (k + 2) X.A)
    (L : LamS X.env.scope scope) (hbody : ∀ (A : Around) (outer : List Env) (s : Shared) (H : Hp) (E : XK) (f c' : Addr), Room k (A.deeper (lamEnv X scope s.heap.objs.size f c')) → ME ca (lamCx X A outer s H E scope f c') body m)
    (hg : Gl X x := by rfl) (hdef : defaultsOf params X.env = ([], []) := by rfl)
    (hbind : ∀ (q : Str) (cl : List (Str × Addr)) (pm cv ctv : Value), bindArgs (PySem.W.kla_fn "<lambda>" q params body scope cl pm cv ctv) ⟨[], []⟩ = pure [] := by intro _ _ _ _ _; rfl)
    (hdb : (x == ("__debug__" : Str)) = false := by decide) (hd : (a == ("__debug__" : Str)) = false := by decide) (hcd : (a == ("__classdict__" : Str)) = false := by decide) :
    ME ca X (.Call (.Name x p) [.Lambda params body scope lpos] [] pos) (eSaid rT rW pk m) := fun F W tk => ⟨fun pins s σ H Q I ⟨ow, env, R, q⟩ => by
  obtain ⟨g, pg, dV, kV, doc, pm, cdv, ct, oc, an, od, osl, hm, hk, lk, hcg, hb⟩ := sd.ex
  obtain ⟨wP, ioP, thP, ps, t1, t2, t3⟩ := R.tab _ hmT
  refine wpAny_Call_Name_kw (ld_glob I hg hm (PySem.W.callWith_K (h₀ := X.base) I.ok.mod.kin hk (Calls.spliced_cons (lamMake I TB hcode t1 t2 (fun pos cv h => (t3 pos cv h).elim fun d z => ⟨d, z.1, z.2.1⟩) hdef (L.has I.ok) fun f c' pm' ctv H1 s' J ls hf hfn hfr hco => Calls.spliced_nil ⟨J.kIn, ?_⟩)) rfl rfl) hdb)
  obtain ⟨R1, g1⟩ := R.lam hmT hu ls
  have key : TTw X.K l kT kW (fun E H' Q' => tE X.K ca F (fun cls d _ H => E cls d H) m σ H' Q') H1 Q := by
    refine ⟨ow, env, R1, ?_⟩
    unfold eSaid at q
    cases hme : m env with
    | bad => rw [hme] at q; exact q.elim
    | ok y e' =>
      rw [hme] at q
      exact fun v ow2 H2 go2 R2 rp => hT v y ow2 H2 Q R2.trk rp fun v' H' gr rp' => q v' ow2 H' ((g1.trans go2).trans (Go.gr R2 gr)) (R2.gr gr) rp'
    | ex d e' =>
      simp only [hme] at q
      cases hw : pk d with
      | none => rw [hw] at q; exact q.elim
      | some w =>
        rw [hw] at q
        exact fun ow2 H2 go2 R2 => hpk d w _ hw (hW w ow2 H2 Q R2.trk fun v' H' gr rp' => q v' ow2 H' ((g1.trans go2).trans (Go.gr R2 gr)) (R2.gr gr) rp')
  have run : codeAny (model X.prog X.w) X.A (.call (.ref g) ⟨[.ref f], []⟩) (L2.CR C8.CX0 X.stack X.prog X.w H1 s' Q C8.E0) s' := run_ofS (N := Ng) (ps := [a]) (us := [.ref f]) (vs := [.ref f]) lk hcg sd.S hr J.env0 (hb s' [.ref f] J.kIn rfl) (.cons rfl .nil) rfl fun hr' => by
    obtain ⟨t, ht, hq⟩ := hG g cdv f c' s' H1 Q (fun E H' Q' => tE X.K ca F (fun cls d _ H => E cls d H) m σ H' Q') (fun W pn xe E p1 p2 tk2 hW2 => pe_act (i := 0) (k := k) J L hf hfn hfr (hbind _ _ _ _ _) tk2 hW2 hr' (fun A2 o2 s2 H2 r2 => hbody A2 o2 s2 H2 E f c' r2 F (fun cls d _ H => E cls d H) ⟨takes_of rfl rfl rfl rfl, fun a h => by
      have z := r2.hd
      rw [show (A2.deeper (lamEnv X scope s2.heap.objs.size f c')).handled = some (.ref a) from h] at z
      cases z⟩) sd.at0 sd.vis hd hcd) hco key
    exact ⟨t, ht.nox, hq⟩
  exact wpAny_call (codeAny_mono run fun r s2 hq => match r, hq with
    | .error e, hq => (show False from hq).elim
    | .ok (.ret u), hq => J.after hq
    | .ok .next, hq => False.elim hq
    | .ok .brk, hq => False.elim hq
    | .ok .cont, hq => False.elim hq)⟩
end
end ML
end

section
set_option Elab.async false
set_option linter.all false
set_option maxRecDepth 100000
set_option maxHeartbeats 2000000
/-! # The two shapes of such a def; the defs with lambdas; the law's end with tables -/
namespace ML
open PySem L2 LamX He
open PyProof.Rows (envOfC)
section
variable {X : Cx} {sg : Scope}
def kTId : V → Hp → VK → Prop := fun v H Q => Q v H
def kWLst : Str → Hp → VK → Prop := fun w H Q => ∀ p, H p = none → Q (.ref p) (upd H p (.lst [.str w]))
def kTStr (t : Str) : V → Hp → VK → Prop := fun _ H Q => Q (.str t) H
def kWStr : Str → Hp → VK → Prop := fun w H Q => Q (.str w) H
theorem gvT_id {K : PySem.W.Frag} : GvT K kTId id := fun v x ow H Q _ r k => k v H Gr.refl r
theorem gvW_lst {K : PySem.W.Frag} : GvW K kWLst (fun w => .list [.str w]) := fun w ow H Q tr k p hp => k _ _ (Gr.new hp) (by
  unfold Rp
  refine ⟨p, [.str w], rfl, upd_same, fun z => ?_, ?_⟩
  · obtain ⟨o, h⟩ := tr p z
    rw [hp] at h; cases h
  · unfold RpA
    exact ⟨_, _, rfl, rp_str, by unfold RpA; rfl⟩)
theorem gvT_str {K : PySem.W.Frag} {t : Str} : GvT K (kTStr t) (fun _ => .str t) := fun v x ow H Q _ r k => k _ H Gr.refl rp_str
theorem gvW_str {K : PySem.W.Frag} : GvW K kWStr (fun w => .str w) := fun w ow H Q tr k => k _ H Gr.refl rp_str
/-- handlers that hand back a written list of one word -/
inductive HdA (mg : Str → Option Value) (sg : Scope) : List ExceptHandler → List (Value × Str) → Prop
  | nil : HdA mg sg [] []
  | cons {e w : Str} {v : Value} {hds : List ExceptHandler} {l : List (Value × Str)} {j : Nat} {p1 p2 p3 p4 p5 : Pos} (h1 : mg e = some v) (r : HdA mg sg hds l) (h2 : sg.names.lookup e = some .globalImplicit := by rfl) (h3 : (e == ("__debug__" : Str)) = false := by decide) :
      HdA mg sg (.ExceptHandler (some (.Name e p1)) none [.Return (some (.List [.Constant (.str w) j p2] p3)) p4] p5 :: hds) ((v, w) :: l)
/-- .. that store a word in slot i -/
inductive HdB (mg : Str → Option Value) (sg : Scope) (y : Str) : List ExceptHandler → List (Value × Str) → Prop
  | nil : HdB mg sg y [] []
  | cons {e w : Str} {v : Value} {hds : List ExceptHandler} {l : List (Value × Str)} {j : Nat} {p1 p2 p3 p4 p5 : Pos} (h1 : mg e = some v) (r : HdB mg sg y hds l) (h2 : sg.names.lookup e = some .globalImplicit := by rfl) (h3 : (e == ("__debug__" : Str)) = false := by decide) :
      HdB mg sg y (.ExceptHandler (some (.Name e p1)) none [.Assign [.Name y p2] (.Constant (.str w) j p3) p4] p5 :: hds) ((v, w) :: l)
theorem chain_many {K : PySem.W.Frag} {Wout : WX} {D : Ends} {ts : Str → TS} {σ : L2.St} {H : Hp} {cls : Value} {d : Option Addr} : ∀ {l : List (Value × Str)}, chain K l (fun w => ts w D σ H) cls → wMany K Wout D (l.map fun q => (q.1, fun _ _ _ => ts q.2)) cls d σ H
  | [], h => h.elim
  | (c, w) :: r, h => by
    obtain ⟨b, e, h1, h2⟩ := h
    exact ⟨b, e, fun z _ _ => h1 z, fun z => chain_many (h2 z)⟩
theorem hdA_ok {Z : Cx} {hds : List ExceptHandler} {l : List (Value × Str)} (h : HdA Z.mg Z.env.scope hds l) : HdsOk Z hds (l.map fun q => (q.1, fun _ _ _ => (fun D σ H => kWLst q.2 H D.rt : TS))) := by
  induction h with
  | nil => exact .nil
  | cons h1 r h2 h3 ih =>
    refine .cons ⟨h2, h3, .inl h1⟩ (fun a oe cls d pn _ _ => ?_) ih
    exact PSs.imp (pss_one (ps_ret (pe_lst (pa_cons pe_str pa_nil)))) fun D σ H q => ⟨by show 1 ≤ sizeLine; rw [sizeLine_eq]; decide, fun p hp => q p hp⟩
/-- try: return a() except ..: return [..] -/
theorem gives_A {Ng : List Str} {x a q : Str} {g : Addr} {cdg : Value} {hds : List ExceptHandler} {l : List (Value × Str)} {p1 p2 p3 p8 : Pos} (h : HdA X.mg sg hds l) (hne : hds ≠ []) (h0 : ∀ f : Addr, (L2.start Ng [V.ref f])[0]? = some (some (V.ref f))) :
    GivesTo X Ng x sg g cdg [.Try [.Return (some (.Call (.Name a p1) [] [] p2)) p3] hds [] [] p8] a q (TTw X.K l kTId kWLst) := fun f c' s H Q tl act hc told => by
  obtain ⟨hd, tls, rfl⟩ : ∃ hd tls, hds = hd :: tls := by
    cases hds with
    | nil => exact absurd rfl hne
    | cons hd tls => exact ⟨hd, tls, rfl⟩
  refine ⟨_, pss_one (ps_try_many (X := (cxOf C8.CX0 X.prog X.w X.K X.mg X.base Ng x sg g cdg X.A X.stack s H C8.E0).nox) (Wout := fun _ _ _ _ => False)
    (tb := fun W D σ H => ∃ E : XK, (∀ cls d σ' H', E cls d H' → W cls d σ' H') ∧ σ[0]? = some (some (.ref f)) ∧ H c' = some (CodeO c' q) ∧ tl E H D.rt) rfl rfl L2.takes0 (fun W pn xe tk _ => ⟨fun pins s' σ H' D I ⟨E, hW, z1, z2, z3⟩ => (pss_one (ps_ret (pos := p3) (act W pn xe E p1 p2 tk hW))).run pins s' σ H' D I ⟨z1, z2, z3⟩⟩) (hdA_ok h)), ?_⟩
  exact ⟨fun cls _ H' => chain X.K l (fun w => kWLst w H' Q) cls, fun cls d σ' H' z => chain_many (ts := fun w => (fun D σ H => kWLst w H D.rt)) z, h0 f, hc, told⟩
theorem hdB_ok {Z : Cx} {y : Str} {i : Nat} {hds : List ExceptHandler} {l : List (Value × Str)} (hN : Z.N.Nodup) (hi : Z.N[i]? = some y) (hx : Loc Z.env.scope y) (hf : Z.fn y = true) (h : HdB Z.mg Z.env.scope y hds l) :
    HdsOk Z hds (l.map fun q => (q.1, fun _ _ _ => (fun D σ H => D.nx (σ.set i (some (.str q.2))) H : TS))) := by
  induction h with
  | nil => exact .nil
  | cons h1 r h2 h3 ih =>
    refine .cons ⟨h2, h3, .inl h1⟩ (fun a oe cls d pn _ _ => ?_) ih
    exact PSs.imp (pss_one (ps_set (i := i) hN hi hx pe_str rfl (.inl hf))) fun D σ H q => q
/-- y = ".."; try: a() except ..: y = ".."; return y -/
theorem gives_B {x a y q told : Str} {g : Addr} {cdg : Value} {hds : List ExceptHandler} {l : List (Value × Str)} {j1 : Nat} {p1 p2 p3 p4 p5 p6 p7 p8 p9 p10 : Pos} (h : HdB X.mg sg y hds l) (hne : hds ≠ []) (hN : [a, y].Nodup) (hx : Loc sg y) (hv : Vis sg y) (hd : (y == ("__debug__" : Str)) = false := by decide) (hcd : (y == ("__classdict__" : Str)) = false := by decide) :
    GivesTo X [a, y] x sg g cdg [.Assign [.Name y p1] (.Constant (.str told) j1 p2) p3, .Try [.Expr (.Call (.Name a p4) [] [] p5) p6] hds [] [] p7, .Return (some (.Name y p8)) p9] a q (TTw X.K l (kTStr told) kWStr) := fun f c' s H Q tl act hc tl0 => by
  obtain ⟨hd1, tls, rfl⟩ : ∃ hd tls, hds = hd :: tls := by
    cases hds with
    | nil => exact absurd rfl hne
    | cons hd tls => exact ⟨hd, tls, rfl⟩
  refine ⟨_, pss_cons (ps_set (X := (cxOf C8.CX0 X.prog X.w X.K X.mg X.base [a, y] x sg g cdg X.A X.stack s H C8.E0).nox) (i := 1) hN rfl hx pe_str rfl (.inl rfl))
    (pss_cons (ps_try_many (X := (cxOf C8.CX0 X.prog X.w X.K X.mg X.base [a, y] x sg g cdg X.A X.stack s H C8.E0).nox) (Wout := fun _ _ _ _ => False)
      (tb := fun W D σ H => ∃ E : XK, (∀ cls d σ' H', E cls d H' → σ'.length = 2 → W cls d σ' H') ∧ σ = [some (.ref f), some (.str told)] ∧ H c' = some (CodeO c' q) ∧ tl E H (fun _ H' => D.nx σ H')) rfl rfl L2.takes0
      (fun W pn xe tk _ => ⟨fun pins s' σ H' D I ⟨E, hW, z1, z2, z3⟩ => (pss_one (ps_expr (pos := p6) (act (fun cls d σ H => σ.length = 2 → W cls d σ H) pn xe E p4 p5 (fun u s' ⟨a, B, sI, pins, σ, H, cls, d, e, I, nb, up, sky, na, os, ag, w⟩ => tk u s' ⟨a, B, sI, pins, σ, H, cls, d, e, I, nb, up, sky, na, os, ag, w I.len⟩) hW))).run pins s' σ H' D I ⟨by rw [z1]; rfl, z2, z3⟩⟩) (hdB_ok (i := 1) hN rfl hx rfl h))
    (pss_one (ps_ret (pe_var (i := 1) rfl hv hd hcd)))), ?_⟩
  refine ⟨fun cls _ H' => chain X.K l (fun w => kWStr w H' Q) cls, fun cls d σ' H' z hl => ?_, rfl, hc, ?_⟩
  · refine chain_many (ts := fun w => (fun D σ H => D.nx (σ.set 1 (some (.str w))) H)) ?_
    have e : (fun w => ∃ v, (σ'.set 1 (some (V.str w)))[1]? = some (some v) ∧ Q v H') = fun w => kWStr w H' Q := by
      funext w
      rw [List.getElem?_set_self (by omega)]
      refine propext ⟨fun ⟨v, h1, h2⟩ => by cases h1; exact h2, fun h => ⟨_, rfl, h⟩⟩
    show chain X.K l (fun w => ∃ v, (σ'.set 1 (some (V.str w)))[1]? = some (some v) ∧ Q v H') cls
    rw [e]; exact z
  · have e : (fun (_ : V) (H' : Hp) => ∃ v, ([some (V.ref f), some (V.str told)] : L2.St)[1]? = some (some v) ∧ Q v H') = fun v H' => kTStr told v H' Q := by
      funext v H'
      exact propext ⟨fun ⟨v, h1, h2⟩ => by cases h1; exact h2, fun h => ⟨_, rfl, h⟩⟩
    show tl _ H (fun (_ : V) (H' : Hp) => ∃ v, ([some (V.ref f), some (V.str told)] : L2.St)[1]? = some (some v) ∧ Q v H')
    rw [e]; exact tl0
end
section
variable {P : Program} {w : World} {K : PySem.W.Frag} {mg : Str → Option Value} {base : Heap} {ca : CA}
theorem fnMDc {x qual : Str} {params : Arguments} {body : List Stmt} {scope : Scope} {f : Addr} {fd : FuncData} {N ps : List Str} {k : Nat} {m : MStm} (Fn : FunD K x qual params body scope [] [] f fd) (S : FnScope N ps scope) (p : He.Defn) (hf : f = He.fAd K p) (hl : ps.length ≤ N.length)
    (hbody : ∀ (cdv : Value), cdv = .ref (He.codeOf K p) → ∀ (A : Around) (outer : List Env) (s : Shared) (H : Hp) (E : XK), Room k (A.deeper (envOfC qual scope s.heap.objs.size f cdv)) → MSs ca (cxOf (L2.CX P w) P w K mg base N qual scope f cdv A outer s H E) body m) :
    FnOk P w K mg base (L2.CX P w) (k + 1) f fd ps (spM K ca ps.length (runBody ps.length N.length m)) := by
  match Fn.ex with
  | ⟨_, _, _, _, _, _, _, cdv, _, _, e1, lk, hcd, _⟩ =>
  subst e1
  have hc : cdv = .ref (He.codeOf K p) := by
    obtain ⟨c, e⟩ := He.codeIn_ref hcd
    rw [He.codeOf_eq (p := p) (hf ▸ lk) e]; exact e
  refine fn_of lk hcd S (fun vs H Q E z => z.elim fun _ z => z.elim fun _ z => z.1) fun A outer s H vs Q E hr ⟨ow, args, hv, AO, tr, g⟩ => ?_
  have hp : PassesOwn (model P w) (cxOf (L2.CX P w) P w K mg base N qual scope f cdv A outer s H E).A (cxOf (L2.CX P w) P w K mg base N qual scope f cdv A outer s H E).env (cxOf (L2.CX P w) P w K mg base N qual scope f cdv A outer s H E).xe := PassesOwn.leaving
  refine ⟨_, hbody cdv hc A outer s H E hr ⟨H, ow, IoA ca args vs, vs, 0⟩ (fun cls d _ H => E cls d H) ⟨takes_of rfl rfl rfl rfl, fun a h => by have z := hr.hd; rw [show (A.deeper (envOfC qual scope s.heap.objs.size f cdv)).handled = some (.ref a) from h] at z; cases z⟩ hp, ?_⟩
  have ha : args.length = ps.length := AO.len.trans hv
  refine ⟨ow, _, AO.rel tr (by omega), ?_⟩
  show GoS K ca _ _ ow H _ _
  unfold runBody at g
  rw [if_pos ha] at g
  rw [← hv] at g
  rw [hv] at g ⊢
  cases hm : m (args ++ List.replicate (N.length - ps.length) .un) with
  | nx e =>
    rw [hm] at g
    dsimp only at g
    by_cases io : ioOk args e = true
    · rw [if_pos io] at g
      exact fun σ' ow' H' s' R' => g .non H' R'.kept (outs_of R' ha io R'.sub) (by unfold Rp; rfl)
    · rw [if_neg io] at g; exact g.elim
  | rt r e =>
    rw [hm] at g
    dsimp only at g
    by_cases io : ioOk args e = true
    · rw [if_pos io] at g
      cases r with
      | d x => exact fun v σ' ow' H' s' R' rp => g v H' R'.kept (outs_of R' ha io R'.sub) (rp.stp (anti R'.sub))
      | o k =>
        intro p σ' ow' H' s' R' ro L
        have sub : ∀ a, more ow p a → ow' a := fun a z => by
          rcases z with z | z
          · exact R'.sub a z
          · rw [z]; exact L.1
        exact g p H' R'.kept L.2.1 ro.there (outs_of R' ha io sub) (ro.stp (anti sub) rfl)
    · rw [if_neg io] at g; exact g.elim
  | ex c e =>
    rw [hm] at g
    dsimp only at g
    by_cases io : ioOk args e = true
    · rw [if_pos io] at g
      exact fun σ' ow' H' s' R' => g H' R'.kept (outs_of R' ha io R'.sub)
    · rw [if_neg io] at g; exact g.elim
  | bk e => rw [hm] at g; exact g.elim
  | ct e => rw [hm] at g; exact g.elim
  | bad => rw [hm] at g; exact g.elim
theorem calDc {x qual : Str} {params : Arguments} {body : List Stmt} {scope : Scope} {f : Addr} {fd : FuncData} {N ps : List Str} {k : Nat} {m : MStm} (Fn : FunD K x qual params body scope [] [] f fd) (hm : mg x = some (.ref f)) (S : FnScope N ps scope)
    (hb : ∀ (kV doc pm : Value) (an : Option Addr) (cdv ct : Value) (us : List Value), us.length = ps.length → bindArgs (PySem.W.fnOf x qual params body scope .none kV doc pm an cdv ct) ⟨us, []⟩ = pure (ps.zip us))
    (p : He.Defn) (hf : f = He.fAd K p) (hbody : ∀ (cdv : Value), cdv = .ref (He.codeOf K p) → ∀ (A : Around) (outer : List Env) (s : Shared) (H : Hp) (E : XK), Room k (A.deeper (envOfC qual scope s.heap.objs.size f cdv)) → MSs ca (cxOf (L2.CX P w) P w K mg base N qual scope f cdv A outer s H E) body m)
    (hl : ps.length ≤ N.length := by decide) : Cal P w K mg base ca (k + 1) x ps.length (runBody ps.length N.length m) :=
  ⟨f, fd, ps, hm, Fn.kp, Fn.bindsN hb, fnMDc Fn S p hf hl hbody⟩
end
/-! ### the hook with tables and more roots -/
structure SaysN (fa : List Fa) (fn : List DefD) (tf : List Defn) (ex : PySem.W.Frag → Bool) (h : Heap) (K : PySem.W.Frag) : Prop where
  d : SaysD fa fn K
  more : ex K = true
  hd : ∀ p ∈ tf, PySem.W.codeHdIn K (cT K p).1 (cT K p).2 = true
  out : ∀ p ∈ tf, K.lookup (cT K p).2 = none
  empty : ∀ p ∈ tf, h.get? (cT K p).2 = some { cls := .none, data := .fields #[] }
def obsN (rt : List Addr) (fa : List Fa) (fn : List DefD) (tf : List Defn) (ex : PySem.W.Frag → Bool) (n : Nat) (g : Addr → Option Obj) : AlM := (obsD fa fn (frT g (asD g n ++ rt)), ex (frT g (asD g n ++ rt)) && tabsB g tf (frT g (asD g n ++ rt)))
theorem saysN_of {rt : List Addr} {n : Nat} {fa : List Fa} {fn : List DefD} {tf : List Defn} {ex : PySem.W.Frag → Bool} {h : Heap} (e : obsN rt fa fn tf ex n h.get? = valM fn) : SaysN fa fn tf ex h (frT h.get? (asD h.get? n ++ rt)) := by
  have e2 := congrArg (fun z : AlM => z.2) e
  obtain ⟨h1, h2⟩ := Bool.and_eq_true_iff.mp e2
  have all := List.all_eq_true.mp h2
  refine ⟨congrArg (fun z : AlM => z.1) e, h1, fun p hp => (Bool.and_eq_true_iff.mp (all p hp)).1, fun p hp => ?_, fun p hp => ?_⟩
  all_goals
    have z := (Bool.and_eq_true_iff.mp (all p hp)).2
    cases q : h.get? (cT (frT h.get? (asD h.get? n ++ rt)) p).2 with
    | none => rw [q] at z; cases z
    | some o =>
      rw [q] at z
      first | exact frT_none q z | (rw [emptyTab_eq z])
def hookN (rt : List Addr) (n : Nat) (fa : List Fa) (fn : List DefD) (tf : List Defn) (ex : PySem.W.Frag → Bool) : PySem.W.Hook where
  α := AlM
  obs := fun s => obsN rt fa fn tf ex n s.heap.get?
  val := fun _ => valM fn
  says := fun _ h => ∃ K : PySem.W.Frag, K.In h ∧ SaysN fa fn tf ex h K
  of := fun _ _ e => ⟨_, frT_in, saysN_of e⟩
  keeps := fun _ _ _ ⟨K, hK, c⟩ k => ⟨K, PySem.W.Frag.In.keeps hK k, ⟨c.d, c.more, c.hd, c.out, fun p hp => k _ _ (c.empty p hp)⟩⟩
theorem obsN_eq {rt : List Addr} {n : Nat} {fa : List Fa} {fn : List DefD} {tf : List Defn} {ex : PySem.W.Frag → Bool} {g : Addr → Option Obj} {s : Shared} (h : ∀ a, g a = s.heap.get? a) : obsN rt fa fn tf ex n g = (hookN rt n fa fn tf ex).obs s := by
  have e : g = s.heap.get? := funext h
  rw [e] <;> rfl
end ML
end

section
set_option Elab.async false
set_option linter.all false
set_option maxRecDepth 100000
set_option maxHeartbeats 2000000
/-! # A law's end, with tables -/
namespace ML
open PySem PySem.Spec PyProof.Rows L2 LamX He
theorem cx0 {P : Program} {w : World} {K : PySem.W.Frag} {mg : Str → Option Value} {base : Heap} {k : Nat} {f : Addr} {fd : FuncData} {ps : List Str} {sp : Sp} (F : FnOk P w K mg base (L2.CX P w) k f fd ps sp) :
    FnOk P w K mg base CX0 k f fd ps (fun vs H Q _ => sp vs H Q (fun _ _ _ => False)) :=
  ⟨fun vs H Q E h => F.len _ _ _ _ h, fun A outer s H args us vs Q E hr e0 hb hv hs => codeAny_mono (F.run A outer s H args us vs Q (fun _ _ _ => False) hr e0 hb hv hs) fun r s' h => by
    cases r with
    | error e =>
      obtain ⟨_, _, _, _, _, _, _, _, _, _, _, _, z⟩ := h
      exact z.elim
    | ok fl => cases fl <;> exact h⟩
/-- the law's promise, if its function answers True -/
theorem sp_lawT {K : PySem.W.Frag} {ca : CA} {mf : List Sl → CR} {n : Nat} (math : ∀ ns : List Int, ns.length ≤ n → ∃ outs, mf [.sc ns] = .ok (.d (.bool true)) outs) (H : Hp) (a : Addr) (ns : List Int) (hl : ns.length ≤ n) (hT : ∀ q ∈ ca.tb, H q.1 = some (.tbl #[])) (hS : SqL K H a (ns.map V.int)) :
    spM K ca 1 mf [.ref a] H (fun v _ => v = .bl true) fun _ _ _ => False := by
  obtain ⟨outs, e⟩ := math ns hl
  have off : ∀ {o : HO}, H a = some o → NT o → ¬ ∃ q ∈ ca.tb, q.1 = a := fun {o} h nt ⟨q, hq, z⟩ => by
    rw [← z, hT q hq] at h
    exact nt #[] (Option.some.inj h).symm
  refine ⟨fun a => ∃ q ∈ ca.tb, q.1 = a, [.sc ns], rfl, ⟨rfl, fun i s v h1 h2 => ?_, fun i k z => ?_, fun i j p k k' h1 => ?_, fun q hq => ⟨⟨q, hq, rfl⟩, #[], hT q hq, trivial, fun pos cv h => by cases h⟩, fun a z => .inl z⟩, fun a ⟨q, hq, z⟩ => ⟨_, z ▸ hT q hq⟩, ?_⟩
  · cases i with
    | succ i => cases h1
    | zero =>
      cases h1
      cases h2
      refine ⟨a, rfl, ?_⟩
      rcases hS with (h | ⟨o, h⟩) | h
      · exact .inr (.inl ⟨h, off h nt_lst⟩)
      · exact .inl ⟨o, h, off h nt_frz⟩
      · exact .inr (.inr h)
  · cases i with
    | succ i => cases z
    | zero => cases z
  · cases i with
    | succ i => cases h1
    | zero => cases h1
  · rw [e]
    intro v H' _ _ r
    unfold Rp at r
    exact r
/-- from the facts of the head to the law's end -/
theorem law_end {l : PySem.W.OpenLaw} {w : World} {K : PySem.W.Frag} {ca : CA} {k n : Nat} {mg : Str → Option Value} {fa : Addr} {h : Heap} {F1 : List Fa} {fn : List DefD} {tf : List Defn} {ex : PySem.W.Frag → Bool} {mf : List Sl → CR} (KX : K.In h) (c : SaysN F1 fn tf ex h K) (htb : ∀ q ∈ ca.tb, ∃ p ∈ tf, q.1 = (cT K p).2)
    (facts : ∃ fd : FuncData, (∀ (s : Shared) (v : Value), BindsTo s fd ⟨[v], []⟩ [("script", v)]) ∧ ∀ base : Heap, K.In base → base.Ns mainGlobals mg → (∀ p ∈ tf, TabB base mg (cT K p).1 (cT K p).2) → FnOk l.prog w K mg base (L2.CX l.prog w) k fa fd ["script"] (spM K ca 1 mf))
    (math : ∀ ns : List Int, ns.length ≤ n → ∃ outs, mf [.sc ns] = .ok (.d (.bool true)) outs) : LawAtS l w K L2.CX0 k n "script" mg fa h := by
  obtain ⟨fd, hb, hF⟩ := facts
  refine ⟨fd, tf.map (cT K), fun vs H Q _ => spM K ca 1 mf vs H Q (fun _ _ _ => False), fun p hp => ?_, fun p hp => ?_, fun p hp => ?_, hb, fun H a ns hl _ hT hS => ?_, fun base h1 h2 h3 => ?_⟩
  · obtain ⟨q, hq, rfl⟩ := List.mem_map.mp hp
    exact c.empty q hq
  · obtain ⟨q, hq, rfl⟩ := List.mem_map.mp hp
    exact c.out q hq
  · obtain ⟨q, hq, rfl⟩ := List.mem_map.mp hp
    exact PySem.W.codeHd_of_K KX (c.hd q hq)
  · refine sp_lawT math H a ns hl (fun q hq => ?_) hS
    obtain ⟨p, hp, e⟩ := htb q hq
    rw [e]
    exact hT _ (List.mem_map.mpr ⟨p, hp, rfl⟩)
  · exact cx0 (hF base h1 h2 fun p hp => h3 _ (List.mem_map.mpr ⟨p, hp, rfl⟩))
/-- the walk of a law whose facts tell the written part, too -/
theorem walk_N {l : PySem.W.OpenLaw} {n k : Nat} {q : Program} {loose : List Str} {XP : (Str → Option Value) → Heap → Prop} {YP : World → Heap → Prop} {d : DefRec} {x : Str} (hn : l.most = some n) (small : n ≤ sizeLine) (hdf : d.params.defaults = []) (room : Room k callerA)
    (tells : ∀ (w : World) (mg : Str → Option Value) (fa : Addr) (h : Heap), YP w h → h.Ns mainGlobals mg → mg d.name = some (.ref fa) → ∃ K : PySem.W.Frag, K.In h ∧ LawAtS l w K L2.CX0 k n x mg fa h) : PySem.W.WalkO q loose XP YP l.row.toRowW d [] (fun f vs => PySem.call f vs) := by
  refine Att.attach_callB hn hdf fun w s0 s1 mg mb fa o pm cd doc a vs ns G Y _ _ _ hmg hobj hints len bits hg => ?_
  obtain ⟨K, KX, fd, cs, sp, e1, e2, e3, e4, e5, e6⟩ := tells w mg fa _ Y G.T.g hmg
  exact law_callTs (K := K) KX G.T.g G.T.b G.T.builtins G.T.nolimit hg e1 e2 e3 G.T.bmain hobj hints (Nat.le_trans len small) room e6 e4 (fun H => e5 H a ns len bits) fun _ _ _ z => z
end ML
end

section
set_option Elab.async false
set_option linter.all false
set_option maxRecDepth 100000
set_option maxHeartbeats 2000000
/-! # dict(t), in and [..] of dicts, extend by a tuple, l[::-1], isinstance of two types, repr -/
namespace ML
open PySem L2
section
variable {K : PySem.W.Frag} {ca : CA} {ow : Addr → Prop} {H : Hp}
/-! ### dict(t) -/
@[simp] def pairD : D → Option (Key × D)
  | .tuple [.str x, .int i] => some (.inr x, .int i)
  | _ => none
@[simp] def pairsD : List D → Option (List (Key × D))
  | [] => some []
  | d :: r => (pairD d).bind fun p => (pairsD r).map fun ps => p :: ps
@[simp] def dictOf : D → Option Ob
  | .tuple ds => if sigD ds = true then (pairsD ds).bind fun kvs => if nodupK kvs = true then some (.dct kvs) else none else none
  | _ => none
theorem pairD_ok {d : D} {p : Key × D} {v : V} (h : pairD d = some p) (r : Rp K ow H d v) : ∃ a w, v = .ref a ∧ SqT K H a [kV p.1, w] ∧ Rp K ow H p.2 w := by
  unfold pairD at h
  split at h
  · cases h
    unfold Rp at r
    obtain ⟨a, xs, rfl, h1, h2⟩ := r
    unfold RpA at h2
    obtain ⟨v1, vs1, rfl, r1, h2⟩ := h2
    unfold RpA at h2
    obtain ⟨v2, vs2, rfl, r2, h2⟩ := h2
    unfold RpA at h2
    subst h2
    unfold Rp at r1
    subst r1
    exact ⟨a, v2, rfl, h1.sq, r2⟩
  · cases h
theorem pairsD_ok : ∀ {ds : List D} {kvs : List (Key × D)} {xs : List V}, pairsD ds = some kvs → RpA K ow H ds xs → ∃ (ps : List Addr) (us : List (Key × V)), xs = ps.map V.ref ∧ Paired (fun p kv => SqT K H p [kV kv.1, kv.2]) ps us ∧ RpE K ow H kvs us
  | [], _, _, h, r => by
    cases h
    unfold RpA at r
    subst r
    exact ⟨[], [], rfl, .nil, .nil⟩
  | d :: ds, _, _, h, r => by
    unfold pairsD at h
    obtain ⟨p, hp, h⟩ := Option.bind_eq_some_iff.mp h
    obtain ⟨ps', hps, rfl⟩ := Option.map_eq_some_iff.mp h
    unfold RpA at r
    obtain ⟨v, vs, rfl, r1, r2⟩ := r
    obtain ⟨a, w, rfl, h1, h2⟩ := pairD_ok hp r1
    obtain ⟨ps, us, rfl, h3, h4⟩ := pairsD_ok hps r2
    exact ⟨a :: ps, (p.1, w) :: us, rfl, .cons h1 h3, .cons ⟨rfl, h2⟩ h4⟩
theorem StrT.k {a : Addr} (h : StrT K ow H a) : MK.StrK K H a := by
  rcases h with ⟨o, xs, h, d, _⟩ | h
  · exact .inl ⟨o, _, h, d⟩
  · exact .inr h
end
section
variable {ca : CA} {X : Cx} {pos : Pos} {tg e a b c o : Expr} {es : List Expr}
def oDictT (m : M D) : M Ob := bind m fun x => lift (dictOf x)
theorem mo_dictT {m : M D} {p : Pos} (h : ME ca X e m) (hm : X.mg "dict" = none) (hc : X.calm = true := by rfl) (hg : Gl X "dict" := by rfl) (he : starEach [e] X.env = (false, eval e X.env) :: starEach [] X.env := by rfl) (hpl : (backTo pos (starEach [] X.env)).any (·.1) = false := by rfl) :
    MO ca X (.Call (.Name "dict" p) [e] [] pos) (oDictT m) := fun F W tk =>
  PE.imp (pe_callTy (MK.cr_dictT hc) hg hm (by decide +kernel) (pa_cons (h F W tk) pa_nil he) (by decide) (by decide) he hpl) fun σ H Q ⟨ow, env, R, g⟩ => go_bind R g fun x e1 v ow1 H1 g1 R1 p1 q1 => by
    obtain ⟨k, ek, q⟩ := lift_go q1
    unfold dictOf at ek
    split at ek
    · rename_i ds
      obtain ⟨hs, ek⟩ := ite_opt ek
      obtain ⟨kvs, hk, ek⟩ := Option.bind_eq_some_iff.mp ek
      obtain ⟨hn, rfl⟩ := ite_some ek
      have p1' : Rp X.K ow1 H1 (.tuple ds) v := p1
      unfold Rp at p1'
      obtain ⟨a, xs, rfl, ht, ra⟩ := p1'
      obtain ⟨ps, us, rfl, h3, h4⟩ := pairsD_ok hk ra
      refine ⟨a, ps, us, rfl, ht.sq, (ht.sg hs).k, h3, fun p hp => ?_⟩
      rw [merge_new us [] (by rw [List.map_nil, List.nil_append, h4.keys]; exact nodupK_ok hn), List.nil_append]
      obtain ⟨R2, L⟩ := R1.more (o := .dK us) hp
      exact q (.ref p) _ _ (Go.more R1 hp) R2 ⟨p, rfl, g1.dom _ hp, ⟨us, upd_same, h4.stp (stp_more hp)⟩, L⟩
    · cases ek
/-! ### k in d, d[k] -/
@[simp] def keysD : List (D × D) → Option (List (Key × D))
  | [] => some []
  | kd :: r => (keyOf kd.1).bind fun k => (keysD r).map fun ps => (k, kd.2) :: ps
@[simp] def dctOf : Sl → Option (List (Key × D))
  | .o _ (.dct kvs) => some kvs
  | .d (.dict kvs) => keysD kvs
  | _ => none
theorem keysD_ok {K : PySem.W.Frag} {ow : Addr → Prop} {H : Hp} : ∀ {kvs : List (D × D)} {ks : List (Key × D)} {us : List (Key × V)}, keysD kvs = some ks → RpK K ow H kvs us → RpE K ow H ks us
  | [], _, _, h, r => by
    cases h
    unfold RpK at r
    subst r
    exact .nil
  | kd :: kvs, _, _, h, r => by
    unfold keysD at h
    obtain ⟨k, hk, h⟩ := Option.bind_eq_some_iff.mp h
    obtain ⟨ps, hps, rfl⟩ := Option.map_eq_some_iff.mp h
    unfold RpK at r
    obtain ⟨k', v, us', rfl, ek, r1, r2⟩ := r
    have : k = k' := by
      rw [ek] at hk
      cases k' <;> (cases hk; rfl)
    subst this
    exact .cons ⟨rfl, r1⟩ (keysD_ok hps r2)
theorem dctOf_ok {K : PySem.W.Frag} {ow : Addr → Prop} {H : Hp} {s : Sl} {v : V} {kvs : List (Key × D)} (h : dctOf s = some kvs) (r : s ≠ .un → SvR K ca ow H s v) : ∃ a us, v = .ref a ∧ H a = some (.dK us) ∧ RpE K ow H kvs us := by
  unfold dctOf at h
  split at h
  · cases h
    obtain ⟨p, e, w, us, h1, h2⟩ := r (by simp)
    exact ⟨p, us, e, h1, h2⟩
  · have r' : Rp K ow H (.dict _) v := r (by simp)
    unfold Rp at r'
    obtain ⟨a, us, e, h1, _, h2⟩ := r'
    exact ⟨a, us, e, h1, keysD_ok h h2⟩
  · cases h
theorem RpE.val_none {K : PySem.W.Frag} {ow : Addr → Prop} {H : Hp} : ∀ {kvs : List (Key × D)} {us : List (Key × V)} {k : Key}, RpE K ow H kvs us → (valV us k).isSome = (valD kvs k).isSome
  | _, _, k, .nil => rfl
  | p :: kvs, q :: us, k, .cons h t => by
    by_cases hk : p.1 = k
    · have e1 : valD (p :: kvs) k = some p.2 := by simp [valD, List.find?_cons, hk]
      rw [e1, valV_pos (h.1.symm.trans hk)]; rfl
    · have e1 : valD (p :: kvs) k = valD kvs k := by simp [valD, List.find?_cons, hk]
      rw [e1, valV_neg (fun z => hk (h.1.trans z))]
      exact RpE.val_none t
def eDIn (neg : Bool) (my : M D) (md : M AV) : M D := bind my fun y => bindO (keyOf y) fun k => bind md fun d => fun e => lift ((dctOf (content e d)).map fun kvs => .bool (neg ^^ (valD kvs k).isSome)) e
theorem din_go {F : Fr} {W : WX} {my : M D} {md : M AV} {neg : Bool} {σ : L2.St} {H : Hp} {Q : VK} (h : tE X.K ca F W (eDIn neg my md) σ H Q) :
    tE X.K ca F W my σ H fun y H1 => tQ X.K ca F W md σ H1 fun x H2 => ∃ a o, x = .ref a ∧ DGet H2 a y o ∧ Q (.bl (neg ^^ o.isSome)) H2 := by
  obtain ⟨ow, env, R, g⟩ := h
  exact go_bind R g fun y e1 v ow1 H1 g1 R1 p1 q1 => by
    obtain ⟨k, ek, q1⟩ := bindO_go q1
    have ev := keyOf_ok ek p1
    subst ev
    exact go_bind R1 q1 fun d e2 u ow2 H2 g2 R2 p2 q2 => by
      obtain ⟨z, ez, q3⟩ := lift_go q2
      obtain ⟨kvs, hk, rfl⟩ := Option.map_eq_some_iff.mp ez
      obtain ⟨a, us, rfl, h1, h2⟩ := dctOf_ok hk fun n => p2.1.sv R2 n
      refine ⟨a, valV us k, rfl, DGet.k h1, ?_⟩
      rw [h2.val_none]
      exact q3 _ ow2 H2 Go.refl R2 rp_bool
theorem me_din {my : M D} {md : M AV} (hu : X.A.units + 1 < cLine) (hk : ME ca X a my) (hd : MQ ca X b md) (hm : behindInMarks .In b = false := by with_unfolding_all rfl) : ME ca X (.Compare a [.In] [b] pos) (eDIn false my md) := fun F W tk =>
  PE.imp (pe_cmp (pc_din hu (hk F W tk) (hd F W tk)) hm) fun σ H Q h => by
    have z := din_go h
    simp only [Bool.false_xor] at z
    exact z
theorem me_dnin {my : M D} {md : M AV} (hu : X.A.units + 1 < cLine) (hk : ME ca X a my) (hd : MQ ca X b md) (hm : behindInMarks .NotIn b = false := by with_unfolding_all rfl) : ME ca X (.Compare a [.NotIn] [b] pos) (eDIn true my md) := fun F W tk =>
  PE.imp (pe_cmp (pc_dnotin hu (hk F W tk) (hd F W tk)) hm) fun σ H Q h => by
    have z := din_go h
    simp only [Bool.true_xor] at z
    exact z
/-- d[k] -/
def eDGetQ (md : M AV) (my : M D) : M D := bind md fun d => bind my fun y => bindO (keyOf y) fun k => fun e => lift ((dctOf (content e d)).bind fun kvs => valD kvs k) e
theorem me_dgetQ {my : M D} {md : M AV} (hu : X.A.units + 1 < cLine) (hd : MQ ca X o md) (hk : ME ca X e my) (hs : NoSl e) : ME ca X (.Subscript o e pos) (eDGetQ md my) := fun F W tk =>
  PE.imp (pe_dget hu (hd F W tk) (hk F W tk) hs) fun σ H Q ⟨ow, env, R, g⟩ => go_bind R g fun d e1 v ow1 H1 g1 R1 p1 q1 => go_bind R1 q1 fun y e2 u ow2 H2 g2 R2 p2 q2 => by
    obtain ⟨k, ek, q2⟩ := bindO_go q2
    obtain ⟨z, ez, q3⟩ := lift_go q2
    obtain ⟨kvs, hk, hv⟩ := Option.bind_eq_some_iff.mp ez
    obtain ⟨a, us, rfl, h1, h2⟩ := dctOf_ok hk fun n => (p1.1.go g2).sv R2 n
    obtain ⟨w, hw, rw_⟩ := h2.val hv
    have eu := keyOf_ok ek p2
    refine ⟨a, w, rfl, ?_, q3 _ ow2 H2 Go.refl R2 rw_⟩
    rw [eu, ← hw]
    exact DGet.k h1
/-! ### l.extend(t) -/
def rExtA (K : PySem.W.Frag) : V → List V → Hp → VK → Prop := fun x vs H Q => rExtend x vs H Q ∨ ∃ l b xs zs, x = .ref l ∧ vs = [.ref b] ∧ H l = some (.lst xs) ∧ SqT K H b zs ∧ xs.length + zs.length ≤ sizeLine ∧ Q .non (upd H l (.lst (xs ++ zs)))
open PyProof.Rows in
theorem mt_extA : MtM X "list.extend" (rExtA X.K) := fun pins s σ H x vs v us Q I rx rv h => by
  rcases h with h | ⟨l, b, xs, zs, rfl, rfl, hH, hB, hz, q⟩
  · exact mt_extend pins s σ H x vs v us Q I rx rv h
  cases rx
  obtain ⟨u, rfl, ru⟩ := rv.one
  cases ru
  obtain ⟨z, its, n, r, hl, e⟩ := I.lstM hH
  obtain ⟨its2, r2, ⟨⟨c2, d2, t2, s2⟩, e2, hc, n2, hd⟩, z2⟩ := I.tuple hB
  simp only at hc hd
  subst hc hd
  have l1 := r.length
  have l2 := r2.length
  have fits : its.toArray.size + its2.toArray.size ≤ sizeLine := by rw [List.size_toArray, List.size_toArray]; omega
  refine call_meets PySem.F.slot_list_extend ⟨_, e, rfl⟩ PySem.F.entry_list_extend (PySem.F.args_list_extend_2 _ _) (MK.ext_tup l b its.toArray its2.toArray n n2 d2 s2 (by rw [notLongL fits, Bool.and_false]; exact Bool.false_ne_true) (by rw [List.size_toArray]; omega) (by omega)) ⟨e, e2, ?_⟩
  exact ⟨.non, _, I.lset (its' := its ++ its2) hH e (by simp) (r.append r2) (by rw [List.length_append]; omega), rfl, q⟩
@[simp] def fExtA : List D → List Sl → Option (D × List D) := fun xs ss => match ss with
  | [s] => (seqOf s).bind fun ys => if xs.length + ys.length ≤ LIM then some (.none, xs ++ ys) else none
  | _ => none
theorem mts_extA {K : PySem.W.Frag} {ca : CA} : MtS (ca := ca) K (rExtA K) fExtA := fun xs ss z ys ow H p vs us Q hf h1 w h2 h3 k => by
  unfold fExtA at hf
  split at hf
  · rename_i s
    obtain ⟨ys', ey, hf⟩ := Option.bind_eq_some_iff.mp hf
    obtain ⟨hl, e⟩ := ite_some hf
    cases e
    unfold SvA at h3
    obtain ⟨v, us', rfl, hv, t⟩ := h3
    unfold SvA at t
    subst t
    unfold seqOf at ey
    split at ey
    · cases ey
      have q : Rp K ow H (.list _) v := hv (by simp)
      unfold Rp at q
      obtain ⟨b, zs, rfl, h4, _, h5⟩ := q
      exact .inl ⟨p, b, vs, zs, rfl, rfl, h1, h4, lim_line (by rw [← h2.length, ← h5.length]; exact hl), k .non _ (by unfold Rp; rfl) (RpA.append h2 h5)⟩
    · cases ey
      obtain ⟨b, zs, rfl, h4, h5⟩ := sv_tup hv
      exact .inr ⟨p, b, vs, zs, rfl, rfl, h1, h4.sq, lim_line (by rw [← h2.length, ← h5.length]; exact hl), k .non _ (by unfold Rp; rfl) (RpA.append h2 h5)⟩
    · cases ey
      obtain ⟨b, rfl, _, zs, h4, h5⟩ := hv (by simp)
      exact .inl ⟨p, b, vs, zs, rfl, rfl, h1, h4, lim_line (by rw [← h2.length, ← h5.length]; exact hl), k .non _ (by unfold Rp; rfl) (RpA.append h2 h5)⟩
    · cases ey
  · cases hf
/-! ### l[::-1] -/
@[simp] def seqL : Sl → Option (List D)
  | .d (.list xs) => some xs
  | .o _ (.lst xs) => some xs
  | .sc ns => some (ns.map PyData.int)
  | _ => none
theorem rpA_ints {K : PySem.W.Frag} {ow : Addr → Prop} {H : Hp} : ∀ {ns : List Int}, RpA K ow H (ns.map PyData.int) (ns.map V.int)
  | [] => by unfold RpA; rfl
  | n :: ns => by
    show RpA K ow H (_ :: _) (_ :: _)
    unfold RpA
    exact ⟨_, _, rfl, rp_int, rpA_ints⟩
theorem seqL_ok {K : PySem.W.Frag} {ca : CA} {ow : Addr → Prop} {H : Hp} {s : Sl} {v : V} {xs : List D} (h : seqL s = some xs) (r : s ≠ .un → SvR K ca ow H s v) : ∃ a us, v = .ref a ∧ SqL K H a us ∧ RpA K ow H xs us := by
  unfold seqL at h
  split at h
  · cases h
    have r' : Rp K ow H (.list xs) v := r (by simp)
    unfold Rp at r'
    obtain ⟨a, us, e, h1, _, h2⟩ := r'
    exact ⟨a, us, e, SqL.of h1, h2⟩
  · cases h
    obtain ⟨p, e, w, us, h1, h2⟩ := r (by simp)
    exact ⟨p, us, e, SqL.of h1, h2⟩
  · cases h
    obtain ⟨a, e, h1⟩ := r (by simp)
    exact ⟨a, _, e, h1.sq, rpA_ints⟩
  · cases h
def oRevQ (m : M AV) : M Ob := bind m fun x => fun e => lift ((seqL (content e x)).map fun xs => Ob.lst xs.reverse) e
theorem mo_revQ {m : M AV} {k : Nat} {p1 p2 p3 : Pos} (h : MQ ca X e m) : MO ca X (.Subscript e (.Slice none none (some (.UnaryOp .USub (.Constant (.int 1) k p1) p2)) p3) pos) (oRevQ m) := fun F W tk =>
  PE.imp (pe_revL (h F W tk)) fun σ H Q ⟨ow, env, R, g⟩ => go_bind R g fun x e1 v ow1 H1 g1 R1 p1 q1 => by
    obtain ⟨z, ez, q⟩ := lift_go q1
    obtain ⟨xs, ex, rfl⟩ := Option.map_eq_some_iff.mp ez
    obtain ⟨a, us, rfl, h1, h2⟩ := seqL_ok ex fun n => p1.1.sv R1 n
    exact ⟨a, us, rfl, h1, fun p hp => go_new R1 q (fun x h => g1.dom x h) hp h2.reverse⟩
/-- slices of lists, the script too -/
@[simp] def gSlX (s : Sl) (lo hi : Option Int) : Option (List D) := (seqL s).map fun xs => cut xs lo hi
theorem s_slX {K : PySem.W.Frag} {ca : CA} : SlF K ca (rSlL K) gSlX := fun s lo hi z ow H v Q e r tr k => by
  obtain ⟨xs, hx, rfl⟩ := Option.map_eq_some_iff.mp e
  obtain ⟨a, us, rfl, h1, h2⟩ := seqL_ok hx r
  exact ⟨a, us, rfl, h1, fun p hp => k p _ hp h2.cut⟩
/-! ### isinstance(e, (T, U)) -/
@[simp] def eIsi2 (T U : String) (m : M D) : M D := bind m fun x => ret (.bool (isTy T x || isTy U x))
theorem me_isi2 {p p2 p3 tpos : Pos} {k : Nat} {T U : String} {m : M D} (h : ME ca X e m) (hm : X.mg "isinstance" = none) (hmT : X.mg (Str.ofString T) = none) (hmU : X.mg (Str.ofString U) = none) (hT : TyKnown T) (hU : TyKnown U) (hb : bootBuiltins (Str.ofString T) = some (.type T)) (hb2 : bootBuiltins (Str.ofString U) = some (.type U))
    (hg : Gl X "isinstance" := by rfl) (hgT : Gl X (Str.ofString T) := by rfl) (hgU : Gl X (Str.ofString U) := by rfl) (hnT : (Str.ofString T) ≠ "__name__" := by decide) (hdT : ((Str.ofString T) == ("__debug__" : Str)) = false := by decide) (hnU : (Str.ofString U) ≠ "__name__" := by decide) (hdU : ((Str.ofString U) == ("__debug__" : Str)) = false := by decide)
    (he1 : starEach [e, .Tuple [.Name (Str.ofString T) p2, .Name (Str.ofString U) p3] k tpos] X.env = (false, eval e X.env) :: starEach [.Tuple [.Name (Str.ofString T) p2, .Name (Str.ofString U) p3] k tpos] X.env := by rfl)
    (he2 : starEach [.Tuple [.Name (Str.ofString T) p2, .Name (Str.ofString U) p3] k tpos] X.env = (false, eval (.Tuple [.Name (Str.ofString T) p2, .Name (Str.ofString U) p3] k tpos) X.env) :: starEach [] X.env := by rfl)
    (he3 : starEach [.Name (Str.ofString T) p2, .Name (Str.ofString U) p3] X.env = (false, eval (.Name (Str.ofString T) p2) X.env) :: starEach [.Name (Str.ofString U) p3] X.env := by rfl)
    (he4 : starEach [.Name (Str.ofString U) p3] X.env = (false, eval (.Name (Str.ofString U) p3) X.env) :: starEach [] X.env := by rfl)
    (hpl : (backTo pos (starEach [.Tuple [.Name (Str.ofString T) p2, .Name (Str.ofString U) p3] k tpos] X.env)).any (·.1) = false := by rfl) :
    ME ca X (.Call (.Name "isinstance" p) [e, .Tuple [.Name (Str.ofString T) p2, .Name (Str.ofString U) p3] k tpos] [] pos) (eIsi2 T U m) := fun F W tk =>
  PE.imp (pe_callB call_isiT hg hm (by decide +kernel) (pa_cons (h F W tk) (pa_cons (pe_tup (pa_cons (pe_bltn (v := .ty T) hgT hmT hb rfl hnT hdT) (pa_cons (pe_bltn (v := .ty U) hgU hmU hb2 rfl hnU hdU) pa_nil he4) he3)) pa_nil he2) he1) (by decide) (by decide) he1 hpl) fun σ H Q ⟨ow, env, R, g⟩ => go_bind R g fun x e1 v ow1 H1 g1 R1 p1 q1 => by
    refine ⟨by show 2 ≤ sizeLine; rw [sizeLine_eq]; decide, fun q hq => ?_⟩
    have gr : Gr H1 (upd H1 q (.tup [.ty T, .ty U])) := Gr.new hq
    refine ⟨v, q, [.ty T, .ty U], .type (tyName x), [.type T, .type U], _, rfl, upd_same, .cons (.ty T) (.cons (.ty U) .nil), tyX_of (Rp.stp gr.stp _ _ p1), kitAny_cons (kit_ty (hT _ (tyName_mem x))) (fun hf => kitAny_cons (kit_ty (hU _ (tyName_mem x))) (fun hf2 => ?_) (fun ht => ?_)) (fun ht => ?_), q1 _ ow1 _ (Go.gr R1 gr) (R1.gr gr) rp_bool⟩
    · show some false = some (isTy T x || isTy U x)
      have a : isTy T x = false := hf
      have b : isTy U x = false := hf2
      rw [a, b]; rfl
    · have b : isTy U x = true := ht
      rw [b, Bool.or_true]
    · have b : isTy T x = true := ht
      rw [b, Bool.true_or]
end
end ML
end

section
set_option Elab.async false
set_option linter.all false
set_option maxRecDepth 100000
set_option maxHeartbeats 2000000
/-! # The order of data in the layer: <, sorted, min; repr of plain data; zip -/
namespace ML
open PySem PyProof.Rows L2
section
variable {K : PySem.W.Frag} {ca : CA}
theorem nn_of {x : D} (h : (!isNone x) = true) : x ≠ .none := fun e => by subst e; cases h
def ltOk (x y : D) : Bool := noDct x && noDct y && PySem.W.alike x y && !isNone x && decide (x.depth ≤ MK.DEEP)
@[simp] def gLtD (f : D → D → Bool) (s t : Sl) : Option D := (slD s).bind fun x => (slD t).bind fun y => if ltOk x y = true then some (.bool (f x y)) else none
theorem s_ltD {f : D → D → Bool} : OpS K ca (MK.rLtD K f) (gLtD f) := fun s t z ow H v1 v2 Q e r1 r2 tr k => by
  obtain ⟨x, ex, e⟩ := Option.bind_eq_some_iff.mp e
  obtain ⟨y, ey, e⟩ := Option.bind_eq_some_iff.mp e
  obtain ⟨h, rfl⟩ := ite_some e
  obtain ⟨h, h5⟩ := Bool.and_eq_true_iff.mp h
  obtain ⟨h, h4⟩ := Bool.and_eq_true_iff.mp h
  obtain ⟨h, h3⟩ := Bool.and_eq_true_iff.mp h
  obtain ⟨h1, h2⟩ := Bool.and_eq_true_iff.mp h
  exact ⟨x, y, slD_dp ex r1 h1, slD_dp ey r2 h2, h3, nn_of h4, of_decide_eq_true h5, k _ H Gr.refl rp_bool⟩
/-! ### sorted -/
@[simp] def isT1 : D → Bool
  | .tuple (_ :: _) => true
  | _ => false
@[simp] def notT : D → Bool
  | .none => false
  | .tuple _ => false
  | _ => true
def sortOk (xs : List D) : Bool := noDctA xs && (xs.all fun x => xs.all fun y => PySem.W.alike x y) && (xs.all isT1 || xs.all notT) && xs.all fun x => decide (x.depth ≤ MK.DEEP)
theorem sortOk_so {xs : List D} (h : sortOk xs = true) : noDctA xs = true ∧ PySem.W.AllAlike xs ∧ PySem.W.Sortable xs ∧ ∀ x ∈ xs, x.depth ≤ MK.DEEP := by
  obtain ⟨h, h4⟩ := Bool.and_eq_true_iff.mp h
  obtain ⟨h, h3⟩ := Bool.and_eq_true_iff.mp h
  obtain ⟨h1, h2⟩ := Bool.and_eq_true_iff.mp h
  refine ⟨h1, fun x hx y hy => List.all_eq_true.mp (List.all_eq_true.mp h2 x hx) y hy, ?_, fun x hx => of_decide_eq_true (List.all_eq_true.mp h4 x hx)⟩
  rcases Bool.or_eq_true_iff.mp h3 with h | h
  · refine .inl fun d hd => ?_
    have z := List.all_eq_true.mp h d hd
    unfold isT1 at z
    split at z
    · exact ⟨_, _, rfl⟩
    · cases z
  · refine .inr fun d hd => ?_
    have z := List.all_eq_true.mp h d hd
    constructor
    · intro e
      subst e
      cases z
    · intro ys e
      subst e
      cases z
theorem RpA.zip_dp {ow : Addr → Prop} {H : Hp} : ∀ {ds : List D} {us : List V}, RpA K ow H ds us → noDctA ds = true → (ds.zip us).map (·.1) = ds ∧ (ds.zip us).map (·.2) = us ∧ ∀ b ∈ ds.zip us, Dp K H b.2 b.1 ∧ Rp K ow H b.1 b.2
  | [], _, h, _ => by
    unfold RpA at h
    subst h
    exact ⟨rfl, rfl, fun b hb => by cases hb⟩
  | d :: ds, _, h, n => by
    unfold RpA at h
    unfold noDctA at n
    obtain ⟨v, us, rfl, h1, h2⟩ := h
    obtain ⟨n1, n2⟩ := Bool.and_eq_true_iff.mp n
    obtain ⟨e1, e2, k⟩ := RpA.zip_dp h2 n2
    refine ⟨by rw [List.zip_cons_cons, List.map_cons, e1], by rw [List.zip_cons_cons, List.map_cons, e2], fun b hb => ?_⟩
    rw [List.zip_cons_cons] at hb
    rcases List.mem_cons.mp hb with z | z
    · subst z; exact ⟨dp_of _ _ h1 n1, h1⟩
    · exact k b z
theorem rpA_of {ow : Addr → Prop} {H : Hp} : ∀ {bs : List (D × V)}, (∀ b ∈ bs, Rp K ow H b.1 b.2) → RpA K ow H (bs.map (·.1)) (bs.map (·.2))
  | [], _ => by
    show RpA K ow H [] []
    unfold RpA; rfl
  | b :: bs, h => by
    show RpA K ow H (b.1 :: bs.map (·.1)) (b.2 :: bs.map (·.2))
    unfold RpA
    exact ⟨_, _, rfl, h b List.mem_cons_self, rpA_of fun x hx => h x (List.mem_cons_of_mem _ hx)⟩
@[simp] def bSortD : List Sl → Option (List D)
  | [s] => (seqL s).bind fun xs => if sortOk xs = true then some (xs.mergeSort MK.leD) else none
  | _ => none
theorem b_sortD : BltF K ca (MK.rSortD K) bSortD := fun ss z ow H vs Q e h tr k => by
  unfold bSortD at e
  split at e
  · rename_i s
    obtain ⟨xs, ex, e⟩ := Option.bind_eq_some_iff.mp e
    obtain ⟨ho, rfl⟩ := ite_some e
    unfold SvA at h
    obtain ⟨v, us, rfl, hv, t⟩ := h
    unfold SvA at t
    subst t
    obtain ⟨a, us, rfl, h1, h2⟩ := seqL_ok ex hv
    obtain ⟨o1, o2, o3, o4⟩ := sortOk_so ho
    obtain ⟨e1, e2, kk⟩ := h2.zip_dp o1
    refine ⟨a, xs.zip us, rfl, by rw [e2]; exact h1, fun b hb => (kk b hb).1, by rw [e1]; exact o2, by rw [e1]; exact o3, fun b hb => o4 _ (by rw [← e1]; exact List.mem_map_of_mem hb), fun p hp => k p _ hp ?_⟩
    have ms : xs.mergeSort MK.leD = ((xs.zip us).mergeSort fun x y => MK.leD x.1 y.1).map (·.1) := by
      have z := List.map_mergeSort (r := fun x y : D × V => MK.leD x.1 y.1) (s := MK.leD) (f := (·.1)) (l := xs.zip us) (fun a _ b _ => rfl)
      rw [e1] at z
      exact z.symm
    rw [ms]
    exact rpA_of fun b hb => (kk b (List.mem_mergeSort.mp hb)).2
  · cases e
/-! ### min of a list -/
def minOk (xs : List D) : Bool := noDctA xs && (xs.all fun x => xs.all fun y => PySem.W.alike x y) && (xs.all fun x => !isNone x) && decide (PyData.depthAll xs ≤ MK.DEEP)
@[simp] def bMinD : List Sl → Option D
  | [s] => (seqL s).bind fun l => match l with
    | x :: xs => if minOk (x :: xs) = true then some (PySem.W.minD x xs) else none
    | [] => none
  | _ => none
theorem b_minD : BltS K ca (MK.rMinD K) bMinD := fun ss z ow H vs Q e h tr k => by
  unfold bMinD at e
  split at e
  · rename_i s
    obtain ⟨l, ex, e⟩ := Option.bind_eq_some_iff.mp e
    split at e
    · rename_i x xs
      obtain ⟨ho, rfl⟩ := ite_some e
      unfold SvA at h
      obtain ⟨v, us, rfl, hv, t⟩ := h
      unfold SvA at t
      subst t
      obtain ⟨a, us, rfl, h1, h2⟩ := seqL_ok ex hv
      obtain ⟨ho, o4⟩ := Bool.and_eq_true_iff.mp ho
      obtain ⟨ho, o3⟩ := Bool.and_eq_true_iff.mp ho
      obtain ⟨o1, o2⟩ := Bool.and_eq_true_iff.mp ho
      refine ⟨a, x, xs, us, rfl, h1, dpA_of _ _ h2 o1, ⟨fun x hx y hy => List.all_eq_true.mp (List.all_eq_true.mp o2 x hx) y hy, fun x hx => nn_of (List.all_eq_true.mp o3 x hx)⟩, of_decide_eq_true o4, fun i v d hi hd ed => k v H Gr.refl ?_⟩
      rw [← ed]
      exact h2.get hd hi
    · cases e
  · cases e
/-! ### repr -/
def rRepr : List V → Hp → VK → Prop := fun xs H Q => (∃ i, xs = [.int i] ∧ i.natAbs.log2 < 1920 ∧ Q (.str (toString i)) H) ∨ (∃ z, xs = [.str z] ∧ (reprText z).length ≤ sizeLine ∧ Q (.str (reprText z)) H) ∨ ∃ b, xs = [.bl b] ∧ Q (.str (if b then "True" else "False")) H
theorem cr_repr {X : Cx} : CallR X (.builtin "repr") rRepr := fun pins s σ H xs us Q I r h => by
  rcases h with ⟨i, rfl, hz, q⟩ | ⟨z, rfl, hz, q⟩ | ⟨b, rfl, q⟩
  · obtain ⟨u, rfl, t, rfl⟩ := vals1 r
    exact PySem.P.repr_of_int hz ⟨.str _, H, I.tok _, ⟨_, rfl⟩, q⟩
  · obtain ⟨u, rfl, t, rfl⟩ := vals1 r
    exact PySem.P.repr_of_str ⟨.str _, H, I.tok _, ⟨_, rfl⟩, q⟩ hz
  · obtain ⟨u, rfl, ru⟩ := vals1 r
    obtain rfl : u = Value.bool b := ru
    exact PySem.P.repr_of_bool ⟨.str _, H, I.tok _, ⟨_, rfl⟩, q⟩
@[simp] def bRepr : List Sl → Option D
  | [.d (.int i)] => if i.natAbs.log2 < 1920 then some (.str (toString i)) else none
  | [.d (.str z)] => if (reprText z).length ≤ LIM then some (.str (reprText z)) else none
  | [.d (.bool b)] => some (.str (if b then "True" else "False"))
  | _ => none
theorem b_repr : BltS K ca rRepr bRepr := fun ss z ow H vs Q e h tr k => by
  unfold bRepr at e
  split at e
  · obtain ⟨hl, rfl⟩ := ite_some e
    unfold SvA at h
    obtain ⟨v, us, rfl, hv, t⟩ := h
    unfold SvA at t
    subst t
    exact .inl ⟨_, by rw [sv_int hv], hl, k _ H Gr.refl rp_str⟩
  · obtain ⟨hl, rfl⟩ := ite_some e
    unfold SvA at h
    obtain ⟨v, us, rfl, hv, t⟩ := h
    unfold SvA at t
    subst t
    exact .inr (.inl ⟨_, by rw [sv_str hv], lim_line hl, k _ H Gr.refl rp_str⟩)
  · cases e
    unfold SvA at h
    obtain ⟨v, us, rfl, hv, t⟩ := h
    unfold SvA at t
    subst t
    exact .inr (.inr ⟨_, by rw [sv_bool hv], k _ H Gr.refl rp_str⟩)
  · cases e
/-! ### zip -/
def zipD : List D → List D → List D
  | x :: xs, y :: ys => .tuple [x, y] :: zipD xs ys
  | _, _ => []
theorem zipD_get : ∀ (xs ys : List D) (i : Nat), (zipD xs ys)[i]? = (xs[i]?).bind fun x => (ys[i]?).map fun y => .tuple [x, y]
  | [], ys, i => by unfold zipD; simp
  | x :: xs, [], i => by unfold zipD; cases (x :: xs)[i]? <;> simp
  | x :: xs, y :: ys, 0 => by unfold zipD; rfl
  | x :: xs, y :: ys, i + 1 => by
    unfold zipD
    rw [List.getElem?_cons_succ, List.getElem?_cons_succ, List.getElem?_cons_succ, zipD_get xs ys i]
theorem zipD_len : ∀ (xs ys : List D), (zipD xs ys).length = min xs.length ys.length
  | [], ys => by unfold zipD; simp
  | x :: xs, [] => by unfold zipD; simp
  | x :: xs, y :: ys => by
    unfold zipD
    rw [List.length_cons, List.length_cons, List.length_cons, zipD_len xs ys]
    omega
def pairOk : D → Bool
  | .tuple ds => !sigD ds
  | _ => false
theorem pairZ {x y : D} {xs ys : List D} {i : Nat} (hok : (zipD xs ys).all pairOk = true) (h : (zipD xs ys)[i]? = some (.tuple [x, y])) : sigD [x, y] = false := by
  have z := List.all_eq_true.mp hok _ (List.mem_of_getElem? h)
  have z : (!sigD [x, y]) = true := z
  cases hs : sigD [x, y] with
  | false => rfl
  | true =>
    rw [hs] at z
    cases z
theorem rp_pair {ow : Addr → Prop} {H : Hp} {xs ys : List D} {us ws : List V} {i : Nat} {x y : V} {d : D} {T : Addr} (hok : (zipD xs ys).all pairOk = true) (r1 : RpA K ow H xs us) (r2 : RpA K ow H ys ws) (hx : us[i]? = some x) (hy : ws[i]? = some y) (tr : Trk ow H) (hT : H T = none) (hd : (zipD xs ys)[i]? = some d) : Rp K ow (upd H T (.tup [x, y])) d (.ref T) := by
  have hd2 := hd
  rw [zipD_get] at hd
  obtain ⟨a, ha, hd⟩ := Option.bind_eq_some_iff.mp hd
  obtain ⟨b, hb, rfl⟩ := Option.map_eq_some_iff.mp hd
  unfold Rp
  refine ⟨T, _, rfl, .weak upd_same (fun z => by obtain ⟨o, ho⟩ := tr T z; rw [hT] at ho; cases ho) (pairZ hok hd2), ?_⟩
  unfold RpA
  refine ⟨_, _, rfl, (r1.get ha hx).stp (Gr.new hT).stp, ?_⟩
  unfold RpA
  exact ⟨_, _, rfl, (r2.get hb hy).stp (Gr.new hT).stp, by unfold RpA; rfl⟩
theorem wk_zipL {ow : Addr → Prop} {H : Hp} {a b : Addr} {us ws : List V} {xs ys : List D} (h : H a = some (.lst us)) (n : ¬ ow a) (h2 : H b = some (.lst ws)) (n2 : ¬ ow b) (r : RpA K ow H xs us) (r2 : RpA K ow H ys ws) (hok : (zipD xs ys).all pairOk = true) : Wk K (Itz K a b) (zipD xs ys) ow H := by
  refine ⟨fun ow H => (H a = some (.lst us) ∧ ¬ ow a ∧ RpA K ow H xs us) ∧ (H b = some (.lst ws) ∧ ¬ ow b ∧ RpA K ow H ys ws), ⟨⟨h, n, r⟩, h2, n2, r2⟩, fun ow1 H1 ow2 H2 st ⟨⟨h, n, r⟩, h2, n2, r2⟩ => ⟨⟨(st a _ h n nt_lst).1, (st a _ h n nt_lst).2, r.stp st⟩, (st b _ h2 n2 nt_lst).1, (st b _ h2 n2 nt_lst).2, r2.stp st⟩, fun i ow H ⟨⟨h, n, r⟩, h2, n2, r2⟩ tr hi => ?_, fun i ow H ⟨⟨h, n, r⟩, h2, n2, r2⟩ hi => ⟨us, ws, SqL.of h, SqL.of h2, ?_⟩⟩
  · rw [zipD_len] at hi
    obtain ⟨x, hx⟩ := some_of_lt (xs := us) (i := i) (by rw [← r.length]; omega)
    obtain ⟨y, hy⟩ := some_of_lt (xs := ws) (i := i) (by rw [← r2.length]; omega)
    refine ⟨⟨us, ws, x, y, SqL.of h, SqL.of h2, hx, hy⟩, fun v H' ⟨T, x', y', ev, hT, eH, k1, k2⟩ => ?_⟩
    subst ev eH
    have e1 := k1 us (SqL.of h)
    have e2 := k2 ws (SqL.of h2)
    exact ⟨Gr.new hT, fun d hd => rp_pair hok r r2 e1 e2 tr hT hd⟩
  · rw [zipD_len] at hi
    have l1 := r.length
    have l2 := r2.length
    omega
theorem wk_zipT {ow : Addr → Prop} {H : Hp} {a b : Addr} {us ws : List V} {xs ys zs zs2 : List D} (h : TupAt K ow H zs a us) (h2 : TupAt K ow H zs2 b ws) (r : RpA K ow H xs us) (r2 : RpA K ow H ys ws) (hok : (zipD xs ys).all pairOk = true) : Wk K (RZ.ItzT K a b) (zipD xs ys) ow H := by
  refine ⟨fun ow H => (TupAt K ow H zs a us ∧ RpA K ow H xs us) ∧ (TupAt K ow H zs2 b ws ∧ RpA K ow H ys ws), ⟨⟨h, r⟩, h2, r2⟩, fun ow1 H1 ow2 H2 st ⟨⟨h, r⟩, h2, r2⟩ => ⟨⟨h.stp st, r.stp st⟩, h2.stp st, r2.stp st⟩, fun i ow H ⟨⟨h, r⟩, h2, r2⟩ tr hi => ?_, fun i ow H ⟨⟨h, r⟩, h2, r2⟩ hi => ⟨us, ws, h.sq, h2.sq, ?_⟩⟩
  · rw [zipD_len] at hi
    obtain ⟨x, hx⟩ := some_of_lt (xs := us) (i := i) (by rw [← r.length]; omega)
    obtain ⟨y, hy⟩ := some_of_lt (xs := ws) (i := i) (by rw [← r2.length]; omega)
    refine ⟨⟨us, ws, x, y, h.sq, h2.sq, hx, hy⟩, fun v H' ⟨T, x', y', ev, hT, eH, k1, k2⟩ => ?_⟩
    subst ev eH
    have e1 := k1 us h.sq
    have e2 := k2 ws h2.sq
    exact ⟨Gr.new hT, fun d hd => rp_pair hok r r2 e1 e2 tr hT hd⟩
  · rw [zipD_len] at hi
    have l1 := r.length
    have l2 := r2.length
    omega
@[simp] def zipOf : List AV → Option (List D)
  | [.d (.list xs), .d (.list ys)] => if (zipD xs ys).all pairOk = true then some (zipD xs ys) else none
  | [.d (.tuple xs), .d (.tuple ys)] => if (zipD xs ys).all pairOk = true then some (zipD xs ys) else none
  | _ => none
def iZip (m : M (List AV)) : M (List D) := bind m fun as => lift (zipOf as)
theorem mi_zip {X : Cx} {e e2 : Expr} {pos : Pos} {m : M (List AV)} {p tpos : Pos} {elts : List Expr} {kk : Nat} (h : MA ca X [e, e2] m) (hm : X.mg "zip" = none) (hg : Gl X "zip" := by rfl)
    (hs : starEach [e, e2] X.env = (false, eval e X.env) :: starEach [e2] X.env := by rfl) (hpl : (backTo pos (starEach [e2] X.env)).any (·.1) = false := by rfl) :
    MI ca X (.Tuple elts kk tpos) (.Call (.Name "zip" p) [e, e2] [] pos) (iZip m) := fun F W tk =>
  PI.imp (RZ.pi_zipA hg hm (h F W tk) hs hpl) fun σ H R ⟨ow, env, rel, g⟩ => by
    refine ⟨ow, env, rel, ?_⟩
    unfold iZip bind at g
    cases hq : m env with
    | ok as e1 =>
      rw [hq] at g
      rintro vs ow1 H1 g1 R1 p1
      dsimp only at g
      unfold lift at g
      have p1' : AvA X.K ca F H ow1 H1 e1 σ as vs := p1
      cases hz : zipOf as with
      | none => rw [hz] at g; exact g.elim
      | some ds =>
        rw [hz] at g
        unfold zipOf at hz
        split at hz
        · obtain ⟨hok, rfl⟩ := ite_some hz
          unfold AvA at p1'
          obtain ⟨v, us, rfl, ra, fa, t⟩ := p1'
          unfold AvA at t
          obtain ⟨w, us2, rfl, rb, fb, t2⟩ := t
          unfold AvA at t2
          subst t2
          have ra' : Rp X.K ow1 H1 (.list _) v := ra
          have rb' : Rp X.K ow1 H1 (.list _) w := rb
          unfold Rp at ra' rb'
          obtain ⟨a, us, rfl, h1, n1, q1⟩ := ra'
          obtain ⟨b, ws, rfl, h2, n2, q2⟩ := rb'
          exact ⟨a, b, us, ws, rfl, .inl ⟨SqL.of h1, SqL.of h2, g _ ow1 H1 g1 R1 (wk_zipL h1 n1 h2 n2 q1 q2 hok)⟩⟩
        · obtain ⟨hok, rfl⟩ := ite_some hz
          unfold AvA at p1'
          obtain ⟨v, us, rfl, ra, fa, t⟩ := p1'
          unfold AvA at t
          obtain ⟨w, us2, rfl, rb, fb, t2⟩ := t
          unfold AvA at t2
          subst t2
          have ra' : Rp X.K ow1 H1 (.tuple _) v := ra
          have rb' : Rp X.K ow1 H1 (.tuple _) w := rb
          unfold Rp at ra' rb'
          obtain ⟨a, us, rfl, h1, q1⟩ := ra'
          obtain ⟨b, ws, rfl, h2, q2⟩ := rb'
          exact ⟨a, b, us, ws, rfl, .inr ⟨h1.sq, h2.sq, g _ ow1 H1 g1 R1 (wk_zipT h1 h2 q1 q2 hok)⟩⟩
        · cases hz
    | ex c e1 => rw [hq] at g; exact g
    | bad => rw [hq] at g; exact g
end
end ML
end

section
set_option Elab.async false
set_option linter.all false
set_option maxRecDepth 100000
set_option maxHeartbeats 2000000
/-! # A def that calls itself -/
namespace ML
open PySem L2
open PyProof.Rows (envOfC)
section
variable {P : Program} {w : World} {K : PySem.W.Frag} {mg : Str → Option Value} {base : Heap} {ca : CA}
theorem calBad {x qual : Str} {params : Arguments} {body : List Stmt} {scope : Scope} {f : Addr} {fd : FuncData} {N ps : List Str} {k : Nat} (Fn : FunD K x qual params body scope [] [] f fd) (hm : mg x = some (.ref f)) (S : FnScope N ps scope)
    (hb : ∀ (kV doc pm : Value) (an : Option Addr) (cdv ct : Value) (us : List Value), us.length = ps.length → bindArgs (PySem.W.fnOf x qual params body scope .none kV doc pm an cdv ct) ⟨us, []⟩ = pure (ps.zip us)) :
    Cal P w K mg base ca (k + 1) x ps.length (fun _ => .bad) :=
  ⟨f, fd, ps, hm, Fn.kp, Fn.bindsN hb, Fn.ok S (fun vs H Q E ⟨_, _, h, _⟩ => h) fun cdv A outer s H vs Q E hr ⟨ow, args, hv, AO, tr, g⟩ => g.elim⟩
end
end ML
end

section
set_option Elab.async false
set_option linter.all false
set_option maxRecDepth 100000
set_option maxHeartbeats 2000000
/-! # What is known of a def that calls what it got -/
namespace ML
open PySem L2 LamX He
theorem saidD {X : Cx} {x a : Str} {g : Addr} {fd : FuncData} {pg : Arguments} {Ng : List Str} {sg : Scope} {bg : List Stmt} {l : List (Value × Str)} {kT : V → Hp → VK → Prop} {kW : Str → Hp → VK → Prop} (hm : X.mg x = some (.ref g)) (F : FunD X.K x x pg bg sg [] [] g fd) (S : FnScope Ng [a] sg)
    (hb : ∀ (kV doc pm : Value) (an : Option Addr) (cdv ct : Value) (us : List Value), us.length = [a].length → bindArgs (PySem.W.fnOf x x pg bg sg .none kV doc pm an cdv ct) ⟨us, []⟩ = pure ([a].zip us)) (at0 : Ng[0]? = some a := by rfl) (vis : Vis sg a := by first | exact Or.inl rfl | exact Or.inr (Or.inl rfl) | exact Or.inr (Or.inr rfl)) :
    SaidD X x a Ng sg bg l kT kW := by
  have B := F.bindsN hb
  obtain ⟨oc, od, dV, kV, doc, pm, an, cdv, ct, osl, e1, lk, hcd, _, _⟩ := F.ex
  subst e1
  exact ⟨⟨g, pg, dV, kV, doc, pm, cdv, ct, oc, an, od, osl, hm, F.kp, lk, hcd, B⟩, S, at0, vis⟩
section
variable {ca : CA} {X : Cx} {pos : Pos} {a b c : Expr}
/-- what a test asks of a value -/
theorem tB_of {K : PySem.W.Frag} {F : Fr} {W : WX} {m : M D} {σ : L2.St} {H : Hp} {Q : Bool → Hp → Prop} (h : tT K ca F W (tB_ m) σ H Q) : tE K ca F W m σ H (fun x H' => ∃ k, x = .bl k ∧ Q k H') := by
  obtain ⟨ow, env, R, g⟩ := h
  exact go_bind R g fun x e1 v1 ow1 H1 g1 R1 p1 q1 => by
    obtain ⟨z, ez, q⟩ := lift_go q1
    have ed := dB_some ez
    subst ed
    have p1' : Rp K ow1 H1 (.bool z) v1 := p1
    unfold Rp at p1'
    exact ⟨z, p1', q z ow1 H1 Go.refl R1 rfl⟩
theorem mt_din {my : M D} {md : M AV} (hu : X.A.units + 1 < cLine) (hk : ME ca X a my) (hd : MQ ca X b md) (hm : behindInMarks .In b = false := by with_unfolding_all rfl) : MT ca X (.Compare a [.In] [b] pos) (tB_ (eDIn false my md)) := fun F W tk =>
  PT.imp (pt_cmp (pc_din hu (hk F W tk) (hd F W tk)) hm) fun σ H Q h => by
    have z := din_go (tB_of h)
    simp only [Bool.false_xor] at z
    exact z
theorem mt_dnin {my : M D} {md : M AV} (hu : X.A.units + 1 < cLine) (hk : ME ca X a my) (hd : MQ ca X b md) (hm : behindInMarks .NotIn b = false := by with_unfolding_all rfl) : MT ca X (.Compare a [.NotIn] [b] pos) (tB_ (eDIn true my md)) := fun F W tk =>
  PT.imp (pt_cmp (pc_dnotin hu (hk F W tk) (hd F W tk)) hm) fun σ H Q h => by
    have z := din_go (tB_of h)
    simp only [Bool.true_xor] at z
    exact z
theorem chain_go {K : PySem.W.Frag} {F : Fr} {W : WX} {r r' : R2} {g g' : Sl → Sl → Option D} {ma mb mc : M AV} {σ : L2.St} {H : Hp} {Q : VK} (hs : OpS K ca r g) (hs' : OpS K ca r' g') (h : tE K ca F W (eChain g g' ma mb mc) σ H Q) : tChain r r' (tQ K ca F W ma) (tQ K ca F W mb) (tQ K ca F W mc) σ H Q := by
  obtain ⟨ow, env, R, gg⟩ := h
  exact go_bind R gg fun x e1 v1 ow1 H1 g1 R1 p1 q1 => go_bind R1 q1 fun y e2 v2 ow2 H2 g2 R2 p2 q2 => by
      cases hd : (g (content e2 x) (content e2 y)).bind dB with
      | none => simp only [hd] at q2; exact q2.elim
      | some k =>
        obtain ⟨d, ed, ez⟩ := Option.bind_eq_some_iff.mp hd
        have ed' := dB_some ez
        subst ed'
        refine hs _ _ _ ow2 H2 v1 v2 _ ed (fun n => (p1.1.go g2).sv R2 n) (fun n => p2.1.sv R2 n) R2.trk fun v H' gr rp => ?_
        unfold Rp at rp
        refine ⟨k, rp, ?_⟩
        have R3 := R2.gr gr
        have g3 := Go.gr R2 gr
        cases k with
        | true =>
          rw [if_pos rfl]
          simp only [hd] at q2
          exact go_bind R3 (q2.mono g3) fun z e4 v4 ow4 H4 g4 R4 p4 q4 => by
            obtain ⟨w, ew, q⟩ := lift_go q4
            exact hs' _ _ w ow4 H4 v2 v4 Q ew (fun n => ((p2.1.go g3).go g4).sv R4 n) (fun n => p4.1.sv R4 n) R4.trk fun v H' gr rp => go_val R4 q gr rp
        | false =>
          rw [if_neg Bool.false_ne_true]
          simp only [hd] at q2
          exact q2 (.bl false) ow2 H' g3 R3 (by show Rp _ _ _ (.bool false) _; unfold Rp; rfl)
theorem mt_chain {op op' : CmpOp} {r r' : R2} {g g' : Sl → Sl → Option D} {ma mb mc : M AV} (ho : OpR X (compareOp op) r) (hs : OpS X.K ca r g) (ho' : OpR X (compareOp op') r') (hs' : OpS X.K ca r' g') (ha : MQ ca X a ma) (hb : MQ ca X b mb) (hc : MQ ca X c mc)
    (hm : lastMarks [op, op'] [b, c] = false := by with_unfolding_all rfl) : MT ca X (.Compare a [op, op'] [b, c] pos) (tB_ (eChain g g' ma mb mc)) := fun F W tk =>
  PT.imp (pt_chain ho ho' (ha F W tk) (hb F W tk) (hc F W tk) hm) fun σ H Q h => chain_go hs hs' (tB_of h)
end
end ML
end

section
set_option Elab.async false
set_option linter.all false
set_option maxRecDepth 100000
set_option maxHeartbeats 2000000
/-! # list(text), list of the script -/
namespace ML
open PySem L2
theorem vals_chars {z : Str} : ∀ (cs : List Nat) (us : List Value), us.length = cs.length → (∀ (j : Nat) (u : Value), us[j]? = some u → ∃ (c : Nat) (t : Tok), cs[j]? = some c ∧ u = Value.str ⟨#[c]⟩ t) → Vals (cs.map fun c => V.str (sign c)) us
  | [], [], _, _ => .nil
  | [], _ :: _, h, _ => by simp at h
  | _ :: _, [], h, _ => by simp at h
  | c :: cs, u :: us, h, k => by
    obtain ⟨c', t, e1, e2⟩ := k 0 u rfl
    cases e1
    exact .cons ⟨t, e2⟩ (vals_chars (z := z) cs us (by simpa using h) fun j u h => k (j + 1) u h)
def rListA (K : PySem.W.Frag) : List V → Hp → VK → Prop := fun xs H Q => (∃ p ys, xs = [.ref p] ∧ (SqL K H p ys ∨ SqT K H p ys) ∧ ∀ l, H l = none → Q (.ref l) (upd H l (.lst ys))) ∨
  ∃ z : Str, xs = [.str z] ∧ z.length ≤ sizeLine ∧ ∀ l, H l = none → Q (.ref l) (upd H l (.lst (z.cps.toList.map fun c => V.str (sign c))))
theorem cr_listA {X : Cx} (hc : X.calm = true) : CallR X (.type "list") (rListA X.K) := fun pins s σ H xs us Q I r h => by
  rcases h with h | ⟨z, rfl, hz, q⟩
  · exact call_list_of pins s σ H xs us Q I r h
  · obtain ⟨u, rfl, t, rfl⟩ := vals1 r
    refine PySem.call_list_str (I.ok.hd hc) z t (fun h' tk acc' c' kp e hi => ?_) (show z.length ≤ sizeLine from hz)
    have rv : Vals (z.cps.toList.map fun c => V.str (sign c)) acc'.toList := vals_chars (z := z) _ _ (by rw [Array.length_toList, Array.length_toList]; exact hi.1) fun j u hu => by
      obtain ⟨c, t, h1, h2⟩ := hi.2 j u (by rw [← Array.getElem?_toList]; exact hu)
      exact ⟨c, t, by rw [Array.getElem?_toList]; exact h1, h2⟩
    refine ⟨.ref s.heap.objs.size, _, I.laid (t' := tk) kp (Nat.le_refl _) (show ObjOk X.prog X.w _ h' _ (.lst _) from ⟨?_, acc'.toList, c', rv, ?_⟩), rfl, q _ (I.hok.fresh (Nat.le_refl _))⟩
    · rw [List.length_map, Array.length_toList]; exact hz
    · rw [Array.toArray_toList]; exact e
@[simp] def bListA : List Sl → Option (List D)
  | [.d (.str z)] => if z.length ≤ LIM then some (z.cps.toList.map fun c => .str (sign c)) else none
  | [.sc ns] => some (ns.map PyData.int)
  | [s] => seqOf s
  | _ => none
theorem rpA_signs {K : PySem.W.Frag} {ow : Addr → Prop} {H : Hp} : ∀ {cs : List Nat}, RpA K ow H (cs.map fun c => PyData.str (sign c)) (cs.map fun c => V.str (sign c))
  | [] => by unfold RpA; rfl
  | c :: cs => by
    show RpA K ow H (_ :: _) (_ :: _)
    unfold RpA
    exact ⟨_, _, rfl, rp_str, rpA_signs⟩
theorem b_listA {K : PySem.W.Frag} {ca : CA} : BltF K ca (rListA K) bListA := fun ss z ow H vs Q e h tr k => by
  unfold bListA at e
  split at e
  · obtain ⟨hl, rfl⟩ := ite_some e
    obtain ⟨v, rfl, r⟩ := sva1 h
    exact .inr ⟨_, by rw [sv_str r], lim_line hl, fun l hl => k l _ hl rpA_signs⟩
  · cases e
    obtain ⟨v, rfl, r⟩ := sva1 h
    obtain ⟨a, rfl, h1⟩ := r (by simp)
    exact .inl ⟨a, _, rfl, .inl h1.sq, fun l hl => k l _ hl rpA_ints⟩
  · obtain ⟨v, rfl, r⟩ := sva1 h
    obtain ⟨a, us, rfl, h1, h2⟩ := seqOf_ok e r
    exact .inl ⟨a, us, rfl, h1, fun l hl => k l us hl h2⟩
  · cases e
end ML
end

section
set_option Elab.async false
set_option linter.all false
set_option maxRecDepth 100000
set_option maxHeartbeats 2000000
/-! # A comprehension over an own list -/
namespace ML
open PySem L2
/-- a walk that leans on what is loose -/
def WkL (K : PySem.W.Frag) (J : It) (ds : List D) (ow1 : Addr → Prop) (H1 : Hp) (e1 : List Sl) (σ : St) : Prop :=
  ∀ (i : Nat) (ow2 : Addr → Prop) (H2 : Hp), Stp ow1 H1 ow2 H2 → (∀ p, ow1 p → ¬ IsT (H1 p) → ¬ Held e1 σ p → ow2 p ∧ H2 p = H1 p) → Trk ow2 H2 →
    (i < ds.length → J.go i H2 ∧ ∀ x H', J.yld i H2 x H' → Gr H2 H' ∧ ∀ d, ds[i]? = some d → Rp K ow2 H' d x) ∧ (ds.length ≤ i → J.stop i H2)
theorem lcW {K : PySem.W.Frag} {ca : CA} {F F' : Fr} {js vs : List Nat} {g : GF} {tt : M Bool} {te : M D} {J : It} {ds : List D} {ow1 : Addr → Prop} {H1 : Hp} {e1 : List Sl} {σ : St} {Dl : Addr} {Q : VK} (hjs : ∀ j ∈ js, j ∈ vs) (R1 : Rel K ca F ow1 e1 σ H1) (wk : WkL K J ds ow1 H1 e1 σ) (hD : H1 Dl = none)
    (nb0 : ∃ xs e2, compL g tt te vs ds [] (wipeE e1 vs) = .ok xs e2)
    (kfin : ∀ {ow2 : Addr → Prop} {H2 : Hp} {e2 : List Sl} {xs : List D} {acc : List V}, compL g tt te vs ds [] (wipeE e1 vs) = .ok xs e2 → Rel K ca F ow2 e2 (L2.wipe σ vs) H2 → Stp ow1 H1 ow2 H2 → (∀ p, ow1 p → ¬ IsT (H1 p) → ¬ Held e1 σ p → ow2 p ∧ H2 p = H1 p ∧ ¬ Held e2 (L2.wipe σ vs) p) → (∀ a, H2 a = none → H1 a = none) →
        H2 Dl = some (.lst acc) → RpA K ow2 H2 xs acc → Loose F ow2 e2 (L2.wipe σ vs) Dl → Q (.ref Dl) H2) :
    ∃ W : Nat → Nat → Hp → Prop, (∃ m, W 0 m (upd H1 Dl (.lst []))) ∧ ∀ i m H, W i m H →
      (J.stop i H ∧ Q (.ref Dl) H) ∨ (J.go i H ∧ ∃ Nx : Hp → Prop, (∀ H', Nx H' → ∃ m', m' < m ∧ W (i + 1) m' H') ∧ ∀ x H', J.yld i H x H' → (tGt K ca F js g) x (L2.wipe σ vs) H' fun σ2 H2 => L2.wipe σ2 vs = L2.wipe σ vs ∧ (tTs K ca F (fun _ _ _ _ => False) tt) σ2 H2 fun b H3 =>
        if b = true then (tE K ca F (fun _ _ _ _ => False) te) σ2 H3 fun y H4 => ∃ acc, H4 Dl = some (.lst acc) ∧ acc.length < sizeLine ∧ Nx (upd H4 Dl (.lst (acc ++ [y]))) else Nx H3) := by
    obtain ⟨rz, hrz⟩ : ∃ rz, compL g tt te vs ds [] (wipeE e1 vs) = rz := ⟨_, rfl⟩
    obtain ⟨R2, Lf⟩ := R1.more (o := .lst []) hD
    have hw : ∀ σ2 : St, σ2.length = (L2.wipe σ vs).length → (∀ i, i ∉ js → σ2[i]? = (L2.wipe σ vs)[i]?) → L2.wipe σ2 vs = L2.wipe σ vs := fun σ2 hl hf => by
      apply List.ext_getElem?
      intro i
      have key : ∀ (τ : St) (us : List Nat) (i : Nat), (L2.wipe τ us)[i]? = if i ∈ us then (if i < τ.length then some none else none) else τ[i]? := by
        intro τ us
        induction us with
        | nil => intro i; simp [L2.wipe]
        | cons u us ih =>
          intro i
          show ((L2.wipe τ us).set u none)[i]? = _
          by_cases hu : u = i
          · subst hu
            rw [if_pos List.mem_cons_self]
            by_cases hlt : u < τ.length
            · rw [if_pos hlt, List.getElem?_set_self (by rw [wipe_length]; exact hlt)]
            · rw [if_neg hlt, List.getElem?_eq_none (by rw [List.length_set, wipe_length]; omega)]
          · rw [List.getElem?_set_ne hu, ih i]
            by_cases hi : i ∈ us
            · rw [if_pos hi, if_pos (List.mem_cons_of_mem _ hi)]
            · rw [if_neg hi, if_neg (fun z => hi ((List.mem_cons.mp z).resolve_left fun z => hu z.symm))]
      rw [wipe_length] at hl
      rw [key, key, hl]
      by_cases hi : i ∈ vs
      · rw [if_pos hi, if_pos hi]
      · rw [if_neg hi, if_neg hi, hf i (fun z => hi (hjs i z)), key, if_neg hi]
    refine ⟨fun i m Hx => m = ds.length - i ∧ i ≤ ds.length ∧ ∃ ow2 e2 done acc, Rel K ca F ow2 e2 (L2.wipe σ vs) Hx ∧ Stp ow1 H1 ow2 Hx ∧ (∀ p, ow1 p → ¬ IsT (H1 p) → ¬ Held e1 σ p → ow2 p ∧ Hx p = H1 p ∧ ¬ Held e2 (L2.wipe σ vs) p) ∧ (∀ a, Hx a = none → H1 a = none) ∧
      Hx Dl = some (.lst acc) ∧ RpA K ow2 Hx done acc ∧ Loose F ow2 e2 (L2.wipe σ vs) Dl ∧ compL g tt te vs (ds.drop i) done e2 = rz, ⟨_, rfl, Nat.zero_le _, more ow1 Dl, wipeE e1 vs, [], [], R2.wipe vs, stp_more hD, fun p w nt n => ?_, fun a ha => ?_, upd_same, by unfold RpA; rfl, loose_of Lf.1 Lf.2.1 Lf.2.2.1 fun z => Lf.held (held_wipe z), hrz⟩, ?_⟩
    · refine ⟨.inl w, ?_, fun z => n (held_wipe z)⟩
      obtain ⟨u, hu⟩ := R1.trk p w
      exact upd_ne fun z => by rw [z, hD] at hu; cases hu
    · by_cases z : a = Dl
      · rw [z]; exact hD
      · rw [upd_ne z] at ha; exact ha
    rintro i m Hx ⟨rfl, hi2, ow2, e2, done, acc, R3, st, lo, dom, hacc, ra, L3, ec⟩
    by_cases hlt : i < ds.length
    · obtain ⟨d, hd⟩ := some_of_lt hlt
      have ed : ds.drop i = d :: ds.drop (i + 1) := by
        rw [List.drop_eq_getElem_cons hlt]
        have := List.getElem?_eq_getElem hlt
        rw [this] at hd
        cases hd; rfl
      rw [ed] at ec
      obtain ⟨jg, jy⟩ := (wk i ow2 Hx st (fun p w nt n => ⟨(lo p w nt n).1, (lo p w nt n).2.1⟩) R3.trk).1 hlt
      refine .inr ⟨jg, fun Hx => ∃ ow2 e2 done acc, Rel K ca F ow2 e2 (L2.wipe σ vs) Hx ∧ Stp ow1 H1 ow2 Hx ∧ (∀ p, ow1 p → ¬ IsT (H1 p) → ¬ Held e1 σ p → ow2 p ∧ Hx p = H1 p ∧ ¬ Held e2 (L2.wipe σ vs) p) ∧ (∀ a, Hx a = none → H1 a = none) ∧
        Hx Dl = some (.lst acc) ∧ RpA K ow2 Hx done acc ∧ Loose F ow2 e2 (L2.wipe σ vs) Dl ∧ compL g tt te vs (ds.drop (i + 1)) done e2 = rz, fun H' ⟨ow2, e2, done, acc, r⟩ => ⟨_, by omega, rfl, hlt, ow2, e2, done, acc, r⟩, fun x H' y => ?_⟩
      obtain ⟨gr, rp⟩ := jy x H' y
      have R4 := R3.gr gr
      have gogr := Go.gr R3 gr
      -- what is asked would be bad otherwise
      unfold compL at ec
      have nb : ∀ {r : ML.R (List D)}, r = rz → r ≠ .bad := fun {r} er z => by
        rw [z] at er
        rw [← er] at hrz
        obtain ⟨xs0, e0, q0⟩ := nb0
        rw [q0] at hrz
        cases hrz
      cases hg1 : g d e2 with
      | none => rw [hg1] at ec; exact absurd rfl (nb ec)
      | some e3 =>
        rw [hg1] at ec
        refine ⟨ow2, e2, d, e3, R4, rp d hd, hg1, fun σ4 hl4 hf4 R5 k5 => ⟨hw σ4 hl4 hf4, ow2, e3, R5, ?_⟩⟩
        dsimp only at ec
        cases ht : tt e3 with
        | ok b e4 =>
          rw [ht] at ec
          rintro b' ow5 H5 g5 R6 eb
          have eb' : b' = b := eb
          subst eb'
          have st5 : Stp ow1 H1 ow5 H5 := (st.trans gr.stp).trans g5.stp
          have wp : L2.wipe σ4 vs = L2.wipe σ vs := hw σ4 hl4 hf4
          have lo5 : ∀ p, ow1 p → ¬ IsT (H1 p) → ¬ Held e1 σ p → ow5 p ∧ H5 p = H1 p ∧ ¬ Held e4 σ4 p := fun p w nt n => by
            obtain ⟨a, b, c⟩ := lo p w nt n
            obtain ⟨a2, b2, c2⟩ := gogr.lo p a (by rw [b]; exact nt) c
            obtain ⟨a3, b3, c3⟩ := g5.lo p a2 (by rw [b2, b]; exact nt) fun z => c2 (k5 p z)
            exact ⟨a3, b3.trans (b2.trans b), c3⟩
          have dom5 : ∀ a, H5 a = none → H1 a = none := fun a ha => dom a (gogr.dom a (g5.dom a ha))
          have LD : Loose F ow5 e4 σ4 Dl ∧ H5 Dl = some (.lst acc) := by
            obtain ⟨l1, q1⟩ := L3.go gogr (noT_lst hacc)
            have l2 : Loose F ow2 e3 σ4 Dl := loose_of l1.1 l1.2.1 l1.2.2.1 fun z => l1.held (k5 Dl z)
            obtain ⟨l3, q3⟩ := l2.go g5 (noT_lst (by rw [q1]; exact hacc))
            exact ⟨l3, by rw [q3, q1, hacc]⟩
          have ra5 : RpA K ow5 H5 done acc := ra.stp (gr.stp.trans g5.stp)
          cases b' with
          | true =>
            rw [if_pos rfl]
            dsimp only at ec
            refine ⟨ow5, e4, R6, ?_⟩
            cases hte : te e4 with
            | ok y e5 =>
              rw [hte] at ec
              rintro v ow6 H6 g6 R7 r7
              obtain ⟨l6, q6⟩ := LD.1.go g6 (noT_lst LD.2)
              have hc : done.length < LIM := by
                by_cases z : done.length < LIM
                · exact z
                · simp only [if_neg z] at ec; exact absurd rfl (nb ec)
              simp only [if_pos hc] at ec
              have h6 : H6 Dl = some (.lst acc) := by rw [q6]; exact LD.2
              have ra6 : RpA K ow6 H6 done acc := ra5.stp g6.stp
              have sm : Stp ow6 H6 ow6 (upd H6 Dl (.lst (acc ++ [v]))) := stp_mut l6.1
              have R8 := (R7.mutL (o := .lst (acc ++ [v])) l6).wipe vs
              rw [wp] at R8
              refine ⟨acc, h6, lim_lt (by rw [← ra6.length]; exact hc), ow6, wipeE e5 vs, done ++ [y], acc ++ [v], R8, (st5.trans g6.stp).trans sm, fun p w nt n => ?_, fun a ha => ?_, upd_same, (RpA.snoc r7 ra6).stp sm, ?_, ec⟩
              · obtain ⟨a, b, c⟩ := lo5 p w nt n
                obtain ⟨a2, b2, c2⟩ := g6.lo p a (by rw [b]; exact nt) c
                refine ⟨a2, ?_, fun z => c2 (by rw [← wp] at z; exact held_wipe z)⟩
                obtain ⟨u, hu⟩ := R1.trk p w
                rw [upd_ne (fun z => by rw [z, hD] at hu; cases hu)]
                exact b2.trans b
              · by_cases z : a = Dl
                · rw [z]; exact hD
                · rw [upd_ne z] at ha; exact dom5 a (g6.dom a ha)
              · exact loose_of l6.1 l6.2.1 l6.2.2.1 fun z => l6.held (by rw [← wp] at z; exact held_wipe z)
            | ex c e5 => rw [hte] at ec; exact absurd rfl (nb ec)
            | bad => rw [hte] at ec; exact absurd rfl (nb ec)
          | false =>
            rw [if_neg Bool.false_ne_true]
            dsimp only at ec
            have R8 := R6.wipe vs
            rw [wp] at R8
            refine ⟨ow5, wipeE e4 vs, done, acc, R8, st5, fun p w nt n => ?_, dom5, LD.2, ra5, ?_, ec⟩
            · obtain ⟨a, b, c⟩ := lo5 p w nt n
              exact ⟨a, b, fun z => c (by rw [← wp] at z; exact held_wipe z)⟩
            · exact loose_of LD.1.1 LD.1.2.1 LD.1.2.2.1 fun z => LD.1.held (by rw [← wp] at z; exact held_wipe z)
        | ex c e4 => rw [ht] at ec; exact absurd rfl (nb ec)
        | bad => rw [ht] at ec; exact absurd rfl (nb ec)
    · have ei : i = ds.length := by omega
      subst ei
      rw [List.drop_length] at ec
      unfold compL at ec
      exact .inl ⟨(wk ds.length ow2 Hx st (fun p w nt n => ⟨(lo p w nt n).1, (lo p w nt n).2.1⟩) R3.trk).2 (Nat.le_refl _), kfin (hrz.trans ec.symm) R3 st lo dom hacc ra L3⟩
section
variable {ca : CA} {X : Cx} {pos : Pos} {tg elt : Expr}
/-- [.. for .. in l], l an own list of slot i -/
def oCompO (i : Nat) (g : GF) (tt : M Bool) (te : M D) (vs : List Nat) : M Ob := fun env => match env[i]? with
  | some (.o true (.lst xs)) => (match compL g tt te vs xs [] (wipeE (env.set i .un) vs) with
    | .ok ys e => .ok (.lst ys) ((restE (env.set i .un) e vs).set i (.o true (.lst xs)))
    | _ => .bad)
  | _ => .bad
theorem lc_own {K : PySem.W.Frag} {F : Fr} {W : WX} {F' : Fr} {i : Nat} {js vs : List Nat} {g : GF} {tt : M Bool} {te : M D} (hjs : ∀ j ∈ js, j ∈ vs) {σ : L2.St} {H : Hp} {Q : VK} (h : tO K ca F W (oCompO i g tt te vs) σ H Q) :
    tLc (iAny K fun σ H Q => ∃ v, σ[i]? = some (some v) ∧ Q v H) (tGt K ca F js g) (tTs K ca F (fun _ _ _ _ => False) tt) (tE K ca F (fun _ _ _ _ => False) te) vs σ H Q := by
  obtain ⟨ow, env, R, gg⟩ := h
  unfold oCompO at gg
  split at gg
  · rename_i xs hi
    obtain ⟨v, hv, sl⟩ := SlR.at R hi
    obtain ⟨p, rfl, w, ro, h0, n0⟩ := sl
    have ro' : OwnR K ca ow H p (.lst xs) := ro
    obtain ⟨us, hp, ra⟩ := ro
    have il : i < env.length := (List.getElem?_eq_some_iff.mp hi).1
    have ev : (σ.getD i none) = some (V.ref p) := by rw [List.getD_eq_getElem?_getD, hv]; rfl
    have es : σ.set i (σ.getD i none) = σ := by
      apply List.ext_getElem?
      intro j
      by_cases e : i = j
      · subst e
        rw [List.getElem?_set_self (by rw [← R.len]; exact il), ev, hv]
      · rw [List.getElem?_set_ne e]
    have R1 : Rel K ca F ow (env.set i .un) σ H := by
      have z := R.drop (i := i) (v := σ.getD i none)
      rw [es] at z
      exact z
    have nh : ¬ Held (env.set i .un) σ p := fun ⟨j, l, k, a, b⟩ => by
      by_cases e : i = j
      · subst e
        rw [List.getElem?_set_self il] at a; cases a
      · rw [List.getElem?_set_ne e] at a
        exact e (R.dis i j p true l _ k hi a hv b)
    have Lp : Loose F ow (env.set i .un) σ p := loose_of w h0 n0 nh
    cases hc : compL g tt te vs xs [] (wipeE (env.set i .un) vs) with
    | ok ys e2 =>
      rw [hc] at gg
      refine ⟨.ref p, hv, .inl ⟨p, rfl, ⟨us, SqL.of hp⟩, fun Dl hD => ?_⟩⟩
      have wk : WkL K (Itl K p) xs ow H (env.set i .un) σ := fun j ow2 H2 st lo tr => by
        obtain ⟨w2, e2⟩ := lo p w (noT_lst hp) nh
        have hp2 : H2 p = some (.lst us) := by rw [e2, hp]
        have ra2 := ra.stp st
        refine ⟨fun hj => ?_, fun hj => ⟨us, SqL.of hp2, by rw [← ra.length]; exact hj⟩⟩
        obtain ⟨x, hx⟩ := some_of_lt (xs := us) (i := j) (by rw [← ra.length]; exact hj)
        refine ⟨⟨us, x, SqL.of hp2, hx⟩, fun y H' ⟨e, q⟩ => ?_⟩
        subst e
        exact ⟨Gr.refl, fun d hd => ra2.get hd (q us (SqL.of hp2))⟩
      refine lcW (F' := F') hjs R1 wk hD ⟨ys, e2, hc⟩ fun {ow2 H2 e3 zs acc} hq R3 st lo dom hacc ra3 L3 => ?_
      rw [hc] at hq
      cases hq
      have R4 := Rel.rest (env0 := env.set i .un) (σ := σ) R3 (fun v x hv => by
        obtain ⟨u, hu, r⟩ := R1.data hv
        exact ⟨u, hu, r.stp st⟩) vs
      rw [restS_all] at R4
      have hr : ∀ {q : Addr}, Held (restE (env.set i .un) e2 vs) σ q → Held e2 (L2.wipe σ vs) q := fun {q} hp => held_rest (env0 := env.set i .un) (σ := σ) (vs := vs) (by rw [restS_all]; exact hp)
      obtain ⟨w3, e3', c3⟩ := lo p w (noT_lst hp) nh
      have Lp3 : Loose F ow2 (restE (env.set i .un) e2 vs) σ p := loose_of w3 h0 n0 fun z => c3 (hr z)
      have hp3 : H2 p = some (.lst us) := by rw [e3', hp]
      have R5 := R4.setO (i := i) (k := .lst xs) Lp3 ⟨us, hp3, ra.stp st⟩
      have es2 : σ.set i (some (.ref p)) = σ := by rw [← ev]; exact es
      rw [es2] at R5
      have hs : ∀ {q : Addr}, q ≠ p → Held ((restE (env.set i .un) e2 vs).set i (.o true (.lst xs))) σ q → Held (restE (env.set i .un) e2 vs) σ q := fun {q} hq ⟨j, l, k, a, b⟩ => by
        by_cases e : i = j
        · subst e
          rw [hv] at b
          exact absurd (by cases b; rfl) hq
        · rw [List.getElem?_set_ne e] at a
          exact ⟨j, l, k, a, b⟩
      have dp : Dl ≠ p := fun z => by rw [z, hp] at hD; cases hD
      have LD := loose_of (env := (restE (env.set i .un) e2 vs).set i (.o true (.lst xs))) (σ := σ) L3.1 L3.2.1 L3.2.2.1 fun z => L3.held (hr (hs dp z))
      refine gg (.ref Dl) ow2 H2 ⟨st, fun q wq nt nq => ?_, dom⟩ R5 ⟨Dl, rfl, hD, ⟨acc, hacc, ra3⟩, LD⟩
      have qp : q ≠ p := fun z => nq (by rw [z]; exact ⟨i, true, _, hi, hv⟩)
      obtain ⟨a, b, c⟩ := lo q wq nt (fun ⟨j, l, k, a, b⟩ => by
        by_cases e : i = j
        · subst e
          rw [List.getElem?_set_self il] at a; cases a
        · rw [List.getElem?_set_ne e] at a
          exact nq ⟨j, l, k, a, b⟩)
      exact ⟨a, b, fun z => c (hr (hs qp z))⟩
    | ex c e2 => rw [hc] at gg; exact gg.elim
    | bad => rw [hc] at gg; exact gg.elim
  · exact gg.elim
theorem mo_lcO (i : Nat) {x : Str} {px : Pos} {scope : Scope} {own : List (Str × Nat)} {ifs : List Expr} {js : List Nat} {g : GF} {tt : M Bool} {te : M D} (hN : X.N.Nodup) (ok : BlkOk X.N X.env.scope scope own)
    (hg : ∀ (s : Shared) (H : Hp) (C : Addr) (cl : List (Str × Addr)) (fp : List Addr), MG ca (X.blk s H scope (compEnvC scope cl C X.env) fp) tg js g)
    (ht : ∀ (s : Shared) (H : Hp) (C : Addr) (cl : List (Str × Addr)) (fp : List Addr), MTs ca (X.blk s H scope (compEnvC scope cl C X.env) fp) ifs tt)
    (he : ∀ (s : Shared) (H : Hp) (C : Addr) (cl : List (Str × Addr)) (fp : List Addr), ME ca (X.blk s H scope (compEnvC scope cl C X.env) fp) elt te)
    (hNi : X.N[i]? = some x := by rfl) (hv : Vis X.env.scope x := by first | exact Or.inl rfl | exact Or.inr (Or.inl rfl) | exact Or.inr (Or.inr rfl)) (hd : (x == ("__debug__" : Str)) = false := by decide) (hcd : (x == ("__classdict__" : Str)) = false := by decide)
    (hjs : ∀ j ∈ js, j ∈ own.map (·.2) := by decide) (hc : X.calm = true := by rfl) (hs : ∀ y, foldedSetIterable (.Name x px) X.env y = pure y := by intro _; rfl) :
    MO ca X (.ListComp elt [⟨tg, .Name x px, ifs, 0⟩] scope pos) (oCompO i g tt te (own.map (·.2))) := fun F W tk =>
  PE.imp (pe_lc hc hN (pi_any (pe_var hNi hv hd hcd)) ok (fun s H C cl fp => hg s H C cl fp F) (fun s H C cl fp => ht s H C cl fp F _ ⟨takes0, tk.h⟩) (fun s H C cl fp => he s H C cl fp F _ ⟨takes0, tk.h⟩) hs) fun σ H Q h => lc_own (F' := F) hjs h
end
end ML
end

section
set_option Elab.async false
set_option linter.all false
set_option maxRecDepth 100000
set_option maxHeartbeats 2000000
/-! # Plain lemmas on mirrors -/
namespace ML
open PySem (Str)
/-- a comprehension that comes back to its start at each turn -/
theorem compL_map {g : GF} {tt : M Bool} {te : M D} {vs : List Nat} {e0 : List Sl} {p : D → Bool} {f : D → D} : ∀ (ds done : List D),
    (∀ d ∈ ds, ∃ e1, g d e0 = some e1 ∧ tt e1 = .ok (p d) e1 ∧ (p d = true → te e1 = .ok (f d) e1) ∧ wipeE e1 vs = e0) → done.length + ds.length ≤ LIM →
    compL g tt te vs ds done e0 = .ok (done ++ (ds.filter p).map f) e0 := by
  intro ds
  induction ds with
  | nil => intro done _ _; simp [compL]
  | cons d ds ih =>
    intro done h hl
    obtain ⟨e1, h1, h2, h3, h4⟩ := h d List.mem_cons_self
    rw [List.length_cons] at hl
    rw [compL, h1]
    dsimp only
    rw [h2]
    cases hp : p d with
    | true =>
      dsimp only
      rw [h3 hp]
      dsimp only
      rw [if_pos (show done.length < LIM by omega), h4, ih _ (fun x hx => h x (List.mem_cons_of_mem _ hx)) (by rw [List.length_append, List.length_singleton]; omega)]
      simp [hp]
    | false =>
      dsimp only
      rw [h4, ih _ (fun x hx => h x (List.mem_cons_of_mem _ hx)) (by omega)]
      simp [hp]
theorem forL_all {g : GF} {mb : MStm} {Inv : List D → List Sl → Prop} : ∀ (ds : List D) (e : List Sl), Inv ds e → (∀ d r e, Inv (d :: r) e → ∃ e1 e2, g d e = some e1 ∧ mb e1 = .nx e2 ∧ Inv r e2) → ∃ e', forL g mb ds e = .nx e' ∧ Inv [] e' := by
  intro ds
  induction ds with
  | nil => intro e h _; exact ⟨e, rfl, h⟩
  | cons d r ih =>
    intro e h s
    obtain ⟨e1, e2, h1, h2, h3⟩ := s d r e h
    obtain ⟨e', h4, h5⟩ := ih e2 h3 s
    refine ⟨e', ?_, h5⟩
    rw [forL, h1]
    dsimp only
    rw [h2]
    exact h4
/-- a loop whose turns come back with a state -/
theorem forL_to {σ : Type} {enc : σ → List Sl} {g : GF} {mb : MStm} : ∀ (ds : List D) (P : List D → σ → Prop), (∀ d r s, P (d :: r) s → ∃ e1 s', g d (enc s) = some e1 ∧ mb e1 = .nx (enc s') ∧ P r s') → ∀ s, P ds s → ∃ s', forL g mb ds (enc s) = .nx (enc s') ∧ P [] s' := by
  intro ds P hs
  induction ds with
  | nil => intro s h; exact ⟨s, rfl, h⟩
  | cons d r ih =>
    intro s h
    obtain ⟨e1, s1, h1, h2, h3⟩ := hs d r s h
    obtain ⟨s2, h4, h5⟩ := ih s1 h3
    refine ⟨s2, ?_, h5⟩
    rw [forL, h1]
    dsimp only
    rw [h2]
    exact h4
theorem forL_fold {σ : Type} {enc : σ → List Sl} {g : GF} {mb : MStm} {f : σ → D → σ} : ∀ (ds : List D) (P : List D → σ → Prop), (∀ d r s, P (d :: r) s → ∃ e1, g d (enc s) = some e1 ∧ mb e1 = .nx (enc (f s d)) ∧ P r (f s d)) → ∀ s, P ds s → forL g mb ds (enc s) = .nx (enc (ds.foldl f s)) := by
  intro ds P hs
  induction ds with
  | nil => intro s h; rfl
  | cons d r ih =>
    intro s h
    obtain ⟨e1, h1, h2, h3⟩ := hs d r s h
    rw [forL, h1]
    dsimp only
    rw [h2]
    exact ih _ h3
/-- a comprehension whose turns change the state -/
theorem compL_to {σ : Type} {enc : σ → List Sl} {g : GF} {te : M D} {vs : List Nat} : ∀ (ds : List D) (P : List D → List D → σ → Prop), (∀ d r done s, P (d :: r) done s → ∃ e1 y e2 s', g d (enc s) = some e1 ∧ te e1 = .ok y e2 ∧ wipeE e2 vs = enc s' ∧ P r (done ++ [y]) s') →
    ∀ done s, P ds done s → done.length + ds.length ≤ LIM → ∃ ys s', compL g (ret true) te vs ds done (enc s) = .ok ys (enc s') ∧ P [] ys s' ∧ ys.length = done.length + ds.length := by
  intro ds P hs
  induction ds with
  | nil => intro done s h _; exact ⟨done, s, by simp [compL], h, by simp⟩
  | cons d r ih =>
    intro done s h hl
    rw [List.length_cons] at hl
    obtain ⟨e1, y, e2, s1, h1, h2, h3, h4⟩ := hs d r done s h
    obtain ⟨ys, s2, h5, h6, h7⟩ := ih (done ++ [y]) s1 h4 (by rw [List.length_append, List.length_singleton]; omega)
    refine ⟨ys, s2, ?_, h6, by rw [h7, List.length_append, List.length_singleton, List.length_cons]; omega⟩
    rw [compL, h1]
    show (match te e1 with
        | .ok y e3 => if done.length < LIM then compL g (ret true) te vs r (done ++ [y]) (wipeE e3 vs) else .bad
        | _ => .bad) = _
    rw [h2]
    dsimp only
    rw [if_pos (show done.length < LIM by omega), h3]
    exact h5
end ML
end

section
set_option Elab.async false
set_option linter.all false
set_option maxRecDepth 100000
set_option maxHeartbeats 2000000
/-! # Mirrors, applied to slots -/
namespace ML
open PySem (Str)
open L2 (Key)
section
variable {α β : Type} {e : List Sl}
@[simp] theorem bind_e {m : M α} {f : α → M β} : ML.bind m f e = (match m e with
  | .ok a e' => f a e'
  | .ex c e' => .ex c e'
  | .bad => .bad) := rfl
@[simp] theorem ret_e {a : α} : ML.ret a e = .ok a e := rfl
@[simp] theorem lift_some {a : α} : ML.lift (some a) e = .ok a e := rfl
@[simp] theorem lift_none : ML.lift (none : Option α) e = .bad := rfl
@[simp] theorem bindO_some {a : α} {f : α → M β} : bindO (some a) f e = f a e := rfl
@[simp] theorem bindO_none {f : α → M β} : bindO none f e = .bad := rfl
@[simp] theorem eC_e {d : D} : eC d e = .ok d e := rfl
@[simp] theorem eV_e {i : Nat} : eV i e = (match e[i]? with
  | some (.d x) => .ok x e
  | some (.o true (.lst xs)) => .ok (.list xs) (e.set i (.d (.list xs)))
  | _ => .bad) := rfl
@[simp] theorem okR_e {i : Nat} : okR i e = (match e[i]? with
  | some .un => .bad
  | some _ => .ok () e
  | none => .bad) := rfl
@[simp] theorem qD_e {m : M D} : qD m e = ML.bind m (fun x => ML.ret (.d x)) e := rfl
@[simp] theorem qR_e {i : Nat} : qR i e = ML.bind (okR i) (fun _ => ML.ret (.ref i)) e := rfl
@[simp] theorem qF_e {m : M Ob} : qF m e = ML.bind m (fun x => ML.ret (.fr x)) e := rfl
@[simp] theorem e2_e {g : Sl → Sl → Option D} {a b : M AV} : e2 g a b e = ML.bind a (fun a => ML.bind b fun b => fun e => ML.lift (g (content e a) (content e b)) e) e := rfl
@[simp] theorem b2_e {g : Sl → Sl → Option D} {a b : M AV} : b2 g a b e = ML.bind a (fun a => ML.bind b fun b => fun e => ML.lift ((g (content e a) (content e b)).bind dB) e) e := rfl
@[simp] theorem o2_e {g : Sl → Sl → Option (List D)} {a b : M AV} : o2 g a b e = ML.bind a (fun a => ML.bind b fun b => fun e => ML.lift ((g (content e a) (content e b)).map Ob.lst) e) e := rfl
@[simp] theorem aNil_e : aNil e = .ok [] e := rfl
@[simp] theorem aD_e {m : M D} {r : M (List AV)} : aD m r e = ML.bind m (fun x => ML.bind r fun xs => ML.ret (.d x :: xs)) e := rfl
@[simp] theorem aR_e {i : Nat} {r : M (List AV)} : aR i r e = ML.bind (okR i) (fun _ => ML.bind r fun xs => ML.ret (.ref i :: xs)) e := rfl
@[simp] theorem aF_e {m : M Ob} {r : M (List AV)} : aF m r e = ML.bind m (fun x => ML.bind r fun xs => ML.ret (.fr x :: xs)) e := rfl
@[simp] theorem eO_e {m : M Ob} : eO m e = ML.bind m (fun k => ML.lift (obD k)) e := rfl
@[simp] theorem eBlt_e {g : List Sl → Option D} {m : M (List AV)} : eBlt g m e = ML.bind m (fun as => fun e => ML.lift (g (contents e as)) e) e := rfl
@[simp] theorem oBlt_e {g : List Sl → Option (List D)} {m : M (List AV)} : oBlt g m e = ML.bind m (fun as => fun e => ML.lift ((g (contents e as)).map Ob.lst) e) e := rfl
@[simp] theorem eTup_e {m : M (List AV)} : eTup m e = ML.bind m (fun as => ML.lift ((datas as).bind fun xs => if xs.length ≤ LIM then some (.tuple xs) else none)) e := rfl
@[simp] theorem oLst_e {m : M (List AV)} : oLst m e = ML.bind m (fun as => ML.lift ((datas as).bind fun xs => if xs.length ≤ LIM then some (.lst xs) else none)) e := rfl
@[simp] theorem eNot_e {m : M D} : eNot m e = ML.bind m (fun x => ML.lift ((dB x).map fun b => .bool (!b))) e := rfl
@[simp] theorem eIf_e {t : M Bool} {m n : M D} : eIf t m n e = ML.bind t (fun b => if b = true then m else n) e := rfl
@[simp] theorem oIf_e {t : M Bool} {m n : M Ob} : oIf t m n e = ML.bind t (fun b => if b = true then m else n) e := rfl
@[simp] theorem eAnd_e {m n : M D} : eAnd m n e = ML.bind m (fun x => fun e => match x with
  | .bool true => n e
  | .bool false => .ok (.bool false) e
  | _ => .bad) e := rfl
@[simp] theorem eOr_e {m n : M D} : eOr m n e = ML.bind m (fun x => fun e => match x with
  | .bool true => .ok (.bool true) e
  | .bool false => n e
  | _ => .bad) e := rfl
@[simp] theorem tB_e {m : M D} : tB_ m e = ML.bind m (fun x => ML.lift (dB x)) e := rfl
@[simp] theorem tNot_e {m : M Bool} : tNot_ m e = ML.bind m (fun b => ML.ret (!b)) e := rfl
@[simp] theorem tAnd_e {m n : M Bool} : tAnd_ m n e = ML.bind m (fun b => if b = true then n else ML.ret false) e := rfl
@[simp] theorem tOr_e {m n : M Bool} : tOr_ m n e = ML.bind m (fun b => if b = true then ML.ret true else n) e := rfl
@[simp] theorem e1_e {g : Sl → Option D} {m : M D} : e1 g m e = ML.bind m (fun x => ML.lift (g (.d x))) e := rfl
@[simp] theorem eIsi_e {T : String} {m : M D} : eIsi T m e = ML.bind m (fun x => ML.ret (.bool (isTy T x))) e := rfl
@[simp] theorem okL_e {i : Nat} : okL i e = (match e[i]? with
  | some (.o _ (.lst _)) => .ok () e
  | _ => .bad) := rfl
@[simp] theorem mutL_e {i : Nat} {f : List D → Option (D × List D)} : mutL i f e = (match e[i]? with
  | some (.o l (.lst xs)) => match f xs with
    | some (z, ys) => .ok z (e.set i (.o l (.lst ys)))
    | none => .bad
  | _ => .bad) := rfl
@[simp] theorem eMt_e {i : Nat} {f : List D → List Sl → Option (D × List D)} {m : M (List AV)} : eMt i f m e = ML.bind (okL i) (fun _ => ML.bind m fun as => fun e => mutL i (fun xs => f xs (contents e as)) e) e := rfl
@[simp] theorem iD_e {m : M D} : iD m e = ML.bind m (fun x => ML.lift (dItems x)) e := rfl
@[simp] theorem iRg_e {f : List AV → Option (List D)} {m : M (List AV)} : iRg f m e = ML.bind m (fun as => ML.lift (f as)) e := rfl
@[simp] theorem iEn_e {m : M D} : iEn m e = ML.bind m (fun x => ML.lift ((dLst x).map (enumD 0))) e := rfl
@[simp] theorem ptI_e {m : M D} : ptI m e = ML.bind m (fun x => ML.lift ((dI x).map some)) e := rfl
@[simp] theorem eSl_e {g : Sl → Option Int → Option Int → Option D} {m : M AV} {ml mh : M (Option Int)} : eSl g m ml mh e = ML.bind m (fun a => ML.bind ml fun lo => ML.bind mh fun hi => fun e => ML.lift (g (content e a) lo hi) e) e := rfl
@[simp] theorem oSl_e {g : Sl → Option Int → Option Int → Option (List D)} {m : M AV} {ml mh : M (Option Int)} : oSl g m ml mh e = ML.bind m (fun a => ML.bind ml fun lo => ML.bind mh fun hi => fun e => ML.lift ((g (content e a) lo hi).map Ob.lst) e) e := rfl
@[simp] theorem eIndex_e {mo m : M D} : eIndex mo m e = ML.bind mo (fun x => bindO (dStr x) fun a => ML.bind m fun y => bindO (dStr y) fun b => ML.lift ((PySem.Txt.index0 a b).map fun k => .int (k : Nat))) e := rfl
@[simp] theorem eJoin_e {mo : M D} {m : M AV} : eJoin mo m e = ML.bind mo (fun x => bindO (dStr x) fun a => ML.bind m fun v => fun e => ML.lift ((slL (content e v)).bind fun xs => (dStrs xs).bind fun ys => if joinOk a ys = true then some (.str (PySem.Txt.join a ys)) else none) e) e := rfl
@[simp] theorem eRevT_e {m : M D} : eRevT m e = ML.bind m (fun x => ML.lift ((dTup x).map fun xs => .tuple xs.reverse)) e := rfl
@[simp] theorem oRevL_e {m : M D} : oRevL m e = ML.bind m (fun x => ML.lift ((dTup x).map fun xs => .lst xs.reverse)) e := rfl
@[simp] theorem oDct_e {m : M (List (Key × D))} : oDct m e = ML.bind m (fun kvs => ML.lift (if nodupK kvs = true ∧ kvs.length ≤ 15 then some (.dct kvs) else none)) e := rfl
@[simp] theorem kNil_e : kNil e = .ok [] e := rfl
@[simp] theorem kCons_e {mk mv : M D} {r : M (List (Key × D))} : kCons mk mv r e = ML.bind mk (fun x => bindO (keyOf x) fun k => ML.bind mv fun y => ML.bind r fun kvs => ML.ret ((k, y) :: kvs)) e := rfl
@[simp] theorem eDGet_e {mo : M Ob} {my : M D} : eDGet mo my e = ML.bind mo (fun k => bindO (obK k) fun kvs => ML.bind my fun y => bindO (keyOf y) fun ky => ML.lift (valD kvs ky)) e := rfl
@[simp] theorem eFld_e {i : Nat} {c f : Str} : eFld i c f e = (match e[i]? with
  | some (.o _ (.ins c' fs)) => if c' = c then ML.lift (fs.lookup f) e else .bad
  | _ => .bad) := rfl
@[simp] theorem eChain_e {g g' : Sl → Sl → Option D} {ma mb mc : M AV} : eChain g g' ma mb mc e = ML.bind ma (fun a => ML.bind mb fun b => fun e => match (g (content e a) (content e b)).bind dB with
  | some true => ML.bind mc (fun c => fun e => ML.lift (g' (content e b) (content e c)) e) e
  | some false => .ok (.bool false) e
  | none => .bad) e := rfl
@[simp] theorem xS_e {m : M α} {f : α → MStm} : xS m f e = (match m e with
  | .ok a e' => f a e'
  | .ex c e' => .ex c e'
  | .bad => .bad) := rfl
@[simp] theorem sNil_e : sNil e = .nx e := rfl
@[simp] theorem sBk_e : sBk e = .bk e := rfl
@[simp] theorem sCt_e : sCt e = .ct e := rfl
@[simp] theorem sSeq_e {m n : MStm} : sSeq m n e = (match m e with
  | .nx e' => n e'
  | r => r) := rfl
@[simp] theorem sSet_e {i : Nat} {m : M D} : sSet i m e = xS m (fun x e => .nx (e.set i (.d x))) e := rfl
@[simp] theorem sSetO_e {i : Nat} {m : M Ob} : sSetO i m e = xS m (fun k e => .nx (e.set i (.o true k))) e := rfl
@[simp] theorem sDrop_e {m : M D} : sDrop m e = xS m (fun _ e => .nx e) e := rfl
@[simp] theorem sIf_e {t : M Bool} {m n : MStm} : sIf t m n e = xS t (fun b => if b = true then m else n) e := rfl
@[simp] theorem sRet_e {m : M D} : sRet m e = xS m (fun x e => .rt (.d x) e) e := rfl
@[simp] theorem sRetO_e {m : M Ob} : sRetO m e = xS m (fun k e => .rt (.o k) e) e := rfl
@[simp] theorem sRetV_e {i : Nat} : sRetV i e = (match e[i]? with
  | some (.d x) => .rt (.d x) e
  | some (.o true k) => .rt (.o k) (e.set i .un)
  | _ => .bad) := rfl
@[simp] theorem sRaise_e {c : Str} : sRaise c e = .ex c e := rfl
@[simp] theorem sAsg_e {g : GF} {m : M D} : sAsg g m e = xS m (fun x => fun e => match g x e with
  | some e' => .nx e'
  | none => .bad) e := rfl
@[simp] theorem sAug_e {i : Nat} {g : Sl → Sl → Option D} {m : M D} : sAug i g m e = (match e[i]? with
  | some (.d x) => xS m (fun y e2 => match g (.d x) (.d y) with
    | some z => .nx (e2.set i (.d z))
    | none => .bad) e
  | _ => .bad) := rfl
@[simp] theorem setF_e {i : Nat} {c f : Str} {v : D} : setF i c f v e = (match e[i]? with
  | some (.o l (.ins c' fs)) => if c' = c ∧ fs.length < 1000 then .nx (e.set i (.o l (.ins c (putFD f v fs)))) else .bad
  | _ => .bad) := rfl
@[simp] theorem sFld_e {i : Nat} {c f : Str} {m : M D} : sFld_ i c f m e = xS m (fun v => setF i c f v) e := rfl
@[simp] theorem sAugF_e {i : Nat} {c f : Str} {g : Sl → Sl → Option D} {m : M D} : sAugF i c f g m e = xS (eFld i c f) (fun x => xS m fun y => fun e => match g (.d x) (.d y) with
  | some z => setF i c f z e
  | none => .bad) e := rfl
@[simp] theorem sFor_e {mi : M (List D)} {g : GF} {mb : MStm} : sFor mi g mb e = xS mi (fun ds => forL g mb ds) e := rfl
@[simp] theorem sPar_e {i j : Nat} {m : M (List AV)} : sPar i j m e = xS m (fun as => fun e => match as with
  | [a, b] => match avSl a, avSl b with
    | some s, some t => .nx ((e.set i s).set j t)
    | _, _ => .bad
  | _ => .bad) e := rfl
@[simp] theorem gGe_e {i j : Int} : gGe (.d (.int i)) (.d (.int j)) = some (.bool (decide (j ≤ i))) := rfl
@[simp] theorem gGt_e {i j : Int} : gGt (.d (.int i)) (.d (.int j)) = some (.bool (decide (j < i))) := rfl
@[simp] theorem gLe_e {i j : Int} : gLe (.d (.int i)) (.d (.int j)) = some (.bool (decide (i ≤ j))) := rfl
@[simp] theorem gLt_e {i j : Int} : gLt (.d (.int i)) (.d (.int j)) = some (.bool (decide (i < j))) := rfl
@[simp] theorem gSub_e {i j : Int} : gSub (.d (.int i)) (.d (.int j)) = some (.int (i - j)) := rfl
@[simp] theorem gMod_e {i j : Int} : gMod (.d (.int i)) (.d (.int j)) = if 0 < j then some (.int (i % j)) else none := by
  show (if 0 < j then some (i % j) else none : Option Int).map PySem.PyData.int = _
  split <;> rfl
@[simp] theorem gDiv_e {i j : Int} : gDiv (.d (.int i)) (.d (.int j)) = if 0 < j ∧ j.natAbs < 1073741824 then some (.int (i / j)) else none := by
  show (if 0 < j ∧ j.natAbs < 1073741824 then some (i / j) else none : Option Int).map PySem.PyData.int = _
  split <;> rfl
@[simp] theorem gN_e {i : Nat} {d : D} : gN i d e = some (e.set i (.d d)) := rfl
@[simp] theorem gMul_e {i j : Int} : gMul (.d (.int i)) (.d (.int j)) = if small i = true ∨ small j = true then some (.int (i * j)) else none := by
  show (if small i = true ∨ small j = true then some (i * j) else none : Option Int).map PySem.PyData.int = _
  split <;> rfl
@[simp] theorem gPow_e {i j : Int} : gPow (.d (.int i)) (.d (.int j)) = if 0 ≤ j ∧ j ≤ 1000000 ∧ i.natAbs < 2 ^ 64 then some (.int (i ^ j.toNat)) else none := by
  show (if 0 ≤ j ∧ j ≤ 1000000 ∧ i.natAbs < 2 ^ 64 then some (i ^ j.toNat) else none : Option Int).map PySem.PyData.int = _
  split <;> rfl
@[simp] theorem callM_e {F : List Sl → CR} {m : M (List AV)} : callM F m e = (match m e with
  | .ok as e' => (match ios e' as 0 with
    | some w => (match F ((contents e' as).map argOf) with
      | .ok r outs => (match backs e' w outs with
        | some e2 => .ok r e2
        | none => .bad)
      | .ex c outs => (match backs e' w outs with
        | some e2 => .ex c e2
        | none => .bad)
      | .bad => .bad)
    | none => .bad)
  | .ex c e' => .ex c e'
  | .bad => .bad) := by
  unfold callM ML.bind
  cases m e with
  | ok as e' => first
    | rfl
    | (dsimp only; done)
    | (dsimp only; cases ios e' as 0 <;> first | rfl | (dsimp only; done) | (cases F ((contents e' as).map argOf) <;> rfl))
  | ex c e' => rfl
  | bad => rfl
def ioS : Sl → Sl → Bool
  | .o _ _, .o false _ => true
  | .o _ _, _ => false
  | _, _ => true
@[simp] theorem ioOk_nil {e : List Sl} : ioOk [] e = true := rfl
@[simp] theorem ioOk_cons {a s : Sl} {as e : List Sl} : ioOk (a :: as) (s :: e) = (ioS a s && ioOk as e) := by
  unfold ioOk
  rw [List.length_cons, List.range_succ_eq_map, List.all_cons, List.all_map]
  have h2 : ∀ x y z : Bool, x = y → (x && z) = (y && z) := fun x y z h => by rw [h]
  refine h2 _ _ _ ?_
  cases a with
  | o l k => cases s with
    | o l2 k2 => cases l2 <;> rfl
    | _ => rfl
  | _ => rfl
@[simp] theorem ioS_un {s : Sl} : ioS .un s = true := rfl
@[simp] theorem ioS_d {d : D} {s : Sl} : ioS (.d d) s = true := rfl
@[simp] theorem ioS_sc {d : List Int} {s : Sl} : ioS (.sc d) s = true := rfl
@[simp] theorem ioS_o {l : Bool} {k k' : Ob} : ioS (.o l k) (.o false k') = true := rfl
@[simp] theorem eRv_e {m : M RV} : eRv m e = ML.bind m (fun r => ML.lift (rvD r)) e := rfl
@[simp] theorem oRv_e {m : M RV} : oRv m e = ML.bind m (fun r => ML.lift (rvO r)) e := rfl
@[simp] theorem eDIn_e {neg : Bool} {my : M D} {md : M AV} : eDIn neg my md e = ML.bind my (fun y => bindO (keyOf y) fun k => ML.bind md fun d => fun e => ML.lift ((dctOf (content e d)).map fun kvs => .bool (neg ^^ (valD kvs k).isSome)) e) e := rfl
@[simp] theorem eDGetQ_e {my : M D} {md : M AV} : eDGetQ md my e = ML.bind md (fun d => ML.bind my fun y => bindO (keyOf y) fun k => fun e => ML.lift ((dctOf (content e d)).bind fun kvs => valD kvs k) e) e := rfl
@[simp] theorem oDictT_e {m : M D} : oDictT m e = ML.bind m (fun x => ML.lift (dictOf x)) e := rfl
@[simp] theorem oRevQ_e {m : M AV} : oRevQ m e = ML.bind m (fun x => fun e => ML.lift ((seqL (content e x)).map fun xs => Ob.lst xs.reverse) e) e := rfl
@[simp] theorem eIsi2_e {T U : String} {m : M D} : eIsi2 T U m e = ML.bind m (fun x => ML.ret (.bool (isTy T x || isTy U x))) e := rfl
@[simp] theorem iZip_e {m : M (List AV)} : iZip m e = ML.bind m (fun as => ML.lift (zipOf as)) e := rfl
@[simp] theorem sFg_e {vs : List Nat} {m : MStm} : sFg vs m e = fgS vs (m e) := rfl
@[simp] theorem sSetIx_e {i : Nat} {me mi : M D} : sSetIx i me mi e = xS me (fun v => xS (okL i) fun _ => xS mi fun ix => fun e => match ix, e[i]? with
  | .int j, some (.o l (.lst xs)) => match L2.ixN xs.length j with
    | some n => .nx (e.set i (.o l (.lst (xs.set n v))))
    | none => .bad
  | _, _ => .bad) e := rfl
@[simp] theorem eSaid_e {rT : D → D} {rW : Str → D} {pk : Str → Option Str} {m : M D} : eSaid rT rW pk m e = (match m e with
  | .ok x e' => .ok (rT x) e'
  | .ex c e' => match pk c with
    | some w => .ok (rW w) e'
    | none => .bad
  | .bad => .bad) := rfl
@[simp] theorem sWhile_e {n : Nat} {t : M Bool} {mb : MStm} : sWhile n t mb e = whileL t mb n e := rfl
@[simp] theorem sIf_true {t : M Bool} {m n : MStm} {e' : List Sl} (h : t e = .ok true e') : sIf t m n e = m e' := by simp [h]
end
end ML
end

section
set_option Elab.async false
set_option linter.all false
set_option maxRecDepth 100000
set_option maxHeartbeats 2000000
namespace K03
open PySem L2 ML
abbrev c_LETTERS : D := .str "abcdefghijklmnopqrstuvwxyz"
abbrev c_MOST_LETTERS : D := .int 8
abbrev c_MOST_LABELS : D := .int 10
abbrev c_MOST_RANK : D := .int 2
def pk__law_said : Str → Option Str := fun c => if c = "NoSignature" then some "signature" else if c = "NoTree" then some "tree" else none
def m_is_integer : MStm := sRet (eAnd (eIsi "int" (eV 0)) (eNot (eIsi "bool" (eV 0))))
def F_is_integer : List Sl → CR := runBody 1 1 m_is_integer

def m_is_within : MStm := sRet (eAnd (eRv (callM F_is_integer (aD (eV 0) (aNil)))) (eChain gLe gLe (qR 1) (qR 0) (qR 2)))
def F_is_within : List Sl → CR := runBody 3 3 m_is_within

def m_is_name_c1 : M D := e2 (gIn false) (qR 1) (qD (eC c_LETTERS))
def o_is_name_1 : M Ob := oComp (iD (eV 0)) (gN 1) (ret true) m_is_name_c1 [1]
def m_is_name_i2 : MStm := sIf (tOr_ (tNot_ (tB_ (eIsi "str" (eV 0)))) (tNot_ (tB_ (eChain gLe gLe (qD (eC (.int 1))) (qD (eBlt bLen (aR 0 (aNil)))) (qD (eC c_MOST_LETTERS)))))) (sRet (eC (.bool false))) (sNil)
def m_is_name : MStm := sSeq (m_is_name_i2) (sRet (eBlt bAll (aF (o_is_name_1) (aNil))))
def F_is_name : List Sl → CR := runBody 1 2 m_is_name

def m_is_sized : MStm := sRet (eAnd (eIsi "tuple" (eV 0)) (eChain gLe gLe (qR 1) (qD (eBlt bLen (aR 0 (aNil)))) (qR 2)))
def F_is_sized : List Sl → CR := runBody 3 3 m_is_sized

def m_are_rising_c1 : M D := e2 (gLtD fun d e => PySem.W.dataLt d e) (qD (e2 gIx (qR 0) (qR 1))) (qD (e2 gIx (qR 0) (qD (e2 gAdd (qR 1) (qD (eC (.int 1)))))))
def o_are_rising_1 : M Ob := oComp (iRg rng1 (aD (e2 gSub (qD (eBlt bLen (aR 0 (aNil)))) (qD (eC (.int 1)))) (aNil))) (gN 1) (ret true) m_are_rising_c1 [1]
def m_are_rising : MStm := sRet (eBlt bAll (aF (o_are_rising_1) (aNil)))
def F_are_rising : List Sl → CR := runBody 1 2 m_are_rising

def m_is_signature_c1 : M D := e2 gIx (qR 1) (qD (eC (.int 0)))
def o_is_signature_1 : M Ob := oComp (iD (eV 0)) (gN 1) (ret true) m_is_signature_c1 [1]
def m_is_signature_c2 : M D := eAnd (eRv (callM F_is_name (aD (e2 gIx (qR 1) (qD (eC (.int 0)))) (aNil)))) (eRv (callM F_is_within (aD (e2 gIx (qR 1) (qD (eC (.int 1)))) (aD (eC (.int 0)) (aD (eC c_MOST_RANK) (aNil))))))
def o_is_signature_2 : M Ob := oComp (iD (eV 0)) (gN 1) (ret true) m_is_signature_c2 [1]
def m_is_signature_i3 : MStm := sIf (tNot_ (tB_ (eBlt bAll (aF (o_is_signature_2) (aNil))))) (sRet (eC (.bool false))) (sNil)
def m_is_signature_c4 : M D := eRv (callM F_is_sized (aD (eV 1) (aD (eC (.int 2)) (aD (eC (.int 2)) (aNil)))))
def o_is_signature_4 : M Ob := oComp (iD (eV 0)) (gN 1) (ret true) m_is_signature_c4 [1]
def m_is_signature_i5 : MStm := sIf (tOr_ (tNot_ (tB_ (eRv (callM F_is_sized (aD (eV 0) (aD (eC (.int 1)) (aD (eC c_MOST_LABELS) (aNil)))))))) (tNot_ (tB_ (eBlt bAll (aF (o_is_signature_4) (aNil)))))) (sRet (eC (.bool false))) (sNil)
def m_is_signature : MStm := sSeq (m_is_signature_i5) (sSeq (m_is_signature_i3) (sRet (eRv (callM F_are_rising (aD (eO (o_is_signature_1)) (aNil))))))
def F_is_signature : List Sl → CR := runBody 1 2 m_is_signature

def m_check_signature_i1 : MStm := sIf (tNot_ (tB_ (eRv (callM F_is_signature (aD (eV 0) (aNil)))))) (sRaise "NoSignature") (sNil)
def m_check_signature : MStm := m_check_signature_i1
def F_check_signature : List Sl → CR := runBody 1 1 m_check_signature

def m_raw_is_tree_i1 : MStm := sIf (tNot_ (tB_ (eRv (callM F_is_sized (aD (e2 gIx (qR 4) (qD (eC (.int 1)))) (aD (eDGetQ (qR 2) (e2 gIx (qR 4) (qD (eC (.int 0))))) (aD (eDGetQ (qR 2) (e2 gIx (qR 4) (qD (eC (.int 0))))) (aNil)))))))) (sRet (eC (.bool false))) (sNil)
def m_raw_is_tree_i2 : MStm := sIf (tOr_ (tNot_ (tB_ (eRv (callM F_is_sized (aD (eV 4) (aD (eC (.int 2)) (aD (eC (.int 2)) (aNil)))))))) (tOr_ (tNot_ (tB_ (eIsi "str" (e2 gIx (qR 4) (qD (eC (.int 0))))))) (tB_ (eDIn true (e2 gIx (qR 4) (qD (eC (.int 0)))) (qR 2))))) (sRet (eC (.bool false))) (sNil)
def m_raw_is_tree_b3 : MStm := sFg [4] (sSeq (sSet 4 (eMt 3 fPop aNil)) (sSeq (m_raw_is_tree_i2) (sSeq (m_raw_is_tree_i1) (sDrop (eMt 3 fExtA (aF (oBlt bListA (aD (e2 gIx (qR 4) (qD (eC (.int 1)))) (aNil))) (aNil)))))))
def m_raw_is_tree_w4 : MStm := sWhile 20000 (b2 gGt (qD (eBlt bLen (aR 3 (aNil)))) (qD (eC (.int 0)))) m_raw_is_tree_b3
def m_raw_is_tree : MStm := sSeq (sPar 2 3 (aF (oDictT (eV 0)) (aF (oLst (aD (eV 1) (aNil))) (aNil)))) (sSeq (m_raw_is_tree_w4) (sRet (eC (.bool true))))
def F_raw_is_tree : List Sl → CR := runBody 2 5 m_raw_is_tree

def m_check_tree_i1 : MStm := sIf (tNot_ (tB_ (eRv (callM F_raw_is_tree (aD (eV 0) (aD (eV 1) (aNil))))))) (sRaise "NoTree") (sNil)
def m_check_tree : MStm := m_check_tree_i1
def F_check_tree : List Sl → CR := runBody 2 2 m_check_tree

def m_check_both : MStm := sSeq (sDrop (eRv (callM F_check_signature (aD (eV 0) (aNil))))) (sDrop (eRv (callM F_check_tree (aD (eV 0) (aD (eV 1) (aNil))))))
def F_check_both : List Sl → CR := runBody 2 2 m_check_both

def m_raw_nodes_many_b1 : MStm := sFg [] (sSeq (sAug 1 gIAdd (eC (.int 1))) (sDrop (eMt 2 fExtA (aD (e2 gIx (qD (eMt 2 fPop aNil)) (qD (eC (.int 1)))) (aNil)))))
def m_raw_nodes_many_w2 : MStm := sWhile 20000 (b2 gGt (qD (eBlt bLen (aR 2 (aNil)))) (qD (eC (.int 0)))) m_raw_nodes_many_b1
def m_raw_nodes_many : MStm := sSeq (sPar 1 2 (aD (eC (.int 0)) (aF (oLst (aD (eV 0) (aNil))) (aNil)))) (sSeq (m_raw_nodes_many_w2) (sRetV 1))
def F_raw_nodes_many : List Sl → CR := runBody 1 3 m_raw_nodes_many

def m_order_key : MStm := sRet (eTup (aD (eRv (callM F_raw_nodes_many (aD (eV 0) (aNil)))) (aD (eV 0) (aNil))))
def F_order_key : List Sl → CR := runBody 1 1 m_order_key

def m_is_ahead : MStm := sSeq (sDrop (eRv (callM F_check_both (aD (eV 0) (aD (eV 1) (aNil)))))) (sSeq (sDrop (eRv (callM F_check_tree (aD (eV 0) (aD (eV 2) (aNil)))))) (sRet (e2 (gLtD fun d e => PySem.W.dataLt d e) (qD (eRv (callM F_order_key (aD (eV 1) (aNil))))) (qD (eRv (callM F_order_key (aD (eV 2) (aNil))))))))
def F_is_ahead : List Sl → CR := runBody 3 3 m_is_ahead

def m_least_of_c1 : M D := eRv (callM F_order_key (aD (eV 2) (aNil)))
def o_least_of_1 : M Ob := oComp (iD (eV 1)) (gN 2) (ret true) m_least_of_c1 [2]
def m_least_of_b2 : MStm := sFg [2] (sDrop (eRv (callM F_check_tree (aD (eV 0) (aD (eV 2) (aNil))))))
def m_least_of_w3 : MStm := sFor (iD (eV 1)) (gN 2) m_least_of_b2
def m_least_of_i4 : MStm := sIf (tOr_ (tNot_ (tB_ (eIsi "tuple" (eV 1)))) (b2 (gEq false) (qD (eBlt bLen (aR 1 (aNil)))) (qD (eC (.int 0))))) (sRaise "NoTree") (sNil)
def m_least_of : MStm := sSeq (sDrop (eRv (callM F_check_signature (aD (eV 0) (aNil))))) (sSeq (m_least_of_i4) (sSeq (m_least_of_w3) (sRet (e2 gIx (qD (eBlt bMinD (aF (o_least_of_1) (aNil)))) (qD (eC (.int 1)))))))
def F_least_of : List Sl → CR := runBody 2 3 m_least_of

def m__law_hand_c1 : M D := e2 gMod (qD (eBlt bAbs (aD (eBlt bInt (aR 2 (aNil))) (aNil)))) (qD (e2 gPow (qD (eC (.int 10))) (qD (eC (.int 60)))))
def o__law_hand_1 : M Ob := oComp (iD (eO (oSl gSlX (qR 0) (ret none) (ptI (eC (.int 63)))))) (gN 2) (ret true) m__law_hand_c1 [2]
def m__law_hand : MStm := sSeq (sSetO 1 (o__law_hand_1)) (sRetO (oLst (aD (eV 1) (aD (eC (.int 0)) (aD (eC (.int 0)) (aD (e2 gAdd (qD (eC (.int 71009))) (qD (e2 gMul (qD (eC (.int 17))) (qD (eBlt bLen (aR 1 (aNil))))))) (aD (eC (.int 0)) (aNil))))))))
def F__law_hand : List Sl → CR := runBody 1 3 m__law_hand

def m__law_draw_i1 : MStm := sIf (b2 gGt (qD (e2 gIx (qR 0) (qD (eC (.int 2))))) (qD (eC (.int 0)))) (sSeq (sSet 3 (e2 gMod (qD (eBlt bInt (aD (e2 gIx (qR 0) (qD (eC (.int 2)))) (aNil)))) (qR 1))) (sSeq (sSetIx 0 (e2 gDiv (qD (e2 gIx (qR 0) (qD (eC (.int 2))))) (qR 1)) (eC (.int 2))) (sRetV 3))) (sNil)
def m__law_draw_i2 : MStm := sIf (b2 gGe (qR 2) (qD (e2 gPow (qD (eC (.int 10))) (qD (eC (.int 18)))))) (sSetIx 0 (eV 2) (eC (.int 2))) (sNil)
def m__law_draw_i3 : MStm := sIf (tAnd_ (b2 (gEq false) (qD (e2 gIx (qR 0) (qD (eC (.int 2))))) (qD (eC (.int 0)))) (b2 gLt (qD (e2 gIx (qR 0) (qD (eC (.int 1))))) (qD (eBlt bLen (aD (e2 gIx (qR 0) (qD (eC (.int 0)))) (aNil)))))) (sSeq (sSet 2 (e2 gIx (qD (e2 gIx (qR 0) (qD (eC (.int 0))))) (qD (e2 gIx (qR 0) (qD (eC (.int 1))))))) (sSeq (sSetIx 0 (e2 gAdd (qD (e2 gIx (qR 0) (qD (eC (.int 1))))) (qD (eC (.int 1)))) (eC (.int 1))) (sSeq (sSetIx 0 (e2 gMod (qD (eBlt bInt (aD (e2 gAdd (qD (e2 gAdd (qD (e2 gMul (qD (e2 gIx (qR 0) (qD (eC (.int 3))))) (qD (eC (.int 69621))))) (qD (e2 gMul (qR 2) (qD (eC (.int 48271))))))) (qD (eC (.int 41)))) (aNil)))) (qD (eC (.int 2147483629)))) (eC (.int 3))) (m__law_draw_i2)))) (sNil)
def m__law_draw : MStm := sSeq (m__law_draw_i3) (sSeq (m__law_draw_i1) (sSeq (sSetIx 0 (e2 gAdd (qD (e2 gIx (qR 0) (qD (eC (.int 4))))) (qD (eC (.int 1)))) (eC (.int 4))) (sSeq (sSet 4 (e2 gMod (qD (eBlt bInt (aD (e2 gMul (qD (eBlt bInt (aD (e2 gAdd (qD (e2 gIx (qR 0) (qD (eC (.int 3))))) (qD (e2 gMul (qD (eC (.int 7919))) (qD (e2 gIx (qR 0) (qD (eC (.int 4)))))))) (aNil)))) (qD (eC (.int 40692)))) (aNil)))) (qD (eC (.int 2147483647))))) (sSeq (sSet 4 (e2 gMod (qD (eBlt bInt (aD (e2 gMul (qR 4) (qD (e2 gAdd (qD (e2 gDiv (qR 4) (qD (eC (.int 1009))))) (qD (eC (.int 69621)))))) (aNil)))) (qD (eC (.int 2147483647))))) (sSeq (sSet 4 (e2 gMod (qD (eBlt bInt (aD (e2 gMul (qR 4) (qD (e2 gAdd (qD (e2 gDiv (qR 4) (qD (eC (.int 2003))))) (qD (eC (.int 40014)))))) (aNil)))) (qD (eC (.int 2147483563))))) (sRet (e2 gMod (qD (eBlt bInt (aD (e2 gDiv (qR 4) (qD (eC (.int 16)))) (aNil)))) (qR 1))))))))
def F__law_draw : List Sl → CR := runBody 2 5 m__law_draw

def m__law_some : MStm := sRet (e2 gIx (qR 1) (qD (eRv (callM F__law_draw (aR 0 (aD (eBlt bLen (aR 1 (aNil))) (aNil)))))))
def F__law_some : List Sl → CR := runBody 2 2 m__law_some

def m__law_is_i1 (rec : List Sl → CR) : MStm := sIf (tB_ (eIsi "str" (eV 1))) (sRet (eAnd (eIsi "str" (eV 0)) (e2 (gEq false) (qD (eBlt bRepr (aR 0 (aNil)))) (qD (eBlt bRepr (aR 1 (aNil))))))) (sNil)
def m__law_is_i2 (rec : List Sl → CR) : MStm := sIf (tOr_ (b2 (gIsN false) (qR 1) (qD (eC .none))) (tB_ (eIsi "bool" (eV 1)))) (sRet (eIf (b2 (gIsN false) (qR 1) (qD (eC .none))) (e2 (gIsN false) (qR 0) (qD (eC .none))) (eAnd (eIsi "bool" (eV 0)) (e2 (gEq false) (qD (eBlt bRepr (aR 0 (aNil)))) (qD (eBlt bRepr (aR 1 (aNil)))))))) (sNil)
def m__law_is_c3 (rec : List Sl → CR) : M D := eRv (callM rec (aD (eV 2) (aD (eV 3) (aNil))))
def o__law_is_3 (rec : List Sl → CR) : M Ob := oComp (iZip (aD (eV 0) (aD (eV 1) (aNil)))) (gT (gCons (gN 2) (gCons (gN 3) (gNil)))) (ret true) (m__law_is_c3 rec) [2, 3]
def m__law_is_i4 (rec : List Sl → CR) : MStm := sIf (b2 (gEq true) (qD (eBlt bLen (aR 0 (aNil)))) (qD (eBlt bLen (aR 1 (aNil))))) (sRet (eC (.bool false))) (sNil)
def m__law_is_i5 (rec : List Sl → CR) : MStm := sIf (tOr_ (b2 (gEq true) (qD (eIsi "tuple" (eV 0))) (qD (eIsi "tuple" (eV 1)))) (tNot_ (tB_ (eIsi2 "tuple" "list" (eV 0))))) (sRet (eC (.bool false))) (sNil)
def m__law_is_i6 (rec : List Sl → CR) : MStm := sIf (tB_ (eIsi2 "tuple" "list" (eV 1))) (sSeq ((m__law_is_i5 rec)) (sSeq ((m__law_is_i4 rec)) (sRet (eBlt bAll (aF ((o__law_is_3 rec)) (aNil)))))) (sNil)
def m__law_is (rec : List Sl → CR) : MStm := sSeq ((m__law_is_i6 rec)) (sSeq ((m__law_is_i2 rec)) (sSeq ((m__law_is_i1 rec)) (sRet (eAnd (eIsi "int" (eV 0)) (eAnd (eNot (eIsi "bool" (eV 0))) (e2 (gEq false) (qD (eBlt bRepr (aR 0 (aNil)))) (qD (eBlt bRepr (aR 1 (aNil))))))))))
def Fr__law_is : Nat → List Sl → CR
  | 0 => fun _ => .bad
  | n + 1 => runBody 2 4 (m__law_is (Fr__law_is n))
def F__law_is : List Sl → CR := Fr__law_is 60

def m__law_signature_c1 : M D := eRv (callM F__law_some (aR 0 (aD (eO (oBlt bListA (aD (eC (.str "abqz")) (aNil)))) (aNil))))
def o__law_signature_1 : M Ob := oComp (iRg rng1 (aD (eRv (callM F__law_draw (aR 0 (aD (eC (.int 4)) (aNil))))) (aNil))) (gN 9) (ret true) m__law_signature_c1 [9]
def m__law_signature_b2 : MStm := sFg [2, 3, 4, 6, 7, 8, 9] (sSeq (sSet 8 (e2 gAdd (qD (e2 gIx (qD (eC (.str "adgkpx"))) (qR 6))) (qD (eJoin (eC (.str "")) (qF (o__law_signature_1)))))) (sDrop (eMt 5 fApp (aD (eTup (aD (eV 8) (aD (eV 7) (aNil)))) (aNil)))))
def m__law_signature_w3 : MStm := sFor (iEn (eO (o2 gCat (qF (oSl gSlX (qR 3) (ptI (eV 4)) (ret none))) (qF (oSl gSlX (qR 3) (ret none) (ptI (eV 4))))))) (gT (gCons (gN 6) (gCons (gN 7) (gNil)))) m__law_signature_b2
def m__law_signature_c4 : M D := eRv (callM F__law_some (aR 0 (aD (eO (oLst (aD (eC (.int 0)) (aD (eC (.int 0)) (aD (eC (.int 1)) (aD (eC (.int 1)) (aD (eC (.int 2)) (aNil)))))))) (aNil))))
def o__law_signature_4 : M Ob := oComp (iRg rng1 (aD (e2 gSub (qR 2) (qD (eC (.int 1)))) (aNil))) (gN 9) (ret true) m__law_signature_c4 [9]
def m__law_signature : MStm := sSeq (sSet 2 (e2 gAdd (qD (eC (.int 3))) (qD (eRv (callM F__law_draw (aR 0 (aD (e2 gSub (qR 1) (qD (eC (.int 2)))) (aNil)))))))) (sSeq (sPar 3 4 (aF (o2 gCat (qF (oLst (aD (eC (.int 0)) (aNil)))) (qF (o__law_signature_4))) (aD (eRv (callM F__law_draw (aR 0 (aD (eV 2) (aNil))))) (aNil)))) (sSeq (sSetO 5 (oLst (aNil))) (sSeq (m__law_signature_w3) (sRet (eBlt bTupOf (aR 5 (aNil)))))))
def F__law_signature : List Sl → CR := runBody 2 10 m__law_signature

def m__law_tree_c1 : M D := e2 gIx (qR 3) (qR 12)
def o__law_tree_1 : M Ob := oComp (iD (eV 8)) (gN 12) (ret true) m__law_tree_c1 [12]
def m__law_tree_i2 : MStm := sIf (tAnd_ (b2 gGt (qR 7) (qD (eC (.int 0)))) (b2 gLe (qR 9) (qR 2))) (sSeq (sDrop (eMt 3 fApp (aD (eTup (aD (eV 6) (aD (eBlt bTupOf (aF (o__law_tree_1) (aNil))) (aNil)))) (aNil)))) (sDrop (eMt 4 fApp (aD (eV 9) (aNil))))) (sNil)
def m__law_tree_c3 : M D := e2 gIx (qR 4) (qR 12)
def o__law_tree_3 : M Ob := oComp (iD (eV 8)) (gN 12) (ret true) m__law_tree_c3 [12]
def m__law_tree_c4 : M D := eRv (callM F__law_draw (aR 0 (aD (eBlt bLen (aR 3 (aNil))) (aNil))))
def o__law_tree_4 : M Ob := oComp (iRg rng1 (aD (eV 7) (aNil))) (gN 11) (ret true) m__law_tree_c4 [11]
def m__law_tree_b5 : MStm := sFg [5, 6, 7, 8, 9, 10, 11, 12] (sSeq (sAsg (gT (gCons (gN 6) (gCons (gN 7) (gNil)))) (eRv (callM F__law_some (aR 0 (aD (eV 1) (aNil)))))) (sSeq (sSetO 8 (o__law_tree_4)) (sSeq (sSet 9 (e2 gAdd (qD (eC (.int 1))) (qD (eBlt bSum (aF (o__law_tree_3) (aNil)))))) (m__law_tree_i2))))
def m__law_tree_w6 : MStm := sFor (iRg rng1 (aD (eC (.int 7)) (aNil))) (gN 5) m__law_tree_b5
def m__law_tree_c7 : M D := eC (.int 1)
def o__law_tree_7 : M Ob := oCompO 3 (gN 10) (ret true) m__law_tree_c7 [10]
def m__law_tree_c8 : M D := eTup (aD (eV 6) (aD (eTup (aNil)) (aNil)))
def o__law_tree_8 : M Ob := oComp (iD (eV 1)) (gT (gCons (gN 6) (gCons (gN 7) (gNil)))) (b2 (gEq false) (qR 7) (qD (eC (.int 0)))) m__law_tree_c8 [6, 7]
def m__law_tree : MStm := sSeq (sSetO 3 (o__law_tree_8)) (sSeq (sSetO 4 (o__law_tree_7)) (sSeq (m__law_tree_w6) (sRet (e2 gIx (qR 3) (qD (e1 gNeg (eC (.int 1))))))))
def F__law_tree : List Sl → CR := runBody 3 13 m__law_tree

def m__law_nodes_c1 (rec : List Sl → CR) : M D := eRv (callM rec (aD (eV 1) (aNil)))
def o__law_nodes_1 (rec : List Sl → CR) : M Ob := oComp (iD (e2 gIx (qR 0) (qD (eC (.int 1))))) (gN 1) (ret true) (m__law_nodes_c1 rec) [1]
def m__law_nodes (rec : List Sl → CR) : MStm := sRet (e2 gAdd (qD (eC (.int 1))) (qD (eBlt bSum (aF ((o__law_nodes_1 rec)) (aNil)))))
def Fr__law_nodes : Nat → List Sl → CR
  | 0 => fun _ => .bad
  | n + 1 => runBody 1 2 (m__law_nodes (Fr__law_nodes n))
def F__law_nodes : List Sl → CR := Fr__law_nodes 40

def m__law_trees_b1 : MStm := sFg [2, 3, 5, 6, 7, 8, 9, 10] (sSetO 4 (o2 gCat (qR 4) (qR 9)))
def m__law_trees_w2 : MStm := sFor (iD (eV 2)) (gN 9) m__law_trees_b1
def m__law_trees_c3 : M D := eTup (aD (eV 5) (aD (eTup (aD (eV 8) (aD (eV 10) (aNil)))) (aNil)))
def o__law_trees_3 : M Ob := oComp (iD (e2 gIx (qR 2) (qD (e2 gSub (qD (e2 gSub (qR 3) (qD (eC (.int 1))))) (qR 7))))) (gN 10) (ret true) m__law_trees_c3 [10]
def m__law_trees_b4 : MStm := sFg [8, 9, 10] (sSetO 4 (o2 gCat (qR 4) (qF (o__law_trees_3))))
def m__law_trees_w5 : MStm := sFor (iD (eIf (b2 (gEq false) (qR 6) (qD (eC (.int 2)))) (e2 gIx (qR 2) (qR 7)) (eO (oLst (aNil))))) (gN 8) m__law_trees_b4
def m__law_trees_b6 : MStm := sFg [7, 8, 9, 10] (m__law_trees_w5)
def m__law_trees_w7 : MStm := sFor (iRg rng2 (aD (eC (.int 1)) (aD (e2 gSub (qR 3) (qD (eC (.int 1)))) (aNil)))) (gN 7) m__law_trees_b6
def m__law_trees_c8 : M D := eTup (aD (eV 5) (aD (eTup (aD (eV 8) (aNil))) (aNil)))
def o__law_trees_8 : M Ob := oComp (iD (e2 gIx (qR 2) (qD (e2 gSub (qR 3) (qD (eC (.int 1))))))) (gN 8) (ret true) m__law_trees_c8 [8]
def m__law_trees_i9 : MStm := sIf (b2 (gEq false) (qR 6) (qD (eC (.int 1)))) (sSetO 4 (o2 gCat (qR 4) (qF (o__law_trees_8)))) (sNil)
def m__law_trees_b10 : MStm := sFg [5, 6, 7, 8, 9, 10] (sSeq (m__law_trees_i9) (m__law_trees_w7))
def m__law_trees_w11 : MStm := sFor (iD (eV 0)) (gT (gCons (gN 5) (gCons (gN 6) (gNil)))) m__law_trees_b10
def m__law_trees_b12 : MStm := sFg [3, 4, 5, 6, 7, 8, 9, 10] (sSeq (sSetO 4 (oLst (aNil))) (sSeq (m__law_trees_w11) (sDrop (eMt 2 fApp (aD (eO (oBlt bSortD (aR 4 (aNil)))) (aNil))))))
def m__law_trees_w13 : MStm := sFor (iRg rng2 (aD (eC (.int 2)) (aD (e2 gAdd (qR 1) (qD (eC (.int 1)))) (aNil)))) (gN 3) m__law_trees_b12
def m__law_trees_c14 : M D := eTup (aD (eV 5) (aD (eTup (aNil)) (aNil)))
def o__law_trees_14 : M Ob := oComp (iD (eV 0)) (gT (gCons (gN 5) (gCons (gN 6) (gNil)))) (b2 (gEq false) (qR 6) (qD (eC (.int 0)))) m__law_trees_c14 [5, 6]
def m__law_trees : MStm := sSeq (sSetO 2 (oLst (aD (eO (oLst (aNil))) (aD (eO (oBlt bSortD (aF (o__law_trees_14) (aNil)))) (aNil))))) (sSeq (m__law_trees_w13) (sSeq (sSetO 4 (oLst (aNil))) (sSeq (m__law_trees_w2) (sRetV 4))))
def F__law_trees : List Sl → CR := runBody 2 11 m__law_trees

def m__law_is_pair_right_i1 : MStm := sIf (tNot_ (tB_ (eRv (callM F__law_is (aD (eO (oLst (aD (eRv (callM F_is_ahead (aD (eV 0) (aD (eV 1) (aD (eV 2) (aNil)))))) (aD (eRv (callM F_is_ahead (aD (eV 0) (aD (eV 1) (aD (eV 1) (aNil)))))) (aNil))))) (aD (eO (oLst (aD (eV 3) (aD (eC (.bool false)) (aNil))))) (aNil))))))) (sRet (eC (.bool false))) (sNil)
def m__law_is_pair_right : MStm := sSeq (sSet 3 (e2 (gLtD fun d e => PySem.W.dataLt d e) (qD (eTup (aD (eRv (callM F__law_nodes (aD (eV 1) (aNil)))) (aD (eV 1) (aNil))))) (qD (eTup (aD (eRv (callM F__law_nodes (aD (eV 2) (aNil)))) (aD (eV 2) (aNil))))))) (sSeq (m__law_is_pair_right_i1) (sRet (eOr (e2 (gEq false) (qR 1) (qR 2)) (eRv (callM F__law_is (aD (eRv (callM F_is_ahead (aD (eV 0) (aD (eV 2) (aD (eV 1) (aNil)))))) (aD (eNot (eV 3)) (aNil))))))))
def F__law_is_pair_right : List Sl → CR := runBody 3 4 m__law_is_pair_right

def m__law_is_row_right_i1 : MStm := sIf (tNot_ (tB_ (eRv (callM F__law_is (aD (eRv (callM F_least_of (aD (eV 1) (aD (eBlt bTupOf (aR 5 (aNil))) (aNil))))) (aD (eV 3) (aNil))))))) (sRet (eC (.bool false))) (sNil)
def m__law_is_row_right_b2 : MStm := sFg [4, 5, 6] (m__law_is_row_right_i1)
def m__law_is_row_right_w3 : MStm := sFor (iD (eO (oLst (aD (eV 2) (aD (eO (oRevQ (qR 2))) (aD (eO (o2 gCat (qF (oSl gSlX (qR 2) (ptI (eV 4)) (ret none))) (qF (oSl gSlX (qR 2) (ret none) (ptI (eV 4)))))) (aNil))))))) (gN 5) m__law_is_row_right_b2
def m__law_is_row_right_c4 : M D := eTup (aD (eRv (callM F__law_nodes (aD (eV 6) (aNil)))) (aD (eV 6) (aNil)))
def o__law_is_row_right_4 : M Ob := oComp (iD (eV 2)) (gN 6) (ret true) m__law_is_row_right_c4 [6]
def m__law_is_row_right : MStm := sSeq (sSet 3 (e2 gIx (qD (eBlt bMinD (aF (o__law_is_row_right_4) (aNil)))) (qD (eC (.int 1))))) (sSeq (sSet 4 (eRv (callM F__law_draw (aR 0 (aD (eBlt bLen (aR 2 (aNil))) (aNil)))))) (sSeq (m__law_is_row_right_w3) (sRet (eC (.bool true)))))
def F__law_is_row_right : List Sl → CR := runBody 3 7 m__law_is_row_right

def m__law_are_refused : MStm := sSeq (sAsg (gT (gCons (gN 3) (gCons (gN 4) (gNil)))) (eTup (aD (eRv (callM F__law_some (aR 0 (aD (eO (oLst (aD (eC .none) (aD (eTup (aNil)) (aD (eO (oBlt bListA (aR 1 (aNil)))) (aNil)))))) (aNil))))) (aD (eRv (callM F__law_some (aR 0 (aD (eO (oLst (aD (eC .none) (aD (eTup (aNil)) (aD (eTup (aD (eC (.str "q")) (aNil))) (aD (eO (oLst (aD (eV 2) (aNil)))) (aD (eTup (aD (eV 2) (aNil))) (aNil)))))))) (aNil))))) (aNil))))) (sSeq (sSetO 5 (oLst (aD (eSaid id (fun w => .list [.str w]) pk__law_said (eRv (callM F_is_ahead (aD (eV 3) (aD (eV 4) (aD (eV 4) (aNil))))))) (aNil)))) (sSeq (sDrop (eMt 5 fApp (aD (eSaid id (fun w => .list [.str w]) pk__law_said (eRv (callM F_is_ahead (aD (eV 1) (aD (eV 4) (aD (eV 2) (aNil))))))) (aNil)))) (sSeq (sDrop (eMt 5 fApp (aD (eSaid id (fun w => .list [.str w]) pk__law_said (eRv (callM F_is_ahead (aD (eV 1) (aD (eV 2) (aD (eV 4) (aNil))))))) (aNil)))) (sSeq (sDrop (eMt 5 fApp (aD (eSaid id (fun w => .list [.str w]) pk__law_said (eRv (callM F_least_of (aD (eV 3) (aD (eTup (aD (eV 4) (aNil))) (aNil)))))) (aNil)))) (sSeq (sDrop (eMt 5 fApp (aD (eSaid id (fun w => .list [.str w]) pk__law_said (eRv (callM F_least_of (aD (eV 1) (aD (eTup (aD (eV 2) (aD (eV 4) (aNil)))) (aNil)))))) (aNil)))) (sSeq (sDrop (eMt 5 fApp (aD (eSaid id (fun w => .list [.str w]) pk__law_said (eRv (callM F_least_of (aD (eV 1) (aD (eTup (aD (eV 4) (aD (eV 2) (aNil)))) (aNil)))))) (aNil)))) (sRet (eRv (callM F__law_is (aD (eV 5) (aD (eO (oLst (aD (eO (oLst (aD (eC (.str "signature")) (aNil)))) (aD (eO (oLst (aD (eC (.str "tree")) (aNil)))) (aD (eO (oLst (aD (eC (.str "tree")) (aNil)))) (aD (eO (oLst (aD (eC (.str "signature")) (aNil)))) (aD (eO (oLst (aD (eC (.str "tree")) (aNil)))) (aD (eO (oLst (aD (eC (.str "tree")) (aNil)))) (aNil))))))))) (aNil))))))))))))
def F__law_are_refused : List Sl → CR := runBody 3 6 m__law_are_refused

def m_law_i1 : MStm := sIf (tNot_ (tB_ (eRv (callM F__law_are_refused (aR 1 (aD (eV 3) (aD (e2 gIx (qR 5) (qD (eC (.int 0)))) (aNil)))))))) (sRet (eC (.bool false))) (sNil)
def m_law_i2 : MStm := sIf (tOr_ (tNot_ (tB_ (eRv (callM F__law_is_row_right (aR 1 (aD (eV 3) (aD (eV 9) (aNil)))))))) (tNot_ (tB_ (eRv (callM F__law_is_row_right (aR 1 (aD (eV 3) (aD (eV 5) (aNil))))))))) (sRet (eC (.bool false))) (sNil)
def m_law_c3 : M D := eRv (callM F__law_some (aR 1 (aD (eV 4) (aNil))))
def o_law_3 : M Ob := oComp (iRg rng1 (aD (eC (.int 3)) (aNil))) (gN 10) (ret true) m_law_c3 [10]
def m_law_i4 : MStm := sIf (tNot_ (tB_ (eRv (callM F__law_is (aD (eRv (callM F_is_ahead (aD (eV 3) (aD (e2 gIx (qR 4) (qR 7)) (aD (e2 gIx (qR 4) (qD (e2 gAdd (qR 7) (qD (eC (.int 1)))))) (aNil)))))) (aD (eC (.bool true)) (aNil))))))) (sRet (eC (.bool false))) (sNil)
def m_law_i5 : MStm := sIf (b2 gLt (qD (e2 gAdd (qR 7) (qD (eC (.int 1))))) (qD (eBlt bLen (aR 4 (aNil))))) (m_law_i4) (sNil)
def m_law_i6 : MStm := sIf (tNot_ (tB_ (eRv (callM F__law_is_pair_right (aD (eV 3) (aD (eRv (callM F__law_some (aR 1 (aD (eV 8) (aNil))))) (aD (eRv (callM F__law_some (aR 1 (aD (eV 8) (aNil))))) (aNil)))))))) (sRet (eC (.bool false))) (sNil)
def m_law_b7 : MStm := sFg [2, 6, 7, 8, 9, 10] (sSeq (sSet 7 (eRv (callM F__law_draw (aR 1 (aD (eBlt bLen (aR 4 (aNil))) (aNil)))))) (sSeq (sSet 8 (eO (o2 gCat (qR 5) (qF (oSl gSlX (qR 4) (ptI (eV 7)) (ptI (e2 gAdd (qR 7) (qD (eC (.int 2)))))))))) (sSeq (m_law_i6) (m_law_i5))))
def m_law_w8 : MStm := sFor (iRg rng1 (aD (eC (.int 6)) (aNil))) (gN 6) m_law_b7
def m_law_c9 : M D := eRv (callM F__law_tree (aR 1 (aD (eV 3) (aD (eC (.int 20)) (aNil)))))
def o_law_9 : M Ob := oComp (iRg rng1 (aD (eC (.int 4)) (aNil))) (gN 10) (ret true) m_law_c9 [10]
def m_law_b10 : MStm := sFg [2, 3, 4, 5, 6, 7, 8, 9, 10] (sSeq (sSet 3 (eRv (callM F__law_signature (aR 1 (aD (eC (.int 4)) (aNil)))))) (sSeq (sSet 4 (eRv (callM F__law_trees (aD (eV 3) (aD (eC (.int 4)) (aNil)))))) (sSeq (sSetO 5 (o_law_9)) (sSeq (m_law_w8) (sSeq (sSet 9 (eO (o2 gCat (qF (o2 gCat (qR 5) (qF (o_law_3)))) (qF (oSl gSlX (qR 5) (ret none) (ptI (eC (.int 1)))))))) (sSeq (m_law_i2) (m_law_i1)))))))
def m_law_w11 : MStm := sFor (iRg rng1 (aD (eC (.int 4)) (aNil))) (gN 2) m_law_b10
def m_law : MStm := sSeq (sSetO 1 (oRv (callM F__law_hand (aR 0 (aNil))))) (sSeq (m_law_w11) (sRet (eC (.bool true))))
def F_law : List Sl → CR := runBody 1 11 m_law

end K03
end

section
set_option Elab.async false
set_option linter.all false
set_option maxRecDepth 100000
set_option maxHeartbeats 2000000
namespace K03
open PySem L2 ML He LamX
def top (i : Nat) : Stmt := PySem.Challenge.pw_shaperoads_k03_whole_order_of_trees.main.body.getD i (.Pass ⟨0, 0, 0, 0⟩)
def mth (i j : Nat) : Stmt := match top i with
  | .ClassDef _ _ _ body _ _ _ _ _ _ _ => body.getD j (.Pass ⟨0, 0, 0, 0⟩)
  | _ => .Pass ⟨0, 0, 0, 0⟩
abbrev cA (K : PySem.W.Frag) : CA := ⟨ga K, [((cT K ("_law_are_refused", none)).2, ("_law_are_refused" ++ ".<locals>.") ++ "<lambda>")]⟩
structure Txt (K : PySem.W.Frag) (mg : Str → Option Value) : Prop where
  f_abs : mg "abs" = none
  f_all : mg "all" = none
  f_bool : mg "bool" = none
  f_dict : mg "dict" = none
  f_enumerate : mg "enumerate" = none
  f_int : mg "int" = none
  f_isinstance : mg "isinstance" = none
  f_len : mg "len" = none
  f_list : mg "list" = none
  f_min : mg "min" = none
  f_range : mg "range" = none
  f_repr : mg "repr" = none
  f_sorted : mg "sorted" = none
  f_str : mg "str" = none
  f_sum : mg "sum" = none
  f_tuple : mg "tuple" = none
  f_zip : mg "zip" = none
  g_LETTERS : ∃ t, mg "LETTERS" = some (.str "abcdefghijklmnopqrstuvwxyz" t)
  g_MOST_LETTERS : ∃ t, mg "MOST_LETTERS" = some (.int 8 t)
  g_MOST_LABELS : ∃ t, mg "MOST_LABELS" = some (.int 10 t)
  g_MOST_RANK : ∃ t, mg "MOST_RANK" = some (.int 2 t)
  a_ShapeError : mg "ShapeError" = some (.ref (ga K "ShapeError"))
  a_NoSignature : mg "NoSignature" = some (.ref (ga K "NoSignature"))
  a_NoTree : mg "NoTree" = some (.ref (ga K "NoTree"))
  d_is_integer : mg "is_integer" = some (.ref (ga K "is_integer"))
  d_is_within : mg "is_within" = some (.ref (ga K "is_within"))
  d_is_name : mg "is_name" = some (.ref (ga K "is_name"))
  d_is_sized : mg "is_sized" = some (.ref (ga K "is_sized"))
  d_are_rising : mg "are_rising" = some (.ref (ga K "are_rising"))
  d_is_signature : mg "is_signature" = some (.ref (ga K "is_signature"))
  d_check_signature : mg "check_signature" = some (.ref (ga K "check_signature"))
  d_raw_is_tree : mg "raw_is_tree" = some (.ref (ga K "raw_is_tree"))
  d_check_tree : mg "check_tree" = some (.ref (ga K "check_tree"))
  d_check_both : mg "check_both" = some (.ref (ga K "check_both"))
  d_raw_nodes_many : mg "raw_nodes_many" = some (.ref (ga K "raw_nodes_many"))
  d_order_key : mg "order_key" = some (.ref (ga K "order_key"))
  d_is_ahead : mg "is_ahead" = some (.ref (ga K "is_ahead"))
  d_least_of : mg "least_of" = some (.ref (ga K "least_of"))
  d__law_hand : mg "_law_hand" = some (.ref (ga K "_law_hand"))
  d__law_draw : mg "_law_draw" = some (.ref (ga K "_law_draw"))
  d__law_some : mg "_law_some" = some (.ref (ga K "_law_some"))
  d__law_is : mg "_law_is" = some (.ref (ga K "_law_is"))
  d__law_signature : mg "_law_signature" = some (.ref (ga K "_law_signature"))
  d__law_tree : mg "_law_tree" = some (.ref (ga K "_law_tree"))
  d__law_nodes : mg "_law_nodes" = some (.ref (ga K "_law_nodes"))
  d__law_trees : mg "_law_trees" = some (.ref (ga K "_law_trees"))
  d__law_said : mg "_law_said" = some (.ref (ga K "_law_said"))
  d__law_is_pair_right : mg "_law_is_pair_right" = some (.ref (ga K "_law_is_pair_right"))
  d__law_is_row_right : mg "_law_is_row_right" = some (.ref (ga K "_law_is_row_right"))
  d__law_are_refused : mg "_law_are_refused" = some (.ref (ga K "_law_are_refused"))
  d_law : mg "law" = some (.ref (ga K "law"))
  e_NoSignature_NoSignature : PySem.W.exmOne K (.ref (ga K "NoSignature")) (.ref (ga K "NoSignature")) = some true
  e_NoTree_NoSignature : PySem.W.exmOne K (.ref (ga K "NoTree")) (.ref (ga K "NoSignature")) = some false
  e_NoTree_NoTree : PySem.W.exmOne K (.ref (ga K "NoTree")) (.ref (ga K "NoTree")) = some true
variable {P : Program} {w : World} {K : PySem.W.Frag} {mg : Str → Option Value} {base : Heap}
theorem pk__law_said_ok (T : Txt K mg) : ∀ (e w : Str) (q : Str → Prop), pk__law_said e = some w → q w → chain K [((.ref (ga K "NoSignature") : Value), ("signature" : Str)), ((.ref (ga K "NoTree") : Value), ("tree" : Str)), ((.ref (ga K "ShapeError") : Value), ("refused" : Str))] q (.ref ((cA K) e)) := fun e w q h hq => by
  unfold pk__law_said at h
  by_cases z_NoSignature : e = "NoSignature"
  · rw [if_pos z_NoSignature] at h; cases h; subst z_NoSignature; exact ⟨true, T.e_NoSignature_NoSignature, fun _ => hq, fun z => (by cases z)⟩
  rw [if_neg z_NoSignature] at h
  by_cases z_NoTree : e = "NoTree"
  · rw [if_pos z_NoTree] at h; cases h; subst z_NoTree; exact ⟨false, T.e_NoTree_NoSignature, fun z => (by cases z), fun _ => ⟨true, T.e_NoTree_NoTree, fun _ => hq, fun z => (by cases z)⟩⟩
  rw [if_neg z_NoTree] at h
  cases h
theorem sc_is_integer : FnScope ["thing"] ["thing"] (defScope (top 7)) := ⟨rfl, rfl, rfl, by decide +kernel, rfl, by decide +kernel, by decide +kernel⟩
theorem w_is_integer (T : Txt K mg) {fd : FuncData} (F : FunD K "is_integer" "is_integer" (defArgs (top 7)) (defBody (top 7)) (defScope (top 7)) [] [] (ga K "is_integer") fd) : Cal P w K mg base (cA K) 1 "is_integer" 1 F_is_integer :=
  calD F T.d_is_integer sc_is_integer (fun _ _ _ _ _ _ us hl => match us, hl with | [_], _ => rfl) fun cdv A outer s H E hr => by
    have hu := hr.units
    have hu1 := Nat.lt_of_le_of_lt (Nat.add_le_add_left (by decide : 1 ≤ 64) _) hu
    have sc := sc_is_integer
    exact mss_one (ms_ret (me_and (me_isi (me_var 0) T.f_isinstance T.f_int tyK_int (by decide +kernel)) (me_one (me_not (me_isi (me_var 0) T.f_isinstance T.f_bool tyK_bool (by decide +kernel))))))
theorem sc_is_within : FnScope ["thing", "low", "high"] ["thing", "low", "high"] (defScope (top 8)) := ⟨rfl, rfl, rfl, by decide +kernel, rfl, by decide +kernel, by decide +kernel⟩
theorem w_is_within (T : Txt K mg) (K_is_integer : Cal P w K mg base (cA K) 1 "is_integer" 1 F_is_integer) {fd : FuncData} (F : FunD K "is_within" "is_within" (defArgs (top 8)) (defBody (top 8)) (defScope (top 8)) [] [] (ga K "is_within") fd) : Cal P w K mg base (cA K) 2 "is_within" 3 F_is_within :=
  calD F T.d_is_within sc_is_within (fun _ _ _ _ _ _ us hl => match us, hl with | [_, _, _], _ => rfl) fun cdv A outer s H E hr => by
    have hu := hr.units
    have hu1 := Nat.lt_of_le_of_lt (Nat.add_le_add_left (by decide : 1 ≤ 64) _) hu
    have sc := sc_is_within
    exact mss_one (ms_ret (me_and (me_c (mc_call (K_is_integer.mono (by first | decide | omega | exact Nat.le_refl _)) hr (ma_d (me_var 0) (ma_nil)) (hlen := len_d (len_nil)))) (me_one (me_chain op_le s_le op_le s_le (mq_r 1) (mq_r 0) (mq_r 2)))))
theorem sc_is_name : FnScope ["thing", "sign"] ["thing"] (defScope (top 9)) := ⟨rfl, rfl, rfl, by decide +kernel, rfl, by decide +kernel, by decide +kernel⟩
theorem w_is_name (T : Txt K mg) {fd : FuncData} (F : FunD K "is_name" "is_name" (defArgs (top 9)) (defBody (top 9)) (defScope (top 9)) [] [] (ga K "is_name") fd) : Cal P w K mg base (cA K) 1 "is_name" 1 F_is_name :=
  calD F T.d_is_name sc_is_name (fun _ _ _ _ _ _ us hl => match us, hl with | [_], _ => rfl) fun cdv A outer s H E hr => by
    have hu := hr.units
    have hu1 := Nat.lt_of_le_of_lt (Nat.add_le_add_left (by decide : 1 ≤ 64) _) hu
    have sc := sc_is_name
    exact mss_cons (ms_if (mw_mt (mw_or (mt_not (mt_val (me_isi (me_var 0) T.f_isinstance T.f_str tyK_str (by decide +kernel)))) (mw_or1 (mt_not (mt_chain op_le s_le op_le s_le (mq_d (me_int)) (mq_d (me_blt call_len b_len (ma_r 0 (ma_nil)) T.f_len (by decide +kernel))) (mq_d (me_gi T.g_MOST_LETTERS))))))) (mss_one (ms_ret (me_bl))) (mss_nil)) (mss_one (ms_ret (me_blt (cr_all rfl) b_all (ma_f (mo_lc sc.nd (own := [("sign", 1)]) (mi_any (me_var 0)) (show BlkOk ["thing", "sign"] (defScope (top 9)) _ _ from ⟨rfl, by decide +kernel, by decide +kernel, by decide +kernel, by decide +kernel⟩) (fun _ _ _ _ _ => mg_name 1 sc.nd) (fun _ _ _ _ _ => mts_nil) (fun _ _ _ _ _ => me_cmp op_inA s_in (mq_r 1) (mq_d (me_gs T.g_LETTERS)))) (ma_nil)) T.f_all (by decide +kernel))))
theorem sc_is_sized : FnScope ["thing", "least", "most"] ["thing", "least", "most"] (defScope (top 10)) := ⟨rfl, rfl, rfl, by decide +kernel, rfl, by decide +kernel, by decide +kernel⟩
theorem w_is_sized (T : Txt K mg) {fd : FuncData} (F : FunD K "is_sized" "is_sized" (defArgs (top 10)) (defBody (top 10)) (defScope (top 10)) [] [] (ga K "is_sized") fd) : Cal P w K mg base (cA K) 1 "is_sized" 3 F_is_sized :=
  calD F T.d_is_sized sc_is_sized (fun _ _ _ _ _ _ us hl => match us, hl with | [_, _, _], _ => rfl) fun cdv A outer s H E hr => by
    have hu := hr.units
    have hu1 := Nat.lt_of_le_of_lt (Nat.add_le_add_left (by decide : 1 ≤ 64) _) hu
    have sc := sc_is_sized
    exact mss_one (ms_ret (me_and (me_isi (me_var 0) T.f_isinstance T.f_tuple tyK_tuple (by decide +kernel)) (me_one (me_chain op_le s_le op_le s_le (mq_r 1) (mq_d (me_blt call_len b_len (ma_r 0 (ma_nil)) T.f_len (by decide +kernel))) (mq_r 2)))))
theorem sc_are_rising : FnScope ["things", "at"] ["things"] (defScope (top 11)) := ⟨rfl, rfl, rfl, by decide +kernel, rfl, by decide +kernel, by decide +kernel⟩
theorem w_are_rising (T : Txt K mg) {fd : FuncData} (F : FunD K "are_rising" "are_rising" (defArgs (top 11)) (defBody (top 11)) (defScope (top 11)) [] [] (ga K "are_rising") fd) : Cal P w K mg base (cA K) 1 "are_rising" 1 F_are_rising :=
  calD F T.d_are_rising sc_are_rising (fun _ _ _ _ _ _ us hl => match us, hl with | [_], _ => rfl) fun cdv A outer s H E hr => by
    have hu := hr.units
    have hu1 := Nat.lt_of_le_of_lt (Nat.add_le_add_left (by decide : 1 ≤ 64) _) hu
    have sc := sc_are_rising
    exact mss_one (ms_ret (me_blt (cr_all rfl) b_all (ma_f (mo_lc sc.nd (own := [("at", 1)]) (mi_range1 (ma_d (me_op op_sub s_sub (mq_d (me_blt call_len b_len (ma_r 0 (ma_nil)) T.f_len (by decide +kernel))) (mq_d (me_int))) (ma_nil)) T.f_range) (show BlkOk ["things", "at"] (defScope (top 11)) _ _ from ⟨rfl, by decide +kernel, by decide +kernel, by decide +kernel, by decide +kernel⟩) (fun _ _ _ _ _ => mg_name 1 sc.nd) (fun _ _ _ _ _ => mts_nil) (fun _ _ _ _ _ => me_cmp (MK.op_ltD hu) s_ltD (mq_d (me_ix ix_seq s_ix (mq_r 0) (mq_r 1))) (mq_d (me_ix ix_seq s_ix (mq_r 0) (mq_d (me_op op_addD s_add (mq_r 1) (mq_d (me_int)))))))) (ma_nil)) T.f_all (by decide +kernel)))
theorem sc_is_signature : FnScope ["thing", "pair"] ["thing"] (defScope (top 15)) := ⟨rfl, rfl, rfl, by decide +kernel, rfl, by decide +kernel, by decide +kernel⟩
theorem w_is_signature (T : Txt K mg) (K_are_rising : Cal P w K mg base (cA K) 1 "are_rising" 1 F_are_rising) (K_is_sized : Cal P w K mg base (cA K) 1 "is_sized" 3 F_is_sized) (K_is_name : Cal P w K mg base (cA K) 1 "is_name" 1 F_is_name) (K_is_within : Cal P w K mg base (cA K) 2 "is_within" 3 F_is_within) {fd : FuncData} (F : FunD K "is_signature" "is_signature" (defArgs (top 15)) (defBody (top 15)) (defScope (top 15)) [] [] (ga K "is_signature") fd) : Cal P w K mg base (cA K) 3 "is_signature" 1 F_is_signature :=
  calD F T.d_is_signature sc_is_signature (fun _ _ _ _ _ _ us hl => match us, hl with | [_], _ => rfl) fun cdv A outer s H E hr => by
    have hu := hr.units
    have hu1 := Nat.lt_of_le_of_lt (Nat.add_le_add_left (by decide : 1 ≤ 64) _) hu
    have sc := sc_is_signature
    exact mss_cons (ms_if (mw_mt (mw_or (mt_not (mt_val (me_c (mc_call (K_is_sized.mono (by first | decide | omega | exact Nat.le_refl _)) hr (ma_d (me_var 0) (ma_d (me_int) (ma_d (me_gi T.g_MOST_LABELS) (ma_nil)))) (hlen := len_d (len_d (len_d (len_nil)))))))) (mw_or1 (mt_not (mt_val (me_blt (cr_all rfl) b_all (ma_f (mo_lc sc.nd (own := [("pair", 1)]) (mi_any (me_var 0)) (show BlkOk ["thing", "pair"] (defScope (top 15)) _ _ from ⟨rfl, by decide +kernel, by decide +kernel, by decide +kernel, by decide +kernel⟩) (fun _ _ _ _ _ => mg_name 1 sc.nd) (fun _ _ _ _ _ => mts_nil) (fun _ _ _ _ _ => me_c (mc_call (K_is_sized.mono (by first | decide | omega | exact Nat.le_refl _)) hr (ma_d (me_var 1) (ma_d (me_int) (ma_d (me_int) (ma_nil)))) (hlen := len_d (len_d (len_d (len_nil))))))) (ma_nil)) T.f_all (by decide +kernel))))))) (mss_one (ms_ret (me_bl))) (mss_nil)) (mss_cons (ms_if (mt_not (mt_val (me_blt (cr_all rfl) b_all (ma_f (mo_lc sc.nd (own := [("pair", 1)]) (mi_any (me_var 0)) (show BlkOk ["thing", "pair"] (defScope (top 15)) _ _ from ⟨rfl, by decide +kernel, by decide +kernel, by decide +kernel, by decide +kernel⟩) (fun _ _ _ _ _ => mg_name 1 sc.nd) (fun _ _ _ _ _ => mts_nil) (fun _ _ _ _ _ => me_and (me_c (mc_call (K_is_name.mono (by first | decide | omega | exact Nat.le_refl _)) hr (ma_d (me_ix ix_seq s_ix (mq_r 1) (mq_d (me_int))) (ma_nil)) (hlen := len_d (len_nil)))) (me_one (me_c (mc_call (K_is_within.mono (by first | decide | omega | exact Nat.le_refl _)) hr (ma_d (me_ix ix_seq s_ix (mq_r 1) (mq_d (me_int))) (ma_d (me_int) (ma_d (me_gi T.g_MOST_RANK) (ma_nil)))) (hlen := len_d (len_d (len_d (len_nil))))))))) (ma_nil)) T.f_all (by decide +kernel)))) (mss_one (ms_ret (me_bl))) (mss_nil)) (mss_one (ms_ret (me_c (mc_call (K_are_rising.mono (by first | decide | omega | exact Nat.le_refl _)) hr (ma_d (me_o (mo_lc sc.nd (own := [("pair", 1)]) (mi_any (me_var 0)) (show BlkOk ["thing", "pair"] (defScope (top 15)) _ _ from ⟨rfl, by decide +kernel, by decide +kernel, by decide +kernel, by decide +kernel⟩) (fun _ _ _ _ _ => mg_name 1 sc.nd) (fun _ _ _ _ _ => mts_nil) (fun _ _ _ _ _ => me_ix ix_seq s_ix (mq_r 1) (mq_d (me_int))))) (ma_nil)) (hlen := len_d (len_nil)))))))
theorem sc_check_signature : FnScope ["thing"] ["thing"] (defScope (top 16)) := ⟨rfl, rfl, rfl, by decide +kernel, rfl, by decide +kernel, by decide +kernel⟩
theorem w_check_signature (T : Txt K mg) (K_is_signature : Cal P w K mg base (cA K) 3 "is_signature" 1 F_is_signature) (r_NoSignature : Rz P w K mg base (cA K) "NoSignature") {fd : FuncData} (F : FunD K "check_signature" "check_signature" (defArgs (top 16)) (defBody (top 16)) (defScope (top 16)) [] [] (ga K "check_signature") fd) : Cal P w K mg base (cA K) 4 "check_signature" 1 F_check_signature :=
  calD F T.d_check_signature sc_check_signature (fun _ _ _ _ _ _ us hl => match us, hl with | [_], _ => rfl) fun cdv A outer s H E hr => by
    have hu := hr.units
    have hu1 := Nat.lt_of_le_of_lt (Nat.add_le_add_left (by decide : 1 ≤ 64) _) hu
    have sc := sc_check_signature
    exact mss_one (ms_if (mt_not (mt_val (me_c (mc_call (K_is_signature.mono (by first | decide | omega | exact Nat.le_refl _)) hr (ma_d (me_var 0) (ma_nil)) (hlen := len_d (len_nil)))))) (mss_one (ms_raise "NoSignature" (pmk_r r_NoSignature (hr.mono (by first | decide | omega | exact Nat.le_refl _))))) (mss_nil))
theorem sc_raw_is_tree : FnScope ["signature", "thing", "ranks", "waiting", "here"] ["signature", "thing"] (defScope (top 17)) := ⟨rfl, rfl, rfl, by decide +kernel, rfl, by decide +kernel, by decide +kernel⟩
theorem w_raw_is_tree (T : Txt K mg) (K_is_sized : Cal P w K mg base (cA K) 1 "is_sized" 3 F_is_sized) {fd : FuncData} (F : FunD K "raw_is_tree" "raw_is_tree" (defArgs (top 17)) (defBody (top 17)) (defScope (top 17)) [] [] (ga K "raw_is_tree") fd) : Cal P w K mg base (cA K) 2 "raw_is_tree" 2 F_raw_is_tree :=
  calD F T.d_raw_is_tree sc_raw_is_tree (fun _ _ _ _ _ _ us hl => match us, hl with | [_, _], _ => rfl) fun cdv A outer s H E hr => by
    have hu := hr.units
    have hu1 := Nat.lt_of_le_of_lt (Nat.add_le_add_left (by decide : 1 ≤ 64) _) hu
    have sc := sc_raw_is_tree
    exact mss_cons (ms_par 2 3 (ma_f (mo_dictT (me_var 0) T.f_dict) (ma_f (mo_lst (ma_d (me_var 1) (ma_nil))) (ma_nil))) sc.nd) (mss_cons (ms_while 20000 (mt_cmp op_gt s_gt (mq_d (me_blt call_len b_len (ma_r 3 (ma_nil)) T.f_len (by decide +kernel))) (mq_d (me_int))) (mss_fg [4] (mss_cons (ms_set 4 (me_mt0 3 PySem.F.slot_list_pop PySem.F.type_list_pop mt_pop mts_pop) sc.nd) (mss_cons (ms_if (mw_mt (mw_or (mt_not (mt_val (me_c (mc_call (K_is_sized.mono (by first | decide | omega | exact Nat.le_refl _)) hr (ma_d (me_var 4) (ma_d (me_int) (ma_d (me_int) (ma_nil)))) (hlen := len_d (len_d (len_d (len_nil)))))))) (mw_or (mt_not (mt_val (me_isi (me_ix ix_seq s_ix (mq_r 4) (mq_d (me_int))) T.f_isinstance T.f_str tyK_str (by decide +kernel)))) (mw_or1 (mt_dnin hu1 (me_ix ix_seq s_ix (mq_r 4) (mq_d (me_int))) (mq_r 2)))))) (mss_one (ms_ret (me_bl))) (mss_nil)) (mss_cons (ms_if (mt_not (mt_val (me_c (mc_call (K_is_sized.mono (by first | decide | omega | exact Nat.le_refl _)) hr (ma_d (me_ix ix_seq s_ix (mq_r 4) (mq_d (me_int))) (ma_d (me_dgetQ hu1 (mq_r 2) (me_ix ix_seq s_ix (mq_r 4) (mq_d (me_int))) (fun _ _ => rfl)) (ma_d (me_dgetQ hu1 (mq_r 2) (me_ix ix_seq s_ix (mq_r 4) (mq_d (me_int))) (fun _ _ => rfl)) (ma_nil)))) (hlen := len_d (len_d (len_d (len_nil)))))))) (mss_one (ms_ret (me_bl))) (mss_nil)) (mss_one (ms_expr (me_mt 3 PySem.F.slot_list_extend PySem.F.type_list_extend mt_extA mts_extA (ma_f (mo_bltT (cr_listA rfl) b_listA (ma_d (me_ix ix_seq s_ix (mq_r 4) (mq_d (me_int))) (ma_nil)) T.f_list (by decide +kernel)) (ma_nil)))))))))) (mss_one (ms_ret (me_bl))))
theorem sc_check_tree : FnScope ["signature", "tree"] ["signature", "tree"] (defScope (top 18)) := ⟨rfl, rfl, rfl, by decide +kernel, rfl, by decide +kernel, by decide +kernel⟩
theorem w_check_tree (T : Txt K mg) (K_raw_is_tree : Cal P w K mg base (cA K) 2 "raw_is_tree" 2 F_raw_is_tree) (r_NoTree : Rz P w K mg base (cA K) "NoTree") {fd : FuncData} (F : FunD K "check_tree" "check_tree" (defArgs (top 18)) (defBody (top 18)) (defScope (top 18)) [] [] (ga K "check_tree") fd) : Cal P w K mg base (cA K) 3 "check_tree" 2 F_check_tree :=
  calD F T.d_check_tree sc_check_tree (fun _ _ _ _ _ _ us hl => match us, hl with | [_, _], _ => rfl) fun cdv A outer s H E hr => by
    have hu := hr.units
    have hu1 := Nat.lt_of_le_of_lt (Nat.add_le_add_left (by decide : 1 ≤ 64) _) hu
    have sc := sc_check_tree
    exact mss_one (ms_if (mt_not (mt_val (me_c (mc_call (K_raw_is_tree.mono (by first | decide | omega | exact Nat.le_refl _)) hr (ma_d (me_var 0) (ma_d (me_var 1) (ma_nil))) (hlen := len_d (len_d (len_nil))))))) (mss_one (ms_raise "NoTree" (pmk_r r_NoTree (hr.mono (by first | decide | omega | exact Nat.le_refl _))))) (mss_nil))
theorem sc_check_both : FnScope ["signature", "tree"] ["signature", "tree"] (defScope (top 19)) := ⟨rfl, rfl, rfl, by decide +kernel, rfl, by decide +kernel, by decide +kernel⟩
theorem w_check_both (T : Txt K mg) (K_check_signature : Cal P w K mg base (cA K) 4 "check_signature" 1 F_check_signature) (K_check_tree : Cal P w K mg base (cA K) 3 "check_tree" 2 F_check_tree) {fd : FuncData} (F : FunD K "check_both" "check_both" (defArgs (top 19)) (defBody (top 19)) (defScope (top 19)) [] [] (ga K "check_both") fd) : Cal P w K mg base (cA K) 5 "check_both" 2 F_check_both :=
  calD F T.d_check_both sc_check_both (fun _ _ _ _ _ _ us hl => match us, hl with | [_, _], _ => rfl) fun cdv A outer s H E hr => by
    have hu := hr.units
    have hu1 := Nat.lt_of_le_of_lt (Nat.add_le_add_left (by decide : 1 ≤ 64) _) hu
    have sc := sc_check_both
    exact mss_cons (ms_expr (me_c (mc_call (K_check_signature.mono (by first | decide | omega | exact Nat.le_refl _)) hr (ma_d (me_var 0) (ma_nil)) (hlen := len_d (len_nil))))) (mss_one (ms_expr (me_c (mc_call (K_check_tree.mono (by first | decide | omega | exact Nat.le_refl _)) hr (ma_d (me_var 0) (ma_d (me_var 1) (ma_nil))) (hlen := len_d (len_d (len_nil)))))))
theorem sc_raw_nodes_many : FnScope ["tree", "many", "waiting"] ["tree"] (defScope (top 20)) := ⟨rfl, rfl, rfl, by decide +kernel, rfl, by decide +kernel, by decide +kernel⟩
theorem w_raw_nodes_many (T : Txt K mg) {fd : FuncData} (F : FunD K "raw_nodes_many" "raw_nodes_many" (defArgs (top 20)) (defBody (top 20)) (defScope (top 20)) [] [] (ga K "raw_nodes_many") fd) : Cal P w K mg base (cA K) 1 "raw_nodes_many" 1 F_raw_nodes_many :=
  calD F T.d_raw_nodes_many sc_raw_nodes_many (fun _ _ _ _ _ _ us hl => match us, hl with | [_], _ => rfl) fun cdv A outer s H E hr => by
    have hu := hr.units
    have hu1 := Nat.lt_of_le_of_lt (Nat.add_le_add_left (by decide : 1 ≤ 64) _) hu
    have sc := sc_raw_nodes_many
    exact mss_cons (ms_par 1 2 (ma_d (me_int) (ma_f (mo_lst (ma_d (me_var 0) (ma_nil))) (ma_nil))) sc.nd) (mss_cons (ms_while 20000 (mt_cmp op_gt s_gt (mq_d (me_blt call_len b_len (ma_r 2 (ma_nil)) T.f_len (by decide +kernel))) (mq_d (me_int))) (mss_fg [] (mss_cons (ms_aug 1 iop_addD s_iadd (me_int) sc.nd) (mss_one (ms_expr (me_mt 2 PySem.F.slot_list_extend PySem.F.type_list_extend mt_extA mts_extA (ma_d (me_ix ix_seq s_ix (mq_d (me_mt0 2 PySem.F.slot_list_pop PySem.F.type_list_pop mt_pop mts_pop)) (mq_d (me_int))) (ma_nil)))))))) (mss_one (ms_retV 1)))
theorem sc_order_key : FnScope ["tree"] ["tree"] (defScope (top 21)) := ⟨rfl, rfl, rfl, by decide +kernel, rfl, by decide +kernel, by decide +kernel⟩
theorem w_order_key (T : Txt K mg) (K_raw_nodes_many : Cal P w K mg base (cA K) 1 "raw_nodes_many" 1 F_raw_nodes_many) {fd : FuncData} (F : FunD K "order_key" "order_key" (defArgs (top 21)) (defBody (top 21)) (defScope (top 21)) [] [] (ga K "order_key") fd) : Cal P w K mg base (cA K) 2 "order_key" 1 F_order_key :=
  calD F T.d_order_key sc_order_key (fun _ _ _ _ _ _ us hl => match us, hl with | [_], _ => rfl) fun cdv A outer s H E hr => by
    have hu := hr.units
    have hu1 := Nat.lt_of_le_of_lt (Nat.add_le_add_left (by decide : 1 ≤ 64) _) hu
    have sc := sc_order_key
    exact mss_one (ms_ret (me_tup (ma_d (me_c (mc_call (K_raw_nodes_many.mono (by first | decide | omega | exact Nat.le_refl _)) hr (ma_d (me_var 0) (ma_nil)) (hlen := len_d (len_nil)))) (ma_d (me_var 0) (ma_nil)))))
theorem sc_is_ahead : FnScope ["signature", "one", "other"] ["signature", "one", "other"] (defScope (top 22)) := ⟨rfl, rfl, rfl, by decide +kernel, rfl, by decide +kernel, by decide +kernel⟩
theorem w_is_ahead (T : Txt K mg) (K_check_both : Cal P w K mg base (cA K) 5 "check_both" 2 F_check_both) (K_check_tree : Cal P w K mg base (cA K) 3 "check_tree" 2 F_check_tree) (K_order_key : Cal P w K mg base (cA K) 2 "order_key" 1 F_order_key) {fd : FuncData} (F : FunD K "is_ahead" "is_ahead" (defArgs (top 22)) (defBody (top 22)) (defScope (top 22)) [] [] (ga K "is_ahead") fd) : Cal P w K mg base (cA K) 6 "is_ahead" 3 F_is_ahead :=
  calD F T.d_is_ahead sc_is_ahead (fun _ _ _ _ _ _ us hl => match us, hl with | [_, _, _], _ => rfl) fun cdv A outer s H E hr => by
    have hu := hr.units
    have hu1 := Nat.lt_of_le_of_lt (Nat.add_le_add_left (by decide : 1 ≤ 64) _) hu
    have sc := sc_is_ahead
    exact mss_cons (ms_expr (me_c (mc_call (K_check_both.mono (by first | decide | omega | exact Nat.le_refl _)) hr (ma_d (me_var 0) (ma_d (me_var 1) (ma_nil))) (hlen := len_d (len_d (len_nil)))))) (mss_cons (ms_expr (me_c (mc_call (K_check_tree.mono (by first | decide | omega | exact Nat.le_refl _)) hr (ma_d (me_var 0) (ma_d (me_var 2) (ma_nil))) (hlen := len_d (len_d (len_nil)))))) (mss_one (ms_ret (me_cmp (MK.op_ltD hu) s_ltD (mq_d (me_c (mc_call (K_order_key.mono (by first | decide | omega | exact Nat.le_refl _)) hr (ma_d (me_var 1) (ma_nil)) (hlen := len_d (len_nil))))) (mq_d (me_c (mc_call (K_order_key.mono (by first | decide | omega | exact Nat.le_refl _)) hr (ma_d (me_var 2) (ma_nil)) (hlen := len_d (len_nil)))))))))
theorem sc_least_of : FnScope ["signature", "trees", "tree"] ["signature", "trees"] (defScope (top 23)) := ⟨rfl, rfl, rfl, by decide +kernel, rfl, by decide +kernel, by decide +kernel⟩
theorem w_least_of (T : Txt K mg) (K_check_signature : Cal P w K mg base (cA K) 4 "check_signature" 1 F_check_signature) (r_NoTree : Rz P w K mg base (cA K) "NoTree") (K_check_tree : Cal P w K mg base (cA K) 3 "check_tree" 2 F_check_tree) (K_order_key : Cal P w K mg base (cA K) 2 "order_key" 1 F_order_key) {fd : FuncData} (F : FunD K "least_of" "least_of" (defArgs (top 23)) (defBody (top 23)) (defScope (top 23)) [] [] (ga K "least_of") fd) : Cal P w K mg base (cA K) 5 "least_of" 2 F_least_of :=
  calD F T.d_least_of sc_least_of (fun _ _ _ _ _ _ us hl => match us, hl with | [_, _], _ => rfl) fun cdv A outer s H E hr => by
    have hu := hr.units
    have hu1 := Nat.lt_of_le_of_lt (Nat.add_le_add_left (by decide : 1 ≤ 64) _) hu
    have sc := sc_least_of
    exact mss_cons (ms_expr (me_c (mc_call (K_check_signature.mono (by first | decide | omega | exact Nat.le_refl _)) hr (ma_d (me_var 0) (ma_nil)) (hlen := len_d (len_nil))))) (mss_cons (ms_if (mw_mt (mw_or (mt_not (mt_val (me_isi (me_var 1) T.f_isinstance T.f_tuple tyK_tuple (by decide +kernel)))) (mw_or1 (mt_cmp (op_eqD hu) s_eq (mq_d (me_blt call_len b_len (ma_r 1 (ma_nil)) T.f_len (by decide +kernel))) (mq_d (me_int)))))) (mss_one (ms_raise "NoTree" (pmk_r r_NoTree (hr.mono (by first | decide | omega | exact Nat.le_refl _))))) (mss_nil)) (mss_cons (ms_for (mi_any (me_var 1)) (mg_name 2 sc.nd) (mss_fg [2] (mss_one (ms_expr (me_c (mc_call (K_check_tree.mono (by first | decide | omega | exact Nat.le_refl _)) hr (ma_d (me_var 0) (ma_d (me_var 2) (ma_nil))) (hlen := len_d (len_d (len_nil))))))))) (mss_one (ms_ret (me_ix ix_seq s_ix (mq_d (me_blt (MK.cr_minD rfl hu) b_minD (ma_f (mo_lc sc.nd (own := [("tree", 2)]) (mi_any (me_var 1)) (show BlkOk ["signature", "trees", "tree"] (defScope (top 23)) _ _ from ⟨rfl, by decide +kernel, by decide +kernel, by decide +kernel, by decide +kernel⟩) (fun _ _ _ _ _ => mg_name 2 sc.nd) (fun _ _ _ _ _ => mts_nil) (fun _ _ _ _ _ => me_c (mc_call (K_order_key.mono (by first | decide | omega | exact Nat.le_refl _)) hr (ma_d (me_var 2) (ma_nil)) (hlen := len_d (len_nil))))) (ma_nil)) T.f_min (by decide +kernel))) (mq_d (me_int)))))))
theorem sc__law_hand : FnScope ["script", "cells", "cell"] ["script"] (defScope (top 25)) := ⟨rfl, rfl, rfl, by decide +kernel, rfl, by decide +kernel, by decide +kernel⟩
theorem w__law_hand (T : Txt K mg) {fd : FuncData} (F : FunD K "_law_hand" "_law_hand" (defArgs (top 25)) (defBody (top 25)) (defScope (top 25)) [] [] (ga K "_law_hand") fd) : Cal P w K mg base (cA K) 1 "_law_hand" 1 F__law_hand :=
  calD F T.d__law_hand sc__law_hand (fun _ _ _ _ _ _ us hl => match us, hl with | [_], _ => rfl) fun cdv A outer s H E hr => by
    have hu := hr.units
    have hu1 := Nat.lt_of_le_of_lt (Nat.add_le_add_left (by decide : 1 ≤ 64) _) hu
    have sc := sc__law_hand
    exact mss_cons (ms_setLc 1 sc.nd (own := [("cell", 2)]) (mi_any (me_o (mo_slice sl_list s_slX (mq_r 0) (mpt_none) (mpt_some (me_int))))) (show BlkOk ["script", "cells", "cell"] (defScope (top 25)) _ _ from ⟨rfl, by decide +kernel, by decide +kernel, by decide +kernel, by decide +kernel⟩) (fun _ _ _ _ _ => mg_name 2 sc.nd) (fun _ _ _ _ _ => mts_nil) (fun _ _ _ _ _ => me_op op_mod s_mod (mq_d (me_blt call_abs b_abs (ma_d (me_bltT call_int1 b_int (ma_r 2 (ma_nil)) T.f_int (by decide +kernel)) (ma_nil)) T.f_abs (by decide +kernel))) (mq_d (me_op op_pow s_pow (mq_d (me_int)) (mq_d (me_int)))))) (mss_one (ms_retO (mo_lst (ma_d (me_var 1) (ma_d (me_int) (ma_d (me_int) (ma_d (me_op op_addD s_add (mq_d (me_int)) (mq_d (me_op op_mul s_mul (mq_d (me_int)) (mq_d (me_blt call_len b_len (ma_r 1 (ma_nil)) T.f_len (by decide +kernel)))))) (ma_d (me_int) (ma_nil)))))))))
theorem sc__law_draw : FnScope ["hand", "many", "cell", "digit", "number"] ["hand", "many"] (defScope (top 26)) := ⟨rfl, rfl, rfl, by decide +kernel, rfl, by decide +kernel, by decide +kernel⟩
theorem w__law_draw (T : Txt K mg) {fd : FuncData} (F : FunD K "_law_draw" "_law_draw" (defArgs (top 26)) (defBody (top 26)) (defScope (top 26)) [] [] (ga K "_law_draw") fd) : Cal P w K mg base (cA K) 1 "_law_draw" 2 F__law_draw :=
  calD F T.d__law_draw sc__law_draw (fun _ _ _ _ _ _ us hl => match us, hl with | [_, _], _ => rfl) fun cdv A outer s H E hr => by
    have hu := hr.units
    have hu1 := Nat.lt_of_le_of_lt (Nat.add_le_add_left (by decide : 1 ≤ 64) _) hu
    have sc := sc__law_draw
    exact mss_cons (ms_if (mw_mt (mw_and (mt_cmp (op_eqD hu) s_eq (mq_d (me_ix ix_seq s_ix (mq_r 0) (mq_d (me_int)))) (mq_d (me_int))) (mw_and1 (mt_cmp op_lt s_lt (mq_d (me_ix ix_seq s_ix (mq_r 0) (mq_d (me_int)))) (mq_d (me_blt call_len b_len (ma_d (me_ix ix_seq s_ix (mq_r 0) (mq_d (me_int))) (ma_nil)) T.f_len (by decide +kernel))))))) (mss_cons (ms_set 2 (me_ix ix_seq s_ix (mq_d (me_ix ix_seq s_ix (mq_r 0) (mq_d (me_int)))) (mq_d (me_ix ix_seq s_ix (mq_r 0) (mq_d (me_int))))) sc.nd) (mss_cons (ms_setIx 0 (me_op op_addD s_add (mq_d (me_ix ix_seq s_ix (mq_r 0) (mq_d (me_int)))) (mq_d (me_int))) (me_int)) (mss_cons (ms_setIx 0 (me_op op_mod s_mod (mq_d (me_bltT call_int1 b_int (ma_d (me_op op_addD s_add (mq_d (me_op op_addD s_add (mq_d (me_op op_mul s_mul (mq_d (me_ix ix_seq s_ix (mq_r 0) (mq_d (me_int)))) (mq_d (me_int)))) (mq_d (me_op op_mul s_mul (mq_r 2) (mq_d (me_int)))))) (mq_d (me_int))) (ma_nil)) T.f_int (by decide +kernel))) (mq_d (me_int))) (me_int)) (mss_one (ms_if (mt_cmp op_ge s_ge (mq_r 2) (mq_d (me_op op_pow s_pow (mq_d (me_int)) (mq_d (me_int))))) (mss_one (ms_setIx 0 (me_var 2) (me_int))) (mss_nil)))))) (mss_nil)) (mss_cons (ms_if (mt_cmp op_gt s_gt (mq_d (me_ix ix_seq s_ix (mq_r 0) (mq_d (me_int)))) (mq_d (me_int))) (mss_cons (ms_set 3 (me_op op_mod s_mod (mq_d (me_bltT call_int1 b_int (ma_d (me_ix ix_seq s_ix (mq_r 0) (mq_d (me_int))) (ma_nil)) T.f_int (by decide +kernel))) (mq_r 1)) sc.nd) (mss_cons (ms_setIx 0 (me_op op_fdiv s_div (mq_d (me_ix ix_seq s_ix (mq_r 0) (mq_d (me_int)))) (mq_r 1)) (me_int)) (mss_one (ms_retV 3)))) (mss_nil)) (mss_cons (ms_setIx 0 (me_op op_addD s_add (mq_d (me_ix ix_seq s_ix (mq_r 0) (mq_d (me_int)))) (mq_d (me_int))) (me_int)) (mss_cons (ms_set 4 (me_op op_mod s_mod (mq_d (me_bltT call_int1 b_int (ma_d (me_op op_mul s_mul (mq_d (me_bltT call_int1 b_int (ma_d (me_op op_addD s_add (mq_d (me_ix ix_seq s_ix (mq_r 0) (mq_d (me_int)))) (mq_d (me_op op_mul s_mul (mq_d (me_int)) (mq_d (me_ix ix_seq s_ix (mq_r 0) (mq_d (me_int))))))) (ma_nil)) T.f_int (by decide +kernel))) (mq_d (me_int))) (ma_nil)) T.f_int (by decide +kernel))) (mq_d (me_int))) sc.nd) (mss_cons (ms_set 4 (me_op op_mod s_mod (mq_d (me_bltT call_int1 b_int (ma_d (me_op op_mul s_mul (mq_r 4) (mq_d (me_op op_addD s_add (mq_d (me_op op_fdiv s_div (mq_r 4) (mq_d (me_int)))) (mq_d (me_int))))) (ma_nil)) T.f_int (by decide +kernel))) (mq_d (me_int))) sc.nd) (mss_cons (ms_set 4 (me_op op_mod s_mod (mq_d (me_bltT call_int1 b_int (ma_d (me_op op_mul s_mul (mq_r 4) (mq_d (me_op op_addD s_add (mq_d (me_op op_fdiv s_div (mq_r 4) (mq_d (me_int)))) (mq_d (me_int))))) (ma_nil)) T.f_int (by decide +kernel))) (mq_d (me_int))) sc.nd) (mss_one (ms_ret (me_op op_mod s_mod (mq_d (me_bltT call_int1 b_int (ma_d (me_op op_fdiv s_div (mq_r 4) (mq_d (me_int))) (ma_nil)) T.f_int (by decide +kernel))) (mq_r 1)))))))))
theorem sc__law_some : FnScope ["hand", "things"] ["hand", "things"] (defScope (top 27)) := ⟨rfl, rfl, rfl, by decide +kernel, rfl, by decide +kernel, by decide +kernel⟩
theorem w__law_some (T : Txt K mg) (K__law_draw : Cal P w K mg base (cA K) 1 "_law_draw" 2 F__law_draw) {fd : FuncData} (F : FunD K "_law_some" "_law_some" (defArgs (top 27)) (defBody (top 27)) (defScope (top 27)) [] [] (ga K "_law_some") fd) : Cal P w K mg base (cA K) 2 "_law_some" 2 F__law_some :=
  calD F T.d__law_some sc__law_some (fun _ _ _ _ _ _ us hl => match us, hl with | [_, _], _ => rfl) fun cdv A outer s H E hr => by
    have hu := hr.units
    have hu1 := Nat.lt_of_le_of_lt (Nat.add_le_add_left (by decide : 1 ≤ 64) _) hu
    have sc := sc__law_some
    exact mss_one (ms_ret (me_ix ix_seq s_ix (mq_r 1) (mq_d (me_c (mc_call (K__law_draw.mono (by first | decide | omega | exact Nat.le_refl _)) hr (ma_r 0 (ma_d (me_blt call_len b_len (ma_r 1 (ma_nil)) T.f_len (by decide +kernel)) (ma_nil))) (hlen := len_r (len_d (len_nil))))))))
theorem sc__law_is : FnScope ["came", "due", "one", "other"] ["came", "due"] (defScope (top 28)) := ⟨rfl, rfl, rfl, by decide +kernel, rfl, by decide +kernel, by decide +kernel⟩
theorem wr__law_is (T : Txt K mg) {fd : FuncData} (F : FunD K "_law_is" "_law_is" (defArgs (top 28)) (defBody (top 28)) (defScope (top 28)) [] [] (ga K "_law_is") fd) : ∀ n : Nat, Cal P w K mg base (cA K) (1 + n) "_law_is" 2 (Fr__law_is n)
  | 0 => calBad F T.d__law_is sc__law_is (fun _ _ _ _ _ _ us hl => match us, hl with | [_, _], _ => rfl)
  | n + 1 => by
    have K__law_is := wr__law_is T  F n
    exact calD F T.d__law_is sc__law_is (fun _ _ _ _ _ _ us hl => match us, hl with | [_, _], _ => rfl) fun cdv A outer s H E hr => by
      have hu := hr.units
      have hu1 := Nat.lt_of_le_of_lt (Nat.add_le_add_left (by decide : 1 ≤ 64) _) hu
      have sc := sc__law_is
      exact mss_cons (ms_if (mt_val (me_isi2 (me_var 1) T.f_isinstance T.f_tuple T.f_list tyK_tuple tyK_list (by decide +kernel) (by decide +kernel))) (mss_cons (ms_if (mw_mt (mw_or (mt_cmp (op_neD hu) s_ne (mq_d (me_isi (me_var 0) T.f_isinstance T.f_tuple tyK_tuple (by decide +kernel))) (mq_d (me_isi (me_var 1) T.f_isinstance T.f_tuple tyK_tuple (by decide +kernel)))) (mw_or1 (mt_not (mt_val (me_isi2 (me_var 0) T.f_isinstance T.f_tuple T.f_list tyK_tuple tyK_list (by decide +kernel) (by decide +kernel))))))) (mss_one (ms_ret (me_bl))) (mss_nil)) (mss_cons (ms_if (mt_cmp (op_neD hu) s_ne (mq_d (me_blt call_len b_len (ma_r 0 (ma_nil)) T.f_len (by decide +kernel))) (mq_d (me_blt call_len b_len (ma_r 1 (ma_nil)) T.f_len (by decide +kernel)))) (mss_one (ms_ret (me_bl))) (mss_nil)) (mss_one (ms_ret (me_blt (cr_all rfl) b_all (ma_f (mo_lc sc.nd (own := [("one", 2), ("other", 3)]) (mi_zip (ma_d (me_var 0) (ma_d (me_var 1) (ma_nil))) T.f_zip) (show BlkOk ["came", "due", "one", "other"] (defScope (top 28)) _ _ from ⟨rfl, by decide +kernel, by decide +kernel, by decide +kernel, by decide +kernel⟩) (fun _ _ _ _ _ => mg_tup (mgs_cons (mg_name 2 sc.nd) (mgs_cons (mg_name 3 sc.nd) (mgs_nil))) (gCons_len (gCons_len (gNil_len)))) (fun _ _ _ _ _ => mts_nil) (fun _ _ _ _ _ => me_c (mc_call (K__law_is.mono (by first | decide | omega | exact Nat.le_refl _)) hr (ma_d (me_var 2) (ma_d (me_var 3) (ma_nil))) (hlen := len_d (len_d (len_nil)))))) (ma_nil)) T.f_all (by decide +kernel)))))) (mss_nil)) (mss_cons (ms_if (mw_mt (mw_or (mt_cmp op_isN s_isN (mq_r 1) (mq_d (me_non))) (mw_or1 (mt_val (me_isi (me_var 1) T.f_isinstance T.f_bool tyK_bool (by decide +kernel)))))) (mss_one (ms_ret (me_if (mt_cmp op_isN s_isN (mq_r 1) (mq_d (me_non))) (me_cmp op_isN s_isN (mq_r 0) (mq_d (me_non))) (me_and (me_isi (me_var 0) T.f_isinstance T.f_bool tyK_bool (by decide +kernel)) (me_one (me_cmp (op_eqD hu) s_eq (mq_d (me_blt cr_repr b_repr (ma_r 0 (ma_nil)) T.f_repr (by decide +kernel))) (mq_d (me_blt cr_repr b_repr (ma_r 1 (ma_nil)) T.f_repr (by decide +kernel))))))))) (mss_nil)) (mss_cons (ms_if (mt_val (me_isi (me_var 1) T.f_isinstance T.f_str tyK_str (by decide +kernel))) (mss_one (ms_ret (me_and (me_isi (me_var 0) T.f_isinstance T.f_str tyK_str (by decide +kernel)) (me_one (me_cmp (op_eqD hu) s_eq (mq_d (me_blt cr_repr b_repr (ma_r 0 (ma_nil)) T.f_repr (by decide +kernel))) (mq_d (me_blt cr_repr b_repr (ma_r 1 (ma_nil)) T.f_repr (by decide +kernel)))))))) (mss_nil)) (mss_one (ms_ret (me_and (me_isi (me_var 0) T.f_isinstance T.f_int tyK_int (by decide +kernel)) (me_and (me_not (me_isi (me_var 0) T.f_isinstance T.f_bool tyK_bool (by decide +kernel))) (me_one (me_cmp (op_eqD hu) s_eq (mq_d (me_blt cr_repr b_repr (ma_r 0 (ma_nil)) T.f_repr (by decide +kernel))) (mq_d (me_blt cr_repr b_repr (ma_r 1 (ma_nil)) T.f_repr (by decide +kernel)))))))))))
theorem w__law_is (T : Txt K mg) {fd : FuncData} (F : FunD K "_law_is" "_law_is" (defArgs (top 28)) (defBody (top 28)) (defScope (top 28)) [] [] (ga K "_law_is") fd) : Cal P w K mg base (cA K) 61 "_law_is" 2 F__law_is := wr__law_is T  F 60
theorem sc__law_signature : FnScope ["hand", "most", "many", "ranks", "turn", "found", "at", "rank", "word", "k"] ["hand", "most"] (defScope (top 29)) := ⟨rfl, rfl, rfl, by decide +kernel, rfl, by decide +kernel, by decide +kernel⟩
theorem w__law_signature (T : Txt K mg) (K__law_draw : Cal P w K mg base (cA K) 1 "_law_draw" 2 F__law_draw) (K__law_some : Cal P w K mg base (cA K) 2 "_law_some" 2 F__law_some) {fd : FuncData} (F : FunD K "_law_signature" "_law_signature" (defArgs (top 29)) (defBody (top 29)) (defScope (top 29)) [] [] (ga K "_law_signature") fd) : Cal P w K mg base (cA K) 3 "_law_signature" 2 F__law_signature :=
  calD F T.d__law_signature sc__law_signature (fun _ _ _ _ _ _ us hl => match us, hl with | [_, _], _ => rfl) fun cdv A outer s H E hr => by
    have hu := hr.units
    have hu1 := Nat.lt_of_le_of_lt (Nat.add_le_add_left (by decide : 1 ≤ 64) _) hu
    have sc := sc__law_signature
    exact mss_cons (ms_set 2 (me_op op_addD s_add (mq_d (me_int)) (mq_d (me_c (mc_call (K__law_draw.mono (by first | decide | omega | exact Nat.le_refl _)) hr (ma_r 0 (ma_d (me_op op_sub s_sub (mq_r 1) (mq_d (me_int))) (ma_nil))) (hlen := len_r (len_d (len_nil))))))) sc.nd) (mss_cons (ms_par 3 4 (ma_f (mo_op op_cat s_cat (mq_f (mo_lst (ma_d (me_int) (ma_nil)))) (mq_f (mo_lc sc.nd (own := [("k", 9)]) (mi_range1 (ma_d (me_op op_sub s_sub (mq_r 2) (mq_d (me_int))) (ma_nil)) T.f_range) (show BlkOk ["hand", "most", "many", "ranks", "turn", "found", "at", "rank", "word", "k"] (defScope (top 29)) _ _ from ⟨rfl, by decide +kernel, by decide +kernel, by decide +kernel, by decide +kernel⟩) (fun _ _ _ _ _ => mg_name 9 sc.nd) (fun _ _ _ _ _ => mts_nil) (fun _ _ _ _ _ => me_c (mc_call (K__law_some.mono (by first | decide | omega | exact Nat.le_refl _)) hr (ma_r 0 (ma_d (me_o (mo_lst (ma_d (me_int) (ma_d (me_int) (ma_d (me_int) (ma_d (me_int) (ma_d (me_int) (ma_nil)))))))) (ma_nil))) (hlen := len_r (len_d (len_nil)))))))) (ma_d (me_c (mc_call (K__law_draw.mono (by first | decide | omega | exact Nat.le_refl _)) hr (ma_r 0 (ma_d (me_var 2) (ma_nil))) (hlen := len_r (len_d (len_nil))))) (ma_nil))) sc.nd) (mss_cons (ms_setO 5 (mo_lst (ma_nil)) sc.nd) (mss_cons (ms_for (mi_enum (me_o (mo_op op_cat s_cat (mq_f (mo_slice sl_list s_slX (mq_r 3) (mpt_some (me_var 4)) (mpt_none))) (mq_f (mo_slice sl_list s_slX (mq_r 3) (mpt_none) (mpt_some (me_var 4)))))) T.f_enumerate) (mg_tup (mgs_cons (mg_name 6 sc.nd) (mgs_cons (mg_name 7 sc.nd) (mgs_nil))) (gCons_len (gCons_len (gNil_len)))) (mss_fg [2, 3, 4, 6, 7, 8, 9] (mss_cons (ms_set 8 (me_op op_addD s_add (mq_d (me_ix ix_seq s_ix (mq_d (me_str)) (mq_r 6))) (mq_d (me_join (me_str) (mq_f (mo_lc sc.nd (own := [("k", 9)]) (mi_range1 (ma_d (me_c (mc_call (K__law_draw.mono (by first | decide | omega | exact Nat.le_refl _)) hr (ma_r 0 (ma_d (me_int) (ma_nil))) (hlen := len_r (len_d (len_nil))))) (ma_nil)) T.f_range) (show BlkOk ["hand", "most", "many", "ranks", "turn", "found", "at", "rank", "word", "k"] (defScope (top 29)) _ _ from ⟨rfl, by decide +kernel, by decide +kernel, by decide +kernel, by decide +kernel⟩) (fun _ _ _ _ _ => mg_name 9 sc.nd) (fun _ _ _ _ _ => mts_nil) (fun _ _ _ _ _ => me_c (mc_call (K__law_some.mono (by first | decide | omega | exact Nat.le_refl _)) hr (ma_r 0 (ma_d (me_o (mo_bltT (cr_listA rfl) b_listA (ma_d (me_str) (ma_nil)) T.f_list (by decide +kernel))) (ma_nil))) (hlen := len_r (len_d (len_nil)))))))))) sc.nd) (mss_one (ms_expr (me_mt 5 PySem.F.slot_list_append PySem.F.type_list_append mt_append mts_app (ma_d (me_tup (ma_d (me_var 8) (ma_d (me_var 7) (ma_nil)))) (ma_nil)))))))) (mss_one (ms_ret (me_bltT MK.cr_tupOfZ b_tup (ma_r 5 (ma_nil)) T.f_tuple (by decide +kernel)))))))
theorem sc__law_tree : FnScope ["hand", "signature", "most", "pool", "sizes", "turn", "label", "rank", "ats", "size", "tree", "k", "at"] ["hand", "signature", "most"] (defScope (top 30)) := ⟨rfl, rfl, rfl, by decide +kernel, rfl, by decide +kernel, by decide +kernel⟩
theorem w__law_tree (T : Txt K mg) (K__law_some : Cal P w K mg base (cA K) 2 "_law_some" 2 F__law_some) (K__law_draw : Cal P w K mg base (cA K) 1 "_law_draw" 2 F__law_draw) {fd : FuncData} (F : FunD K "_law_tree" "_law_tree" (defArgs (top 30)) (defBody (top 30)) (defScope (top 30)) [] [] (ga K "_law_tree") fd) : Cal P w K mg base (cA K) 3 "_law_tree" 3 F__law_tree :=
  calD F T.d__law_tree sc__law_tree (fun _ _ _ _ _ _ us hl => match us, hl with | [_, _, _], _ => rfl) fun cdv A outer s H E hr => by
    have hu := hr.units
    have hu1 := Nat.lt_of_le_of_lt (Nat.add_le_add_left (by decide : 1 ≤ 64) _) hu
    have sc := sc__law_tree
    exact mss_cons (ms_setO 3 (mo_lc sc.nd (own := [("label", 6), ("rank", 7)]) (mi_any (me_var 1)) (show BlkOk ["hand", "signature", "most", "pool", "sizes", "turn", "label", "rank", "ats", "size", "tree", "k", "at"] (defScope (top 30)) _ _ from ⟨rfl, by decide +kernel, by decide +kernel, by decide +kernel, by decide +kernel⟩) (fun _ _ _ _ _ => mg_tup (mgs_cons (mg_name 6 sc.nd) (mgs_cons (mg_name 7 sc.nd) (mgs_nil))) (gCons_len (gCons_len (gNil_len)))) (fun _ _ _ _ _ => mts_one (mt_cmp (op_eqD hu) s_eq (mq_r 7) (mq_d (me_int)))) (fun _ _ _ _ _ => me_tup (ma_d (me_var 6) (ma_d (me_tup (ma_nil)) (ma_nil))))) sc.nd) (mss_cons (ms_setO 4 (mo_lcO 3 (own := [("tree", 10)]) sc.nd (show BlkOk ["hand", "signature", "most", "pool", "sizes", "turn", "label", "rank", "ats", "size", "tree", "k", "at"] (defScope (top 30)) _ _ from ⟨rfl, by decide +kernel, by decide +kernel, by decide +kernel, by decide +kernel⟩) (fun _ _ _ _ _ => mg_name 10 sc.nd) (fun _ _ _ _ _ => mts_nil) (fun _ _ _ _ _ => me_int)) sc.nd) (mss_cons (ms_for (mi_range1 (ma_d (me_int) (ma_nil)) T.f_range) (mg_name 5 sc.nd) (mss_fg [5, 6, 7, 8, 9, 10, 11, 12] (mss_cons (ms_asg (me_c (mc_call (K__law_some.mono (by first | decide | omega | exact Nat.le_refl _)) hr (ma_r 0 (ma_d (me_var 1) (ma_nil))) (hlen := len_r (len_d (len_nil))))) (mg_tup (mgs_cons (mg_name 6 sc.nd) (mgs_cons (mg_name 7 sc.nd) (mgs_nil))) (gCons_len (gCons_len (gNil_len))))) (mss_cons (ms_setLc 8 sc.nd (own := [("k", 11)]) (mi_range1 (ma_d (me_var 7) (ma_nil)) T.f_range) (show BlkOk ["hand", "signature", "most", "pool", "sizes", "turn", "label", "rank", "ats", "size", "tree", "k", "at"] (defScope (top 30)) _ _ from ⟨rfl, by decide +kernel, by decide +kernel, by decide +kernel, by decide +kernel⟩) (fun _ _ _ _ _ => mg_name 11 sc.nd) (fun _ _ _ _ _ => mts_nil) (fun _ _ _ _ _ => me_c (mc_call (K__law_draw.mono (by first | decide | omega | exact Nat.le_refl _)) hr (ma_r 0 (ma_d (me_blt call_len b_len (ma_r 3 (ma_nil)) T.f_len (by decide +kernel)) (ma_nil))) (hlen := len_r (len_d (len_nil)))))) (mss_cons (ms_set 9 (me_op op_addD s_add (mq_d (me_int)) (mq_d (me_blt (cr_sum rfl) b_sum (ma_f (mo_lc sc.nd (own := [("at", 12)]) (mi_any (me_var 8)) (show BlkOk ["hand", "signature", "most", "pool", "sizes", "turn", "label", "rank", "ats", "size", "tree", "k", "at"] (defScope (top 30)) _ _ from ⟨rfl, by decide +kernel, by decide +kernel, by decide +kernel, by decide +kernel⟩) (fun _ _ _ _ _ => mg_name 12 sc.nd) (fun _ _ _ _ _ => mts_nil) (fun _ _ _ _ _ => me_ix ix_seq s_ix (mq_r 4) (mq_r 12))) (ma_nil)) T.f_sum (by decide +kernel)))) sc.nd) (mss_one (ms_if (mw_mt (mw_and (mt_cmp op_gt s_gt (mq_r 7) (mq_d (me_int))) (mw_and1 (mt_cmp op_le s_le (mq_r 9) (mq_r 2))))) (mss_cons (ms_expr (me_mt 3 PySem.F.slot_list_append PySem.F.type_list_append mt_append mts_app (ma_d (me_tup (ma_d (me_var 6) (ma_d (me_bltT MK.cr_tupOfZ b_tup (ma_f (mo_lc sc.nd (own := [("at", 12)]) (mi_any (me_var 8)) (show BlkOk ["hand", "signature", "most", "pool", "sizes", "turn", "label", "rank", "ats", "size", "tree", "k", "at"] (defScope (top 30)) _ _ from ⟨rfl, by decide +kernel, by decide +kernel, by decide +kernel, by decide +kernel⟩) (fun _ _ _ _ _ => mg_name 12 sc.nd) (fun _ _ _ _ _ => mts_nil) (fun _ _ _ _ _ => me_ix ix_seq s_ix (mq_r 3) (mq_r 12))) (ma_nil)) T.f_tuple (by decide +kernel)) (ma_nil)))) (ma_nil)))) (mss_one (ms_expr (me_mt 4 PySem.F.slot_list_append PySem.F.type_list_append mt_append mts_app (ma_d (me_var 9) (ma_nil)))))) (mss_nil)))))))) (mss_one (ms_ret (me_ix ix_seq s_ix (mq_r 3) (mq_d (me_neg (me_int))))))))
theorem sc__law_nodes : FnScope ["tree", "part"] ["tree"] (defScope (top 31)) := ⟨rfl, rfl, rfl, by decide +kernel, rfl, by decide +kernel, by decide +kernel⟩
theorem wr__law_nodes (T : Txt K mg) {fd : FuncData} (F : FunD K "_law_nodes" "_law_nodes" (defArgs (top 31)) (defBody (top 31)) (defScope (top 31)) [] [] (ga K "_law_nodes") fd) : ∀ n : Nat, Cal P w K mg base (cA K) (1 + n) "_law_nodes" 1 (Fr__law_nodes n)
  | 0 => calBad F T.d__law_nodes sc__law_nodes (fun _ _ _ _ _ _ us hl => match us, hl with | [_], _ => rfl)
  | n + 1 => by
    have K__law_nodes := wr__law_nodes T  F n
    exact calD F T.d__law_nodes sc__law_nodes (fun _ _ _ _ _ _ us hl => match us, hl with | [_], _ => rfl) fun cdv A outer s H E hr => by
      have hu := hr.units
      have hu1 := Nat.lt_of_le_of_lt (Nat.add_le_add_left (by decide : 1 ≤ 64) _) hu
      have sc := sc__law_nodes
      exact mss_one (ms_ret (me_op op_addD s_add (mq_d (me_int)) (mq_d (me_blt (cr_sum rfl) b_sum (ma_f (mo_lc sc.nd (own := [("part", 1)]) (mi_any (me_ix ix_seq s_ix (mq_r 0) (mq_d (me_int)))) (show BlkOk ["tree", "part"] (defScope (top 31)) _ _ from ⟨rfl, by decide +kernel, by decide +kernel, by decide +kernel, by decide +kernel⟩) (fun _ _ _ _ _ => mg_name 1 sc.nd) (fun _ _ _ _ _ => mts_nil) (fun _ _ _ _ _ => me_c (mc_call (K__law_nodes.mono (by first | decide | omega | exact Nat.le_refl _)) hr (ma_d (me_var 1) (ma_nil)) (hlen := len_d (len_nil))))) (ma_nil)) T.f_sum (by decide +kernel)))))
theorem w__law_nodes (T : Txt K mg) {fd : FuncData} (F : FunD K "_law_nodes" "_law_nodes" (defArgs (top 31)) (defBody (top 31)) (defScope (top 31)) [] [] (ga K "_law_nodes") fd) : Cal P w K mg base (cA K) 41 "_law_nodes" 1 F__law_nodes := wr__law_nodes T  F 40
theorem sc__law_trees : FnScope ["signature", "most", "rows", "size", "found", "label", "rank", "first", "part", "row", "other"] ["signature", "most"] (defScope (top 32)) := ⟨rfl, rfl, rfl, by decide +kernel, rfl, by decide +kernel, by decide +kernel⟩
theorem w__law_trees (T : Txt K mg) {fd : FuncData} (F : FunD K "_law_trees" "_law_trees" (defArgs (top 32)) (defBody (top 32)) (defScope (top 32)) [] [] (ga K "_law_trees") fd) : Cal P w K mg base (cA K) 1 "_law_trees" 2 F__law_trees :=
  calD F T.d__law_trees sc__law_trees (fun _ _ _ _ _ _ us hl => match us, hl with | [_, _], _ => rfl) fun cdv A outer s H E hr => by
    have hu := hr.units
    have hu1 := Nat.lt_of_le_of_lt (Nat.add_le_add_left (by decide : 1 ≤ 64) _) hu
    have sc := sc__law_trees
    exact mss_cons (ms_setO 2 (mo_lst (ma_d (me_o (mo_lst (ma_nil))) (ma_d (me_o (mo_blt (MK.cr_sortD hu) b_sortD (ma_f (mo_lc sc.nd (own := [("label", 5), ("rank", 6)]) (mi_any (me_var 0)) (show BlkOk ["signature", "most", "rows", "size", "found", "label", "rank", "first", "part", "row", "other"] (defScope (top 32)) _ _ from ⟨rfl, by decide +kernel, by decide +kernel, by decide +kernel, by decide +kernel⟩) (fun _ _ _ _ _ => mg_tup (mgs_cons (mg_name 5 sc.nd) (mgs_cons (mg_name 6 sc.nd) (mgs_nil))) (gCons_len (gCons_len (gNil_len)))) (fun _ _ _ _ _ => mts_one (mt_cmp (op_eqD hu) s_eq (mq_r 6) (mq_d (me_int)))) (fun _ _ _ _ _ => me_tup (ma_d (me_var 5) (ma_d (me_tup (ma_nil)) (ma_nil))))) (ma_nil)) T.f_sorted (by decide +kernel))) (ma_nil)))) sc.nd) (mss_cons (ms_for (mi_range2 (ma_d (me_int) (ma_d (me_op op_addD s_add (mq_r 1) (mq_d (me_int))) (ma_nil))) T.f_range) (mg_name 3 sc.nd) (mss_fg [3, 4, 5, 6, 7, 8, 9, 10] (mss_cons (ms_setO 4 (mo_lst (ma_nil)) sc.nd) (mss_cons (ms_for (mi_any (me_var 0)) (mg_tup (mgs_cons (mg_name 5 sc.nd) (mgs_cons (mg_name 6 sc.nd) (mgs_nil))) (gCons_len (gCons_len (gNil_len)))) (mss_fg [5, 6, 7, 8, 9, 10] (mss_cons (ms_if (mt_cmp (op_eqD hu) s_eq (mq_r 6) (mq_d (me_int))) (mss_one (ms_setO 4 (mo_op op_cat s_cat (mq_r 4) (mq_f (mo_lc sc.nd (own := [("part", 8)]) (mi_any (me_ix ix_seq s_ix (mq_r 2) (mq_d (me_op op_sub s_sub (mq_r 3) (mq_d (me_int)))))) (show BlkOk ["signature", "most", "rows", "size", "found", "label", "rank", "first", "part", "row", "other"] (defScope (top 32)) _ _ from ⟨rfl, by decide +kernel, by decide +kernel, by decide +kernel, by decide +kernel⟩) (fun _ _ _ _ _ => mg_name 8 sc.nd) (fun _ _ _ _ _ => mts_nil) (fun _ _ _ _ _ => me_tup (ma_d (me_var 5) (ma_d (me_tup (ma_d (me_var 8) (ma_nil))) (ma_nil))))))) sc.nd)) (mss_nil)) (mss_one (ms_for (mi_range2 (ma_d (me_int) (ma_d (me_op op_sub s_sub (mq_r 3) (mq_d (me_int))) (ma_nil))) T.f_range) (mg_name 7 sc.nd) (mss_fg [7, 8, 9, 10] (mss_one (ms_for (mi_any (me_if (mt_cmp (op_eqD hu) s_eq (mq_r 6) (mq_d (me_int))) (me_ix ix_seq s_ix (mq_r 2) (mq_r 7)) (me_o (mo_lst (ma_nil))))) (mg_name 8 sc.nd) (mss_fg [8, 9, 10] (mss_one (ms_setO 4 (mo_op op_cat s_cat (mq_r 4) (mq_f (mo_lc sc.nd (own := [("other", 10)]) (mi_any (me_ix ix_seq s_ix (mq_r 2) (mq_d (me_op op_sub s_sub (mq_d (me_op op_sub s_sub (mq_r 3) (mq_d (me_int)))) (mq_r 7))))) (show BlkOk ["signature", "most", "rows", "size", "found", "label", "rank", "first", "part", "row", "other"] (defScope (top 32)) _ _ from ⟨rfl, by decide +kernel, by decide +kernel, by decide +kernel, by decide +kernel⟩) (fun _ _ _ _ _ => mg_name 10 sc.nd) (fun _ _ _ _ _ => mts_nil) (fun _ _ _ _ _ => me_tup (ma_d (me_var 5) (ma_d (me_tup (ma_d (me_var 8) (ma_d (me_var 10) (ma_nil)))) (ma_nil))))))) sc.nd))))))))))) (mss_one (ms_expr (me_mt 2 PySem.F.slot_list_append PySem.F.type_list_append mt_append mts_app (ma_d (me_o (mo_blt (MK.cr_sortD hu) b_sortD (ma_r 4 (ma_nil)) T.f_sorted (by decide +kernel))) (ma_nil))))))))) (mss_cons (ms_setO 4 (mo_lst (ma_nil)) sc.nd) (mss_cons (ms_for (mi_any (me_var 2)) (mg_name 9 sc.nd) (mss_fg [2, 3, 5, 6, 7, 8, 9, 10] (mss_one (ms_setO 4 (mo_op op_cat s_cat (mq_r 4) (mq_r 9)) sc.nd)))) (mss_one (ms_retV 4)))))
theorem sc__law_said : FnScope ["call"] ["call"] (defScope (top 33)) := ⟨rfl, rfl, rfl, by decide +kernel, rfl, by decide +kernel, by decide +kernel⟩
theorem sc__law_is_pair_right : FnScope ["signature", "one", "other", "due"] ["signature", "one", "other"] (defScope (top 34)) := ⟨rfl, rfl, rfl, by decide +kernel, rfl, by decide +kernel, by decide +kernel⟩
theorem w__law_is_pair_right (T : Txt K mg) (K__law_is : Cal P w K mg base (cA K) 61 "_law_is" 2 F__law_is) (K__law_nodes : Cal P w K mg base (cA K) 41 "_law_nodes" 1 F__law_nodes) (K_is_ahead : Cal P w K mg base (cA K) 6 "is_ahead" 3 F_is_ahead) {fd : FuncData} (F : FunD K "_law_is_pair_right" "_law_is_pair_right" (defArgs (top 34)) (defBody (top 34)) (defScope (top 34)) [] [] (ga K "_law_is_pair_right") fd) : Cal P w K mg base (cA K) 62 "_law_is_pair_right" 3 F__law_is_pair_right :=
  calD F T.d__law_is_pair_right sc__law_is_pair_right (fun _ _ _ _ _ _ us hl => match us, hl with | [_, _, _], _ => rfl) fun cdv A outer s H E hr => by
    have hu := hr.units
    have hu1 := Nat.lt_of_le_of_lt (Nat.add_le_add_left (by decide : 1 ≤ 64) _) hu
    have sc := sc__law_is_pair_right
    exact mss_cons (ms_set 3 (me_cmp (MK.op_ltD hu) s_ltD (mq_d (me_tup (ma_d (me_c (mc_call (K__law_nodes.mono (by first | decide | omega | exact Nat.le_refl _)) hr (ma_d (me_var 1) (ma_nil)) (hlen := len_d (len_nil)))) (ma_d (me_var 1) (ma_nil))))) (mq_d (me_tup (ma_d (me_c (mc_call (K__law_nodes.mono (by first | decide | omega | exact Nat.le_refl _)) hr (ma_d (me_var 2) (ma_nil)) (hlen := len_d (len_nil)))) (ma_d (me_var 2) (ma_nil)))))) sc.nd) (mss_cons (ms_if (mt_not (mt_val (me_c (mc_call (K__law_is.mono (by first | decide | omega | exact Nat.le_refl _)) hr (ma_d (me_o (mo_lst (ma_d (me_c (mc_call (K_is_ahead.mono (by first | decide | omega | exact Nat.le_refl _)) hr (ma_d (me_var 0) (ma_d (me_var 1) (ma_d (me_var 2) (ma_nil)))) (hlen := len_d (len_d (len_d (len_nil)))))) (ma_d (me_c (mc_call (K_is_ahead.mono (by first | decide | omega | exact Nat.le_refl _)) hr (ma_d (me_var 0) (ma_d (me_var 1) (ma_d (me_var 1) (ma_nil)))) (hlen := len_d (len_d (len_d (len_nil)))))) (ma_nil))))) (ma_d (me_o (mo_lst (ma_d (me_var 3) (ma_d (me_bl) (ma_nil))))) (ma_nil))) (hlen := len_d (len_d (len_nil))))))) (mss_one (ms_ret (me_bl))) (mss_nil)) (mss_one (ms_ret (me_or (me_cmp (op_eqD hu) s_eq (mq_r 1) (mq_r 2)) (me_one (me_c (mc_call (K__law_is.mono (by first | decide | omega | exact Nat.le_refl _)) hr (ma_d (me_c (mc_call (K_is_ahead.mono (by first | decide | omega | exact Nat.le_refl _)) hr (ma_d (me_var 0) (ma_d (me_var 2) (ma_d (me_var 1) (ma_nil)))) (hlen := len_d (len_d (len_d (len_nil)))))) (ma_d (me_not (me_var 3)) (ma_nil))) (hlen := len_d (len_d (len_nil))))))))))
theorem sc__law_is_row_right : FnScope ["hand", "signature", "row", "due", "turn", "some", "tree"] ["hand", "signature", "row"] (defScope (top 35)) := ⟨rfl, rfl, rfl, by decide +kernel, rfl, by decide +kernel, by decide +kernel⟩
theorem w__law_is_row_right (T : Txt K mg) (K__law_draw : Cal P w K mg base (cA K) 1 "_law_draw" 2 F__law_draw) (K__law_is : Cal P w K mg base (cA K) 61 "_law_is" 2 F__law_is) (K_least_of : Cal P w K mg base (cA K) 5 "least_of" 2 F_least_of) (K__law_nodes : Cal P w K mg base (cA K) 41 "_law_nodes" 1 F__law_nodes) {fd : FuncData} (F : FunD K "_law_is_row_right" "_law_is_row_right" (defArgs (top 35)) (defBody (top 35)) (defScope (top 35)) [] [] (ga K "_law_is_row_right") fd) : Cal P w K mg base (cA K) 62 "_law_is_row_right" 3 F__law_is_row_right :=
  calD F T.d__law_is_row_right sc__law_is_row_right (fun _ _ _ _ _ _ us hl => match us, hl with | [_, _, _], _ => rfl) fun cdv A outer s H E hr => by
    have hu := hr.units
    have hu1 := Nat.lt_of_le_of_lt (Nat.add_le_add_left (by decide : 1 ≤ 64) _) hu
    have sc := sc__law_is_row_right
    exact mss_cons (ms_set 3 (me_ix ix_seq s_ix (mq_d (me_blt (MK.cr_minD rfl hu) b_minD (ma_f (mo_lc sc.nd (own := [("tree", 6)]) (mi_any (me_var 2)) (show BlkOk ["hand", "signature", "row", "due", "turn", "some", "tree"] (defScope (top 35)) _ _ from ⟨rfl, by decide +kernel, by decide +kernel, by decide +kernel, by decide +kernel⟩) (fun _ _ _ _ _ => mg_name 6 sc.nd) (fun _ _ _ _ _ => mts_nil) (fun _ _ _ _ _ => me_tup (ma_d (me_c (mc_call (K__law_nodes.mono (by first | decide | omega | exact Nat.le_refl _)) hr (ma_d (me_var 6) (ma_nil)) (hlen := len_d (len_nil)))) (ma_d (me_var 6) (ma_nil))))) (ma_nil)) T.f_min (by decide +kernel))) (mq_d (me_int))) sc.nd) (mss_cons (ms_set 4 (me_c (mc_call (K__law_draw.mono (by first | decide | omega | exact Nat.le_refl _)) hr (ma_r 0 (ma_d (me_blt call_len b_len (ma_r 2 (ma_nil)) T.f_len (by decide +kernel)) (ma_nil))) (hlen := len_r (len_d (len_nil))))) sc.nd) (mss_cons (ms_for (mi_any (me_o (mo_lst (ma_d (me_var 2) (ma_d (me_o (mo_revQ (mq_r 2))) (ma_d (me_o (mo_op op_cat s_cat (mq_f (mo_slice sl_list s_slX (mq_r 2) (mpt_some (me_var 4)) (mpt_none))) (mq_f (mo_slice sl_list s_slX (mq_r 2) (mpt_none) (mpt_some (me_var 4)))))) (ma_nil))))))) (mg_name 5 sc.nd) (mss_fg [4, 5, 6] (mss_one (ms_if (mt_not (mt_val (me_c (mc_call (K__law_is.mono (by first | decide | omega | exact Nat.le_refl _)) hr (ma_d (me_c (mc_call (K_least_of.mono (by first | decide | omega | exact Nat.le_refl _)) hr (ma_d (me_var 1) (ma_d (me_bltT MK.cr_tupOfZ b_tup (ma_r 5 (ma_nil)) T.f_tuple (by decide +kernel)) (ma_nil))) (hlen := len_d (len_d (len_nil))))) (ma_d (me_var 3) (ma_nil))) (hlen := len_d (len_d (len_nil))))))) (mss_one (ms_ret (me_bl))) (mss_nil))))) (mss_one (ms_ret (me_bl)))))
theorem sc__law_are_refused : FnScope ["hand", "signature", "tree", "bad", "odd", "words"] ["hand", "signature", "tree"] (defScope (top 36)) := ⟨rfl, rfl, rfl, by decide +kernel, rfl, by decide +kernel, by decide +kernel⟩
theorem w__law_are_refused (T : Txt K mg) {fds : FuncData} (D__law_said : FunD K "_law_said" "_law_said" (defArgs (top 33)) (defBody (top 33)) (defScope (top 33)) [] [] (ga K "_law_said") fds) (TB : TabB base mg (cT K ("_law_are_refused", none)).1 (cT K ("_law_are_refused", none)).2) (K__law_is : Cal P w K mg base (cA K) 61 "_law_is" 2 F__law_is) (K__law_some : Cal P w K mg base (cA K) 2 "_law_some" 2 F__law_some) (K_is_ahead : Cal P w K mg base (cA K) 6 "is_ahead" 3 F_is_ahead) (K_least_of : Cal P w K mg base (cA K) 5 "least_of" 2 F_least_of) {fd : FuncData} (F : FunD K "_law_are_refused" "_law_are_refused" (defArgs (top 36)) (defBody (top 36)) (defScope (top 36)) [] [] (ga K "_law_are_refused") fd) : Cal P w K mg base (cA K) 62 "_law_are_refused" 3 F__law_are_refused :=
  calDc F T.d__law_are_refused sc__law_are_refused (fun _ _ _ _ _ _ us hl => match us, hl with | [_, _, _], _ => rfl) ("_law_are_refused", none) rfl fun cdv hcdv A outer s H E hr => by
    subst hcdv
    have hu := hr.units
    have hu1 := Nat.lt_of_le_of_lt (Nat.add_le_add_left (by decide : 1 ≤ 64) _) hu
    have sc := sc__law_are_refused
    exact mss_cons (ms_asg (me_tup (ma_d (me_c (mc_call (K__law_some.mono (by first | decide | omega | exact Nat.le_refl _)) hr (ma_r 0 (ma_d (me_o (mo_lst (ma_d (me_non) (ma_d (me_tup (ma_nil)) (ma_d (me_o (mo_bltT (cr_listA rfl) b_listA (ma_r 1 (ma_nil)) T.f_list (by decide +kernel))) (ma_nil)))))) (ma_nil))) (hlen := len_r (len_d (len_nil))))) (ma_d (me_c (mc_call (K__law_some.mono (by first | decide | omega | exact Nat.le_refl _)) hr (ma_r 0 (ma_d (me_o (mo_lst (ma_d (me_non) (ma_d (me_tup (ma_nil)) (ma_d (me_tup (ma_d (me_str) (ma_nil))) (ma_d (me_o (mo_lst (ma_d (me_var 2) (ma_nil)))) (ma_d (me_tup (ma_d (me_var 2) (ma_nil))) (ma_nil)))))))) (ma_nil))) (hlen := len_r (len_d (len_nil))))) (ma_nil)))) (mg_tup (mgs_cons (mg_name 3 sc.nd) (mgs_cons (mg_name 4 sc.nd) (mgs_nil))) (gCons_len (gCons_len (gNil_len))))) (mss_cons (ms_setO 5 (mo_lst (ma_d (me_said (l := [((.ref (ga K "NoSignature") : Value), ("signature" : Str)), ((.ref (ga K "NoTree") : Value), ("tree" : Str)), ((.ref (ga K "ShapeError") : Value), ("refused" : Str))]) (k := 6) (saidD T.d__law_said D__law_said sc__law_said (fun _ _ _ _ _ _ us hl => match us, hl with | [_], _ => rfl)) gvT_id gvW_lst (pk__law_said_ok T) (fun _ _ => gives_A (.cons T.a_NoSignature (.cons T.a_NoTree (.cons T.a_ShapeError .nil))) (by decide) (fun _ => rfl)) TB rfl List.mem_cons_self (fun p hp _ => by rw [List.mem_singleton.mp hp]; rfl) (hr.mono (by first | decide | omega | exact Nat.le_refl _)) (lamS_by (sc := defScope (top 36)) (by decide +kernel)) (fun A2 o2 s2 H2 E2 f2 c2 hr => by have hu := hr.units; have hu1 := Nat.lt_of_le_of_lt (Nat.add_le_add_left (by decide : 1 ≤ 64) _) hu; exact me_c (mc_call (K_is_ahead.mono (by first | decide | omega | exact Nat.le_refl _)) hr (ma_d (me_var 3) (ma_d (me_var 4) (ma_d (me_var 4) (ma_nil)))) (hlen := len_d (len_d (len_d (len_nil))))))) (ma_nil))) sc.nd) (mss_cons (ms_expr (me_mt 5 PySem.F.slot_list_append PySem.F.type_list_append mt_append mts_app (ma_d (me_said (l := [((.ref (ga K "NoSignature") : Value), ("signature" : Str)), ((.ref (ga K "NoTree") : Value), ("tree" : Str)), ((.ref (ga K "ShapeError") : Value), ("refused" : Str))]) (k := 6) (saidD T.d__law_said D__law_said sc__law_said (fun _ _ _ _ _ _ us hl => match us, hl with | [_], _ => rfl)) gvT_id gvW_lst (pk__law_said_ok T) (fun _ _ => gives_A (.cons T.a_NoSignature (.cons T.a_NoTree (.cons T.a_ShapeError .nil))) (by decide) (fun _ => rfl)) TB rfl List.mem_cons_self (fun p hp _ => by rw [List.mem_singleton.mp hp]; rfl) (hr.mono (by first | decide | omega | exact Nat.le_refl _)) (lamS_by (sc := defScope (top 36)) (by decide +kernel)) (fun A2 o2 s2 H2 E2 f2 c2 hr => by have hu := hr.units; have hu1 := Nat.lt_of_le_of_lt (Nat.add_le_add_left (by decide : 1 ≤ 64) _) hu; exact me_c (mc_call (K_is_ahead.mono (by first | decide | omega | exact Nat.le_refl _)) hr (ma_d (me_var 1) (ma_d (me_var 4) (ma_d (me_var 2) (ma_nil)))) (hlen := len_d (len_d (len_d (len_nil))))))) (ma_nil)))) (mss_cons (ms_expr (me_mt 5 PySem.F.slot_list_append PySem.F.type_list_append mt_append mts_app (ma_d (me_said (l := [((.ref (ga K "NoSignature") : Value), ("signature" : Str)), ((.ref (ga K "NoTree") : Value), ("tree" : Str)), ((.ref (ga K "ShapeError") : Value), ("refused" : Str))]) (k := 6) (saidD T.d__law_said D__law_said sc__law_said (fun _ _ _ _ _ _ us hl => match us, hl with | [_], _ => rfl)) gvT_id gvW_lst (pk__law_said_ok T) (fun _ _ => gives_A (.cons T.a_NoSignature (.cons T.a_NoTree (.cons T.a_ShapeError .nil))) (by decide) (fun _ => rfl)) TB rfl List.mem_cons_self (fun p hp _ => by rw [List.mem_singleton.mp hp]; rfl) (hr.mono (by first | decide | omega | exact Nat.le_refl _)) (lamS_by (sc := defScope (top 36)) (by decide +kernel)) (fun A2 o2 s2 H2 E2 f2 c2 hr => by have hu := hr.units; have hu1 := Nat.lt_of_le_of_lt (Nat.add_le_add_left (by decide : 1 ≤ 64) _) hu; exact me_c (mc_call (K_is_ahead.mono (by first | decide | omega | exact Nat.le_refl _)) hr (ma_d (me_var 1) (ma_d (me_var 2) (ma_d (me_var 4) (ma_nil)))) (hlen := len_d (len_d (len_d (len_nil))))))) (ma_nil)))) (mss_cons (ms_expr (me_mt 5 PySem.F.slot_list_append PySem.F.type_list_append mt_append mts_app (ma_d (me_said (l := [((.ref (ga K "NoSignature") : Value), ("signature" : Str)), ((.ref (ga K "NoTree") : Value), ("tree" : Str)), ((.ref (ga K "ShapeError") : Value), ("refused" : Str))]) (k := 6) (saidD T.d__law_said D__law_said sc__law_said (fun _ _ _ _ _ _ us hl => match us, hl with | [_], _ => rfl)) gvT_id gvW_lst (pk__law_said_ok T) (fun _ _ => gives_A (.cons T.a_NoSignature (.cons T.a_NoTree (.cons T.a_ShapeError .nil))) (by decide) (fun _ => rfl)) TB rfl List.mem_cons_self (fun p hp _ => by rw [List.mem_singleton.mp hp]; rfl) (hr.mono (by first | decide | omega | exact Nat.le_refl _)) (lamS_by (sc := defScope (top 36)) (by decide +kernel)) (fun A2 o2 s2 H2 E2 f2 c2 hr => by have hu := hr.units; have hu1 := Nat.lt_of_le_of_lt (Nat.add_le_add_left (by decide : 1 ≤ 64) _) hu; exact me_c (mc_call (K_least_of.mono (by first | decide | omega | exact Nat.le_refl _)) hr (ma_d (me_var 3) (ma_d (me_tup (ma_d (me_var 4) (ma_nil))) (ma_nil))) (hlen := len_d (len_d (len_nil)))))) (ma_nil)))) (mss_cons (ms_expr (me_mt 5 PySem.F.slot_list_append PySem.F.type_list_append mt_append mts_app (ma_d (me_said (l := [((.ref (ga K "NoSignature") : Value), ("signature" : Str)), ((.ref (ga K "NoTree") : Value), ("tree" : Str)), ((.ref (ga K "ShapeError") : Value), ("refused" : Str))]) (k := 6) (saidD T.d__law_said D__law_said sc__law_said (fun _ _ _ _ _ _ us hl => match us, hl with | [_], _ => rfl)) gvT_id gvW_lst (pk__law_said_ok T) (fun _ _ => gives_A (.cons T.a_NoSignature (.cons T.a_NoTree (.cons T.a_ShapeError .nil))) (by decide) (fun _ => rfl)) TB rfl List.mem_cons_self (fun p hp _ => by rw [List.mem_singleton.mp hp]; rfl) (hr.mono (by first | decide | omega | exact Nat.le_refl _)) (lamS_by (sc := defScope (top 36)) (by decide +kernel)) (fun A2 o2 s2 H2 E2 f2 c2 hr => by have hu := hr.units; have hu1 := Nat.lt_of_le_of_lt (Nat.add_le_add_left (by decide : 1 ≤ 64) _) hu; exact me_c (mc_call (K_least_of.mono (by first | decide | omega | exact Nat.le_refl _)) hr (ma_d (me_var 1) (ma_d (me_tup (ma_d (me_var 2) (ma_d (me_var 4) (ma_nil)))) (ma_nil))) (hlen := len_d (len_d (len_nil)))))) (ma_nil)))) (mss_cons (ms_expr (me_mt 5 PySem.F.slot_list_append PySem.F.type_list_append mt_append mts_app (ma_d (me_said (l := [((.ref (ga K "NoSignature") : Value), ("signature" : Str)), ((.ref (ga K "NoTree") : Value), ("tree" : Str)), ((.ref (ga K "ShapeError") : Value), ("refused" : Str))]) (k := 6) (saidD T.d__law_said D__law_said sc__law_said (fun _ _ _ _ _ _ us hl => match us, hl with | [_], _ => rfl)) gvT_id gvW_lst (pk__law_said_ok T) (fun _ _ => gives_A (.cons T.a_NoSignature (.cons T.a_NoTree (.cons T.a_ShapeError .nil))) (by decide) (fun _ => rfl)) TB rfl List.mem_cons_self (fun p hp _ => by rw [List.mem_singleton.mp hp]; rfl) (hr.mono (by first | decide | omega | exact Nat.le_refl _)) (lamS_by (sc := defScope (top 36)) (by decide +kernel)) (fun A2 o2 s2 H2 E2 f2 c2 hr => by have hu := hr.units; have hu1 := Nat.lt_of_le_of_lt (Nat.add_le_add_left (by decide : 1 ≤ 64) _) hu; exact me_c (mc_call (K_least_of.mono (by first | decide | omega | exact Nat.le_refl _)) hr (ma_d (me_var 1) (ma_d (me_tup (ma_d (me_var 4) (ma_d (me_var 2) (ma_nil)))) (ma_nil))) (hlen := len_d (len_d (len_nil)))))) (ma_nil)))) (mss_one (ms_ret (me_c (mc_call (K__law_is.mono (by first | decide | omega | exact Nat.le_refl _)) hr (ma_d (me_var 5) (ma_d (me_o (mo_lst (ma_d (me_o (mo_lst (ma_d (me_str) (ma_nil)))) (ma_d (me_o (mo_lst (ma_d (me_str) (ma_nil)))) (ma_d (me_o (mo_lst (ma_d (me_str) (ma_nil)))) (ma_d (me_o (mo_lst (ma_d (me_str) (ma_nil)))) (ma_d (me_o (mo_lst (ma_d (me_str) (ma_nil)))) (ma_d (me_o (mo_lst (ma_d (me_str) (ma_nil)))) (ma_nil))))))))) (ma_nil))) (hlen := len_d (len_d (len_nil)))))))))))))
theorem sc_law : FnScope ["script", "hand", "turn", "signature", "listed", "drawn", "again", "at", "some", "row", "k"] ["script"] (defScope (top 37)) := ⟨rfl, rfl, rfl, by decide +kernel, rfl, by decide +kernel, by decide +kernel⟩
theorem fok_law (T : Txt K mg) (K__law_hand : Cal P w K mg base (cA K) 1 "_law_hand" 1 F__law_hand) (K__law_signature : Cal P w K mg base (cA K) 3 "_law_signature" 2 F__law_signature) (K__law_trees : Cal P w K mg base (cA K) 1 "_law_trees" 2 F__law_trees) (K__law_tree : Cal P w K mg base (cA K) 3 "_law_tree" 3 F__law_tree) (K__law_draw : Cal P w K mg base (cA K) 1 "_law_draw" 2 F__law_draw) (K__law_are_refused : Cal P w K mg base (cA K) 62 "_law_are_refused" 3 F__law_are_refused) (K__law_is_pair_right : Cal P w K mg base (cA K) 62 "_law_is_pair_right" 3 F__law_is_pair_right) (K__law_is_row_right : Cal P w K mg base (cA K) 62 "_law_is_row_right" 3 F__law_is_row_right) (K__law_some : Cal P w K mg base (cA K) 2 "_law_some" 2 F__law_some) (K__law_is : Cal P w K mg base (cA K) 61 "_law_is" 2 F__law_is) (K_is_ahead : Cal P w K mg base (cA K) 6 "is_ahead" 3 F_is_ahead) {fd : FuncData} (F : FunD K "law" "law" (defArgs (top 37)) (defBody (top 37)) (defScope (top 37)) [] [] (ga K "law") fd) : FnOk P w K mg base (L2.CX P w) 63 (ga K "law") fd ["script"] (spM K (cA K) 1 F_law) :=
  fnMD F sc_law (by decide) fun cdv A outer s H E hr => by
    have hu := hr.units
    have hu1 := Nat.lt_of_le_of_lt (Nat.add_le_add_left (by decide : 1 ≤ 64) _) hu
    have sc := sc_law
    exact mss_cons (ms_setO 1 (mo_c (mc_call (K__law_hand.mono (by first | decide | omega | exact Nat.le_refl _)) hr (ma_r 0 (ma_nil)) (hlen := len_r (len_nil)))) sc.nd) (mss_cons (ms_for (mi_range1 (ma_d (me_int) (ma_nil)) T.f_range) (mg_name 2 sc.nd) (mss_fg [2, 3, 4, 5, 6, 7, 8, 9, 10] (mss_cons (ms_set 3 (me_c (mc_call (K__law_signature.mono (by first | decide | omega | exact Nat.le_refl _)) hr (ma_r 1 (ma_d (me_int) (ma_nil))) (hlen := len_r (len_d (len_nil))))) sc.nd) (mss_cons (ms_set 4 (me_c (mc_call (K__law_trees.mono (by first | decide | omega | exact Nat.le_refl _)) hr (ma_d (me_var 3) (ma_d (me_int) (ma_nil))) (hlen := len_d (len_d (len_nil))))) sc.nd) (mss_cons (ms_setLc 5 sc.nd (own := [("k", 10)]) (mi_range1 (ma_d (me_int) (ma_nil)) T.f_range) (show BlkOk ["script", "hand", "turn", "signature", "listed", "drawn", "again", "at", "some", "row", "k"] (defScope (top 37)) _ _ from ⟨rfl, by decide +kernel, by decide +kernel, by decide +kernel, by decide +kernel⟩) (fun _ _ _ _ _ => mg_name 10 sc.nd) (fun _ _ _ _ _ => mts_nil) (fun _ _ _ _ _ => me_c (mc_call (K__law_tree.mono (by first | decide | omega | exact Nat.le_refl _)) hr (ma_r 1 (ma_d (me_var 3) (ma_d (me_int) (ma_nil)))) (hlen := len_r (len_d (len_d (len_nil))))))) (mss_cons (ms_for (mi_range1 (ma_d (me_int) (ma_nil)) T.f_range) (mg_name 6 sc.nd) (mss_fg [2, 6, 7, 8, 9, 10] (mss_cons (ms_set 7 (me_c (mc_call (K__law_draw.mono (by first | decide | omega | exact Nat.le_refl _)) hr (ma_r 1 (ma_d (me_blt call_len b_len (ma_r 4 (ma_nil)) T.f_len (by decide +kernel)) (ma_nil))) (hlen := len_r (len_d (len_nil))))) sc.nd) (mss_cons (ms_set 8 (me_o (mo_op op_cat s_cat (mq_r 5) (mq_f (mo_slice sl_list s_slX (mq_r 4) (mpt_some (me_var 7)) (mpt_some (me_op op_addD s_add (mq_r 7) (mq_d (me_int)))))))) sc.nd) (mss_cons (ms_if (mt_not (mt_val (me_c (mc_call (K__law_is_pair_right.mono (by first | decide | omega | exact Nat.le_refl _)) hr (ma_d (me_var 3) (ma_d (me_c (mc_call (K__law_some.mono (by first | decide | omega | exact Nat.le_refl _)) hr (ma_r 1 (ma_d (me_var 8) (ma_nil))) (hlen := len_r (len_d (len_nil))))) (ma_d (me_c (mc_call (K__law_some.mono (by first | decide | omega | exact Nat.le_refl _)) hr (ma_r 1 (ma_d (me_var 8) (ma_nil))) (hlen := len_r (len_d (len_nil))))) (ma_nil)))) (hlen := len_d (len_d (len_d (len_nil)))))))) (mss_one (ms_ret (me_bl))) (mss_nil)) (mss_one (ms_if (mt_cmp op_lt s_lt (mq_d (me_op op_addD s_add (mq_r 7) (mq_d (me_int)))) (mq_d (me_blt call_len b_len (ma_r 4 (ma_nil)) T.f_len (by decide +kernel)))) (mss_one (ms_if (mt_not (mt_val (me_c (mc_call (K__law_is.mono (by first | decide | omega | exact Nat.le_refl _)) hr (ma_d (me_c (mc_call (K_is_ahead.mono (by first | decide | omega | exact Nat.le_refl _)) hr (ma_d (me_var 3) (ma_d (me_ix ix_seq s_ix (mq_r 4) (mq_r 7)) (ma_d (me_ix ix_seq s_ix (mq_r 4) (mq_d (me_op op_addD s_add (mq_r 7) (mq_d (me_int))))) (ma_nil)))) (hlen := len_d (len_d (len_d (len_nil)))))) (ma_d (me_bl) (ma_nil))) (hlen := len_d (len_d (len_nil))))))) (mss_one (ms_ret (me_bl))) (mss_nil))) (mss_nil)))))))) (mss_cons (ms_set 9 (me_o (mo_op op_cat s_cat (mq_f (mo_op op_cat s_cat (mq_r 5) (mq_f (mo_lc sc.nd (own := [("k", 10)]) (mi_range1 (ma_d (me_int) (ma_nil)) T.f_range) (show BlkOk ["script", "hand", "turn", "signature", "listed", "drawn", "again", "at", "some", "row", "k"] (defScope (top 37)) _ _ from ⟨rfl, by decide +kernel, by decide +kernel, by decide +kernel, by decide +kernel⟩) (fun _ _ _ _ _ => mg_name 10 sc.nd) (fun _ _ _ _ _ => mts_nil) (fun _ _ _ _ _ => me_c (mc_call (K__law_some.mono (by first | decide | omega | exact Nat.le_refl _)) hr (ma_r 1 (ma_d (me_var 4) (ma_nil))) (hlen := len_r (len_d (len_nil))))))))) (mq_f (mo_slice sl_list s_slX (mq_r 5) (mpt_none) (mpt_some (me_int)))))) sc.nd) (mss_cons (ms_if (mw_mt (mw_or (mt_not (mt_val (me_c (mc_call (K__law_is_row_right.mono (by first | decide | omega | exact Nat.le_refl _)) hr (ma_r 1 (ma_d (me_var 3) (ma_d (me_var 9) (ma_nil)))) (hlen := len_r (len_d (len_d (len_nil)))))))) (mw_or1 (mt_not (mt_val (me_c (mc_call (K__law_is_row_right.mono (by first | decide | omega | exact Nat.le_refl _)) hr (ma_r 1 (ma_d (me_var 3) (ma_d (me_var 5) (ma_nil)))) (hlen := len_r (len_d (len_d (len_nil))))))))))) (mss_one (ms_ret (me_bl))) (mss_nil)) (mss_one (ms_if (mt_not (mt_val (me_c (mc_call (K__law_are_refused.mono (by first | decide | omega | exact Nat.le_refl _)) hr (ma_r 1 (ma_d (me_var 3) (ma_d (me_ix ix_seq s_ix (mq_r 5) (mq_d (me_int))) (ma_nil)))) (hlen := len_r (len_d (len_d (len_nil)))))))) (mss_one (ms_ret (me_bl))) (mss_nil))))))))))) (mss_one (ms_ret (me_bl))))
end K03
end

section
set_option Elab.async false
set_option linter.all false
set_option maxRecDepth 100000
set_option maxHeartbeats 0
namespace K03
open PySem L2 ML He LamX
def fn : List He.DefD := [⟨("is_integer", none), "is_integer", "is_integer", defArgs (top 7), defBody (top 7), defScope (top 7), [], []⟩,
  ⟨("is_within", none), "is_within", "is_within", defArgs (top 8), defBody (top 8), defScope (top 8), [], []⟩,
  ⟨("is_name", none), "is_name", "is_name", defArgs (top 9), defBody (top 9), defScope (top 9), [], []⟩,
  ⟨("is_sized", none), "is_sized", "is_sized", defArgs (top 10), defBody (top 10), defScope (top 10), [], []⟩,
  ⟨("are_rising", none), "are_rising", "are_rising", defArgs (top 11), defBody (top 11), defScope (top 11), [], []⟩,
  ⟨("is_signature", none), "is_signature", "is_signature", defArgs (top 15), defBody (top 15), defScope (top 15), [], []⟩,
  ⟨("check_signature", none), "check_signature", "check_signature", defArgs (top 16), defBody (top 16), defScope (top 16), [], []⟩,
  ⟨("raw_is_tree", none), "raw_is_tree", "raw_is_tree", defArgs (top 17), defBody (top 17), defScope (top 17), [], []⟩,
  ⟨("check_tree", none), "check_tree", "check_tree", defArgs (top 18), defBody (top 18), defScope (top 18), [], []⟩,
  ⟨("check_both", none), "check_both", "check_both", defArgs (top 19), defBody (top 19), defScope (top 19), [], []⟩,
  ⟨("raw_nodes_many", none), "raw_nodes_many", "raw_nodes_many", defArgs (top 20), defBody (top 20), defScope (top 20), [], []⟩,
  ⟨("order_key", none), "order_key", "order_key", defArgs (top 21), defBody (top 21), defScope (top 21), [], []⟩,
  ⟨("is_ahead", none), "is_ahead", "is_ahead", defArgs (top 22), defBody (top 22), defScope (top 22), [], []⟩,
  ⟨("least_of", none), "least_of", "least_of", defArgs (top 23), defBody (top 23), defScope (top 23), [], []⟩,
  ⟨("_law_hand", none), "_law_hand", "_law_hand", defArgs (top 25), defBody (top 25), defScope (top 25), [], []⟩,
  ⟨("_law_draw", none), "_law_draw", "_law_draw", defArgs (top 26), defBody (top 26), defScope (top 26), [], []⟩,
  ⟨("_law_some", none), "_law_some", "_law_some", defArgs (top 27), defBody (top 27), defScope (top 27), [], []⟩,
  ⟨("_law_is", none), "_law_is", "_law_is", defArgs (top 28), defBody (top 28), defScope (top 28), [], []⟩,
  ⟨("_law_signature", none), "_law_signature", "_law_signature", defArgs (top 29), defBody (top 29), defScope (top 29), [], []⟩,
  ⟨("_law_tree", none), "_law_tree", "_law_tree", defArgs (top 30), defBody (top 30), defScope (top 30), [], []⟩,
  ⟨("_law_nodes", none), "_law_nodes", "_law_nodes", defArgs (top 31), defBody (top 31), defScope (top 31), [], []⟩,
  ⟨("_law_trees", none), "_law_trees", "_law_trees", defArgs (top 32), defBody (top 32), defScope (top 32), [], []⟩,
  ⟨("_law_said", none), "_law_said", "_law_said", defArgs (top 33), defBody (top 33), defScope (top 33), [], []⟩,
  ⟨("_law_is_pair_right", none), "_law_is_pair_right", "_law_is_pair_right", defArgs (top 34), defBody (top 34), defScope (top 34), [], []⟩,
  ⟨("_law_is_row_right", none), "_law_is_row_right", "_law_is_row_right", defArgs (top 35), defBody (top 35), defScope (top 35), [], []⟩,
  ⟨("_law_are_refused", none), "_law_are_refused", "_law_are_refused", defArgs (top 36), defBody (top 36), defScope (top 36), [], []⟩,
  ⟨("law", none), "law", "law", defArgs (top 37), defBody (top 37), defScope (top 37), [], []⟩,
  ⟨("NoSignature", some "__init__"), "__init__", "NoSignature.__init__", defArgs (mth 2 0), defBody (mth 2 0), defScope (mth 2 0), [], []⟩,
  ⟨("NoTree", some "__init__"), "__init__", "NoTree.__init__", defArgs (mth 3 0), defBody (mth 3 0), defScope (mth 3 0), [], []⟩]
def tf : List He.Defn := [("_law_are_refused", none)]
def fa : List He.Fa := [.free "abs", .free "all", .free "bool", .free "dict", .free "enumerate", .free "int", .free "isinstance", .free "len", .free "list", .free "min", .free "range", .free "repr", .free "sorted", .free "str", .free "sum", .free "tuple", .free "zip", .str "LETTERS" "abcdefghijklmnopqrstuvwxyz", .int "MOST_LETTERS" 8, .int "MOST_LABELS" 10, .int "MOST_RANK" 2, .glo "ShapeError", .glo "NoSignature", .glo "NoTree", .glo "is_integer", .glo "is_within", .glo "is_name", .glo "is_sized", .glo "are_rising", .glo "is_signature", .glo "check_signature", .glo "raw_is_tree", .glo "check_tree", .glo "check_both", .glo "raw_nodes_many", .glo "order_key", .glo "is_ahead", .glo "least_of", .glo "_law_hand", .glo "_law_draw", .glo "_law_some", .glo "_law_is", .glo "_law_signature", .glo "_law_tree", .glo "_law_nodes", .glo "_law_trees", .glo "_law_said", .glo "_law_is_pair_right", .glo "_law_is_row_right", .glo "_law_are_refused", .glo "law", .exm "NoSignature" "NoSignature" true, .exm "NoTree" "NoSignature" false, .exm "NoTree" "NoTree" true]
def ex (K : PySem.W.Frag) : Bool := [oexB K (ga K "NoSignature"),
  metB K (ga K "NoSignature") "__init__",
  initB K (ga K "ShapeError"),
  oexB K (ga K "NoTree"),
  metB K (ga K "NoTree") "__init__"].all id
abbrev R : PySem.W.OpenRow := PySem.W.OpenLaw.row PySem.Challenge.rw_shaperoads_k03_whole_order_of_trees
abbrev hk : PySem.W.Hook := hookN [cStatics] 5 fa fn tf ex
def ob (s : PySem.W.SharedT) : AlM := obsN [cStatics] fa fn tf ex 5 (HandSHeadRun.getT s)
theorem ob_eq (s : PySem.W.SharedT) : ob s = hk.obs s.abs := obsN_eq (HandSHeadRun.getT_eq s)
def loose : List PySem.Str := (["ShapeError", "NoSignature", "NoTree", "LETTERS", "MOST_LETTERS", "is_integer", "is_within", "is_name", "is_sized", "are_rising", "MOST_LABELS", "MOST_RANK", "is_signature", "check_signature", "raw_is_tree", "check_tree", "check_both", "raw_nodes_many", "order_key", "is_ahead", "least_of", "_law_hand", "_law_draw", "_law_some", "_law_is", "_law_signature", "_law_tree", "_law_nodes", "_law_trees", "_law_said"] : List PySem.Str) ++ (["_law_is_pair_right", "_law_is_row_right", "_law_are_refused"] : List PySem.Str)
theorem run (w : World) : HandSHeadRun.RunEq R (PySem.W.view R.prog [37]) hk ob 20000 loose w := by
  intro os
  kernel_rfl
section
variable {K : PySem.W.Frag} {h h0 : Heap} {mg : Str → Option Value}
theorem ex_at (c : SaysN fa fn tf ex h0 K) (i : Nat) {b : Bool} (hb : ([
  oexB K (ga K "NoSignature"),
  metB K (ga K "NoSignature") "__init__",
  initB K (ga K "ShapeError"),
  oexB K (ga K "NoTree"),
  metB K (ga K "NoTree") "__init__"] : List Bool)[i]? = some b) : b = true := List.all_eq_true.mp c.more b (List.mem_of_getElem? hb)
theorem txt (X : K.In h) (G : h.Ns mainGlobals mg) (c : SaysN fa fn tf ex h0 K) : Txt K mg where
  f_abs := free_ok X G (c.d.fact 0)
  f_all := free_ok X G (c.d.fact 1)
  f_bool := free_ok X G (c.d.fact 2)
  f_dict := free_ok X G (c.d.fact 3)
  f_enumerate := free_ok X G (c.d.fact 4)
  f_int := free_ok X G (c.d.fact 5)
  f_isinstance := free_ok X G (c.d.fact 6)
  f_len := free_ok X G (c.d.fact 7)
  f_list := free_ok X G (c.d.fact 8)
  f_min := free_ok X G (c.d.fact 9)
  f_range := free_ok X G (c.d.fact 10)
  f_repr := free_ok X G (c.d.fact 11)
  f_sorted := free_ok X G (c.d.fact 12)
  f_str := free_ok X G (c.d.fact 13)
  f_sum := free_ok X G (c.d.fact 14)
  f_tuple := free_ok X G (c.d.fact 15)
  f_zip := free_ok X G (c.d.fact 16)
  g_LETTERS := str_ok X G (c.d.fact 17)
  g_MOST_LETTERS := int_ok X G (c.d.fact 18)
  g_MOST_LABELS := int_ok X G (c.d.fact 19)
  g_MOST_RANK := int_ok X G (c.d.fact 20)
  a_ShapeError := glo_ok X G (c.d.fact 21)
  a_NoSignature := glo_ok X G (c.d.fact 22)
  a_NoTree := glo_ok X G (c.d.fact 23)
  d_is_integer := glo_ok X G (c.d.fact 24)
  d_is_within := glo_ok X G (c.d.fact 25)
  d_is_name := glo_ok X G (c.d.fact 26)
  d_is_sized := glo_ok X G (c.d.fact 27)
  d_are_rising := glo_ok X G (c.d.fact 28)
  d_is_signature := glo_ok X G (c.d.fact 29)
  d_check_signature := glo_ok X G (c.d.fact 30)
  d_raw_is_tree := glo_ok X G (c.d.fact 31)
  d_check_tree := glo_ok X G (c.d.fact 32)
  d_check_both := glo_ok X G (c.d.fact 33)
  d_raw_nodes_many := glo_ok X G (c.d.fact 34)
  d_order_key := glo_ok X G (c.d.fact 35)
  d_is_ahead := glo_ok X G (c.d.fact 36)
  d_least_of := glo_ok X G (c.d.fact 37)
  d__law_hand := glo_ok X G (c.d.fact 38)
  d__law_draw := glo_ok X G (c.d.fact 39)
  d__law_some := glo_ok X G (c.d.fact 40)
  d__law_is := glo_ok X G (c.d.fact 41)
  d__law_signature := glo_ok X G (c.d.fact 42)
  d__law_tree := glo_ok X G (c.d.fact 43)
  d__law_nodes := glo_ok X G (c.d.fact 44)
  d__law_trees := glo_ok X G (c.d.fact 45)
  d__law_said := glo_ok X G (c.d.fact 46)
  d__law_is_pair_right := glo_ok X G (c.d.fact 47)
  d__law_is_row_right := glo_ok X G (c.d.fact 48)
  d__law_are_refused := glo_ok X G (c.d.fact 49)
  d_law := glo_ok X G (c.d.fact 50)
  e_NoSignature_NoSignature := exm_ok (c.d.fact 51)
  e_NoTree_NoSignature := exm_ok (c.d.fact 52)
  e_NoTree_NoTree := exm_ok (c.d.fact 53)
end
section
variable {P : Program} {w : World} {K : PySem.W.Frag} {h h0 : Heap} {mg : Str → Option Value}
theorem scx_NoSignature : FnScope ["self"] ["self"] (defScope (mth 2 0)) := ⟨rfl, rfl, rfl, by decide +kernel, rfl, by decide +kernel, by decide +kernel⟩
theorem rz_NoSignature {base : Heap} (T : Txt K mg) (c : SaysN fa fn tf ex h0 K) : Rz P w K mg base (cA K) "NoSignature" := by
  have OX := oexB_ok (ex_at c 0 rfl)
  have IB := initB_ok (ex_at c 2 rfl)
  have M := Bool.and_eq_true_iff.mp (ex_at c 1 rfl)
  obtain ⟨fd, F⟩ := c.d.def_ 27 rfl
  refine ⟨T.a_NoSignature, OX, _, fd, ["self"], eqO_ok M.1, of_decide_eq_true M.2, fnID F scx_NoSignature (fun cdv A outer s H E => ?_), FunD.bindsN F (fun _ _ _ _ _ _ us hl => match us, hl with | [_], _ => rfl)⟩
  exact pss_one (ps_expr (pe_ownI T.a_ShapeError IB (pa_cons (pe_var (i := 0) rfl (Or.inl rfl) (by decide) (by decide)) pa_nil)))
theorem scx_NoTree : FnScope ["self"] ["self"] (defScope (mth 3 0)) := ⟨rfl, rfl, rfl, by decide +kernel, rfl, by decide +kernel, by decide +kernel⟩
theorem rz_NoTree {base : Heap} (T : Txt K mg) (c : SaysN fa fn tf ex h0 K) : Rz P w K mg base (cA K) "NoTree" := by
  have OX := oexB_ok (ex_at c 3 rfl)
  have IB := initB_ok (ex_at c 2 rfl)
  have M := Bool.and_eq_true_iff.mp (ex_at c 4 rfl)
  obtain ⟨fd, F⟩ := c.d.def_ 28 rfl
  refine ⟨T.a_NoTree, OX, _, fd, ["self"], eqO_ok M.1, of_decide_eq_true M.2, fnID F scx_NoTree (fun cdv A outer s H E => ?_), FunD.bindsN F (fun _ _ _ _ _ _ us hl => match us, hl with | [_], _ => rfl)⟩
  exact pss_one (ps_expr (pe_ownI T.a_ShapeError IB (pa_cons (pe_var (i := 0) rfl (Or.inl rfl) (by decide) (by decide)) pa_nil)))
theorem facts (X : K.In h) (G : h.Ns mainGlobals mg) {f : Addr} (hfa : mg ("law" : Str) = some (.ref f)) (c : SaysN fa fn tf ex h0 K) :
    ∃ fd : FuncData, (∀ (s : Shared) (v : Value), BindsTo s fd ⟨[v], []⟩ [("script", v)]) ∧ ∀ base : Heap, K.In base → base.Ns mainGlobals mg → (∀ p ∈ tf, TabB base mg (cT K p).1 (cT K p).2) → FnOk P w K mg base (L2.CX P w) 63 f fd ["script"] (spM K (cA K) 1 F_law) := by
  have T := txt X G c
  obtain ⟨fd, FL⟩ := c.d.def_ 26 rfl
  have e := hfa.symm.trans T.d_law
  cases e
  refine ⟨fd, fun s v => FunD.bindsA (ps := ["script"]) FL (fun _ _ _ _ _ _ us hl => match us, hl with | [_], _ => rfl) s [v] rfl, fun base _ _ hTB => ?_⟩
  have r_NoSignature := rz_NoSignature (P := P) (w := w) (base := base) T c
  have r_NoTree := rz_NoTree (P := P) (w := w) (base := base) T c
  obtain ⟨fd_is_integer, D_is_integer⟩ := c.d.def_ 0 rfl
  have K_is_integer := w_is_integer (P := P) (w := w) (base := base) T D_is_integer
  obtain ⟨fd_is_within, D_is_within⟩ := c.d.def_ 1 rfl
  have K_is_within := w_is_within (P := P) (w := w) (base := base) T K_is_integer D_is_within
  obtain ⟨fd_is_name, D_is_name⟩ := c.d.def_ 2 rfl
  have K_is_name := w_is_name (P := P) (w := w) (base := base) T D_is_name
  obtain ⟨fd_is_sized, D_is_sized⟩ := c.d.def_ 3 rfl
  have K_is_sized := w_is_sized (P := P) (w := w) (base := base) T D_is_sized
  obtain ⟨fd_are_rising, D_are_rising⟩ := c.d.def_ 4 rfl
  have K_are_rising := w_are_rising (P := P) (w := w) (base := base) T D_are_rising
  obtain ⟨fd_is_signature, D_is_signature⟩ := c.d.def_ 5 rfl
  have K_is_signature := w_is_signature (P := P) (w := w) (base := base) T K_are_rising K_is_sized K_is_name K_is_within D_is_signature
  obtain ⟨fd_check_signature, D_check_signature⟩ := c.d.def_ 6 rfl
  have K_check_signature := w_check_signature (P := P) (w := w) (base := base) T K_is_signature r_NoSignature D_check_signature
  obtain ⟨fd_raw_is_tree, D_raw_is_tree⟩ := c.d.def_ 7 rfl
  have K_raw_is_tree := w_raw_is_tree (P := P) (w := w) (base := base) T K_is_sized D_raw_is_tree
  obtain ⟨fd_check_tree, D_check_tree⟩ := c.d.def_ 8 rfl
  have K_check_tree := w_check_tree (P := P) (w := w) (base := base) T K_raw_is_tree r_NoTree D_check_tree
  obtain ⟨fd_check_both, D_check_both⟩ := c.d.def_ 9 rfl
  have K_check_both := w_check_both (P := P) (w := w) (base := base) T K_check_signature K_check_tree D_check_both
  obtain ⟨fd_raw_nodes_many, D_raw_nodes_many⟩ := c.d.def_ 10 rfl
  have K_raw_nodes_many := w_raw_nodes_many (P := P) (w := w) (base := base) T D_raw_nodes_many
  obtain ⟨fd_order_key, D_order_key⟩ := c.d.def_ 11 rfl
  have K_order_key := w_order_key (P := P) (w := w) (base := base) T K_raw_nodes_many D_order_key
  obtain ⟨fd_is_ahead, D_is_ahead⟩ := c.d.def_ 12 rfl
  have K_is_ahead := w_is_ahead (P := P) (w := w) (base := base) T K_check_both K_check_tree K_order_key D_is_ahead
  obtain ⟨fd_least_of, D_least_of⟩ := c.d.def_ 13 rfl
  have K_least_of := w_least_of (P := P) (w := w) (base := base) T K_check_signature r_NoTree K_check_tree K_order_key D_least_of
  obtain ⟨fd__law_hand, D__law_hand⟩ := c.d.def_ 14 rfl
  have K__law_hand := w__law_hand (P := P) (w := w) (base := base) T D__law_hand
  obtain ⟨fd__law_draw, D__law_draw⟩ := c.d.def_ 15 rfl
  have K__law_draw := w__law_draw (P := P) (w := w) (base := base) T D__law_draw
  obtain ⟨fd__law_some, D__law_some⟩ := c.d.def_ 16 rfl
  have K__law_some := w__law_some (P := P) (w := w) (base := base) T K__law_draw D__law_some
  obtain ⟨fd__law_is, D__law_is⟩ := c.d.def_ 17 rfl
  have K__law_is := w__law_is (P := P) (w := w) (base := base) T D__law_is
  obtain ⟨fd__law_signature, D__law_signature⟩ := c.d.def_ 18 rfl
  have K__law_signature := w__law_signature (P := P) (w := w) (base := base) T K__law_draw K__law_some D__law_signature
  obtain ⟨fd__law_tree, D__law_tree⟩ := c.d.def_ 19 rfl
  have K__law_tree := w__law_tree (P := P) (w := w) (base := base) T K__law_some K__law_draw D__law_tree
  obtain ⟨fd__law_nodes, D__law_nodes⟩ := c.d.def_ 20 rfl
  have K__law_nodes := w__law_nodes (P := P) (w := w) (base := base) T D__law_nodes
  obtain ⟨fd__law_trees, D__law_trees⟩ := c.d.def_ 21 rfl
  have K__law_trees := w__law_trees (P := P) (w := w) (base := base) T D__law_trees
  obtain ⟨fd__law_said, D__law_said⟩ := c.d.def_ 22 rfl
  obtain ⟨fd__law_is_pair_right, D__law_is_pair_right⟩ := c.d.def_ 23 rfl
  have K__law_is_pair_right := w__law_is_pair_right (P := P) (w := w) (base := base) T K__law_is K__law_nodes K_is_ahead D__law_is_pair_right
  obtain ⟨fd__law_is_row_right, D__law_is_row_right⟩ := c.d.def_ 24 rfl
  have K__law_is_row_right := w__law_is_row_right (P := P) (w := w) (base := base) T K__law_draw K__law_is K_least_of K__law_nodes D__law_is_row_right
  obtain ⟨fd__law_are_refused, D__law_are_refused⟩ := c.d.def_ 25 rfl
  have K__law_are_refused := w__law_are_refused (P := P) (w := w) (base := base) T D__law_said (hTB _ List.mem_cons_self) K__law_is K__law_some K_is_ahead K_least_of D__law_are_refused
  exact fok_law T K__law_hand K__law_signature K__law_trees K__law_tree K__law_draw K__law_are_refused K__law_is_pair_right K__law_is_row_right K__law_some K__law_is K_is_ahead FL
end
end K03
end

section
set_option Elab.async false
set_option linter.all false
set_option maxRecDepth 100000
set_option maxHeartbeats 4000000
/-! # Hands: draws -/
namespace K03
open PySem L2 ML
/-- the numbers in a hand -/
def handD (cs : List Int) (a b c d : Int) : List D := [.list (cs.map PyData.int), .int a, .int b, .int c, .int d]
/-- a list that is a hand -/
def HandOk (h : List D) : Prop := ∃ cs a b c d, h = handD cs a b c d ∧ 0 ≤ a
abbrev hS (h : List D) : Sl := .o false (.lst h)
theorem ixN_nat (n i : Nat) : ixN n (i : Int) = if i < n then some i else none := by
  unfold ixN
  simp
theorem atI_nat {α : Type} (xs : List α) (i : Nat) : atI xs (i : Int) = xs[i]? := by
  unfold atI
  rw [ixN_nat]
  by_cases h : i < xs.length
  · rw [if_pos h]; rfl
  · rw [if_neg h, List.getElem?_eq_none (by omega)]; rfl
theorem atI_get {α : Type} {xs : List α} {a : Int} (h0 : 0 ≤ a) (h : a < xs.length) : ∃ c, atI xs a = some c ∧ c ∈ xs := by
  obtain ⟨n, rfl⟩ := Int.eq_ofNat_of_zero_le h0
  rw [atI_nat]
  have hl : n < xs.length := by omega
  exact ⟨xs[n], List.getElem?_eq_getElem hl, List.getElem_mem hl⟩
@[simp] theorem at0 {α : Type} {x : α} {xs : List α} : atI (x :: xs) 0 = some x := atI_nat _ 0
@[simp] theorem at1 {α : Type} {x y : α} {xs : List α} : atI (x :: y :: xs) 1 = some y := atI_nat _ 1
@[simp] theorem at2 {α : Type} {x y z : α} {xs : List α} : atI (x :: y :: z :: xs) 2 = some z := atI_nat _ 2
@[simp] theorem at3 {α : Type} {x y z u : α} {xs : List α} : atI (x :: y :: z :: u :: xs) 3 = some u := atI_nat _ 3
@[simp] theorem at4 {α : Type} {x y z u v : α} {xs : List α} : atI (x :: y :: z :: u :: v :: xs) 4 = some v := atI_nat _ 4
@[simp] theorem ix51 : ixN 5 1 = some 1 := rfl
@[simp] theorem ix52 : ixN 5 2 = some 2 := rfl
@[simp] theorem ix53 : ixN 5 3 = some 3 := rfl
@[simp] theorem ix54 : ixN 5 4 = some 4 := rfl
@[simp] theorem eqOk_int {i : Int} : eqOk (.int i) = true := rfl
@[simp] theorem eqOk_bool {i : Bool} : eqOk (.bool i) = true := rfl
theorem eqOk_str {x : Str} (h : PySem.PyData.strOk x = true) : eqOk (.str x) = true := by
  show (true && (PySem.PyData.strOk x && decide (0 ≤ 64))) = true
  rw [h]; rfl
@[simp] theorem eqv_int {i j : Int} : PyData.eqv (.int i) (.int j) = decide (i = j) := by rw [Bool.eq_iff_iff]; simp [PyData.eqv]
@[simp] theorem eqv_str {i j : Str} : PyData.eqv (.str i) (.str j) = decide (i = j) := by rw [Bool.eq_iff_iff]; simp [PyData.eqv]
@[simp] theorem eqv_bool {i j : Bool} : PyData.eqv (.bool i) (.bool j) = decide (i = j) := by rw [Bool.eq_iff_iff]; simp [PyData.eqv]
theorem draw_i2 (cs : List Int) (a c d x : Int) (m s t : Sl) : ∃ b', m__law_draw_i2 [hS (handD cs a 0 c d), m, .d (.int x), s, t] = .nx [hS (handD cs a b' c d), m, .d (.int x), s, t] := by
  by_cases h : (1000000000000000000 : Int) ≤ x
  · exact ⟨x, by simp [m__law_draw_i2, handD, h]⟩
  · exact ⟨0, by simp [m__law_draw_i2, handD, h]⟩
theorem draw_i3 (cs : List Int) (a b c d : Int) (h0 : 0 ≤ a) (m s t : Sl) : ∃ a' b' c' x, m__law_draw_i3 [hS (handD cs a b c d), m, .un, s, t] = .nx [hS (handD cs a' b' c' d), m, x, s, t] ∧ 0 ≤ a' := by
  by_cases hb : b = 0
  · subst hb
    by_cases ha : a < cs.length
    · obtain ⟨x, hx, _⟩ := atI_get h0 ha
      have hx2 : atI (cs.map PyData.int) a = some (.int x) := by rw [atI_map, hx]; rfl
      obtain ⟨b', e⟩ := draw_i2 cs (a + 1) ((c * 69621 + x * 48271 + 41) % 2147483629) d x m s t
      refine ⟨a + 1, b', (c * 69621 + x * 48271 + 41) % 2147483629, .d (.int x), ?_, by omega⟩
      rw [← e]
      simp [m__law_draw_i3, handD, ha, hx2, small]
    · exact ⟨a, 0, c, .un, by simp [m__law_draw_i3, handD, ha], h0⟩
  · exact ⟨a, b, c, .un, by simp [m__law_draw_i3, handD, hb], h0⟩
@[simp] theorem small_a {x : Int} : small (x % 2147483647) = true := by
  have h0 := Int.emod_nonneg x (b := 2147483647) (by decide)
  have h1 := Int.emod_lt_of_pos x (b := 2147483647) (by decide)
  unfold small
  exact decide_eq_true (by omega)
@[simp] theorem small_b : small 7919 = true := by decide
@[simp] theorem small_c : small 40692 = true := by decide
def rnd (c d : Int) : Int :=
  let n1 := (c + 7919 * d) * 40692 % 2147483647
  let n2 := n1 * (n1 / 1009 + 69621) % 2147483647
  n2 * (n2 / 2003 + 40014) % 2147483563
theorem draw_ok {h : List D} (H : HandOk h) {m : Int} (hm : 0 < m) (hm2 : m < 1073741824) : ∃ (r : Int) (h' : List D), F__law_draw [hS h, .d (.int m)] = .ok (.d (.int r)) [hS h', .un] ∧ HandOk h' ∧ 0 ≤ r ∧ r < m := by
  obtain ⟨cs, a, b, c, d, rfl, ha⟩ := H
  obtain ⟨a', b', c', x, e, ha'⟩ := draw_i3 cs a b c d ha (.d (.int m)) .un .un
  have hn : m.natAbs < 1073741824 := by omega
  by_cases hb : 0 < b'
  · have e1 : m__law_draw_i1 [hS (handD cs a' b' c' d), .d (.int m), x, .un, .un] = .rt (.d (.int (b' % m))) [hS (handD cs a' (b' / m) c' d), .d (.int m), x, .d (.int (b' % m)), .un] := by
      simp [m__law_draw_i1, handD, hb, hm, hn]
    refine ⟨b' % m, handD cs a' (b' / m) c' d, ?_, ⟨_, _, _, _, _, rfl, ha'⟩, Int.emod_nonneg _ (by omega), Int.emod_lt_of_pos _ hm⟩
    simp [F__law_draw, runBody, m__law_draw, e, e1]
  · have e1 : m__law_draw_i1 [hS (handD cs a' b' c' d), .d (.int m), x, .un, .un] = .nx [hS (handD cs a' b' c' d), .d (.int m), x, .un, .un] := by
      simp [m__law_draw_i1, handD, hb]
    refine ⟨(rnd c' (d + 1) / 16) % m, handD cs a' b' c' (d + 1), ?_, ⟨_, _, _, _, _, rfl, ha'⟩, Int.emod_nonneg _ (by omega), Int.emod_lt_of_pos _ hm⟩
    unfold handD at e e1 ⊢
    simp [F__law_draw, runBody, m__law_draw, e, e1, hm, rnd]
theorem some_ok {h : List D} (H : HandOk h) {xs : List D} (h0 : 0 < xs.length) (hl : xs.length < 1073741824) {t : D} (ht : t = .list xs ∨ t = .tuple xs) : ∃ (x : D) (h' : List D), F__law_some [hS h, .d t] = .ok (.d x) [hS h', .un] ∧ HandOk h' ∧ x ∈ xs := by
  obtain ⟨r, h', e, H', r0, r1⟩ := draw_ok H (m := xs.length) (by omega) (by omega)
  obtain ⟨x, hx, mem⟩ := atI_get r0 r1
  refine ⟨x, h', ?_, H', mem⟩
  rcases ht with rfl | rfl
  · simp [F__law_some, runBody, m__law_some, e, hx]
  · simp [F__law_some, runBody, m__law_some, e, hx]
end K03
end

section
set_option Elab.async false
set_option linter.all false
set_option maxRecDepth 100000
set_option maxHeartbeats 4000000
/-! # Comprehensions; names, signatures, trees -/
namespace K03
open PySem L2 ML
theorem oComp_map {mi : M (List D)} {g : GF} {te : M D} {vs : List Nat} {e e1 : List Sl} {ds : List D} {f : D → D} (hi : mi e = .ok ds e1)
    (h : ∀ d ∈ ds, ∃ e2, g d (wipeE e1 vs) = some e2 ∧ te e2 = .ok (f d) e2 ∧ wipeE e2 vs = wipeE e1 vs) (hl : ds.length ≤ LIM) :
    oComp mi g (ML.ret true) te vs e = .ok (.lst (ds.map f)) (restE e1 (wipeE e1 vs) vs) := by
  unfold oComp ML.bind
  rw [hi]
  dsimp only
  rw [compL_map (p := fun _ => true) (f := f) ds [] (fun d hd => by
    obtain ⟨e2, h1, h2, h3⟩ := h d hd
    exact ⟨e2, h1, rfl, fun _ => h2, h3⟩) (by simpa using hl)]
  rw [List.filter_eq_self.mpr (fun _ _ => rfl)]
  rfl
theorem oComp_filter {mi : M (List D)} {g : GF} {tt : M Bool} {te : M D} {vs : List Nat} {e e1 : List Sl} {ds : List D} {f : D → D} {p : D → Bool} (hi : mi e = .ok ds e1)
    (h : ∀ d ∈ ds, ∃ e2, g d (wipeE e1 vs) = some e2 ∧ tt e2 = .ok (p d) e2 ∧ (p d = true → te e2 = .ok (f d) e2) ∧ wipeE e2 vs = wipeE e1 vs) (hl : ds.length ≤ LIM) :
    oComp mi g tt te vs e = .ok (.lst ((ds.filter p).map f)) (restE e1 (wipeE e1 vs) vs) := by
  unfold oComp ML.bind
  rw [hi]
  dsimp only
  rw [compL_map (p := p) (f := f) ds [] h (by simpa using hl)]
  rfl
theorem dBools_map {α : Type} (f : α → Bool) : ∀ xs : List α, dBools (xs.map fun x => PyData.bool (f x)) = some (xs.map f)
  | [] => rfl
  | x :: xs => by simp [dBools_map f xs]
theorem dInts_map {α : Type} (f : α → Int) : ∀ xs : List α, dInts (xs.map fun x => PyData.int (f x)) = some (xs.map f)
  | [] => rfl
  | x :: xs => by simp [dInts_map f xs]
theorem dStrs_map : ∀ xs : List Str, dStrs (xs.map fun x => PyData.str x) = some xs
  | [] => rfl
  | x :: xs => by simp [dStrs_map xs]
/-! ### names -/
structure Nm (z : Str) : Prop where
  lo : 1 ≤ z.length
  hi : z.length ≤ 8
  ab : ∀ c ∈ z.cps.toList, 97 ≤ c ∧ c ≤ 122
theorem letters (c : Nat) (h0 : 97 ≤ c) (h1 : c ≤ 122) : c ∈ (("abcdefghijklmnopqrstuvwxyz" : Str).cps.toList) := by
  have : ∀ c : Fin 123, 97 ≤ c.val → c.val ∈ (("abcdefghijklmnopqrstuvwxyz" : Str).cps.toList) := by decide +kernel
  exact this ⟨c, by omega⟩ h0
theorem map_rep {α β : Type} (y : β) : ∀ xs : List α, (xs.map fun _ => y) = List.replicate xs.length y
  | [] => rfl
  | x :: xs => by rw [List.map_cons, map_rep y xs]; rfl
theorem oComp_true {mi : M (List D)} {g : GF} {te : M D} {vs : List Nat} {e e1 : List Sl} {ds : List D} (hi : mi e = .ok ds e1)
    (h : ∀ d ∈ ds, ∃ e2, g d (wipeE e1 vs) = some e2 ∧ te e2 = .ok (.bool true) e2 ∧ wipeE e2 vs = wipeE e1 vs) (hl : ds.length ≤ LIM) :
    oComp mi g (ML.ret true) te vs e = .ok (.lst (List.replicate ds.length (.bool true))) (restE e1 (wipeE e1 vs) vs) := by
  rw [oComp_map (f := fun _ => .bool true) hi h hl, map_rep]
@[simp] theorem dBools_rep {n : Nat} {b : Bool} : dBools (List.replicate n (.bool b)) = some (List.replicate n b) := by
  induction n with
  | zero => rfl
  | succ n ih => rw [List.replicate_succ, List.replicate_succ]; simp [ih]
@[simp] theorem all_rep {n : Nat} : (List.replicate n true).all id = true := by
  induction n with
  | zero => rfl
  | succ n ih => rw [List.replicate_succ]; simp [ih]
theorem is_name_ok {z : Str} (h : Nm z) : F_is_name [.d (.str z)] = .ok (.d (.bool true)) [.un] := by
  have h1 : m_is_name_i2 [.d (.str z), .un] = .nx [.d (.str z), .un] := by
    have a := h.lo
    have b := h.hi
    have c : (1 : Int) ≤ (z.length : Int) := by omega
    have d : (z.length : Int) ≤ 8 := by omega
    have e : z.length ≤ 10000000 := by omega
    simp [m_is_name_i2, c, d, e]
  have h2 : ∃ n, o_is_name_1 [.d (.str z), .un] = .ok (.lst (List.replicate n (.bool true))) [.d (.str z), .un] := by
    refine ⟨_, (oComp_true (ds := z.cps.toList.map fun c => PyData.str (sign c)) (e1 := [.d (.str z), .un]) (by simp) (fun d hd => ?_) ?_).trans (by simp; rfl)⟩
    · obtain ⟨c, hc, rfl⟩ := List.mem_map.mp hd
      obtain ⟨a, b⟩ := h.ab c hc
      refine ⟨[.d (.str z), .d (.str (sign c))], by simp, ?_, by simp⟩
      have m := letters c a b
      simp [m_is_name_c1, sign]
      exact Array.mem_toList_iff.mp m
    · have := h.hi
      have e : z.cps.toList.length = z.length := by simp [Str.length]
      rw [List.length_map, e]
      show z.length ≤ 10000000
      omega
  obtain ⟨n, h2⟩ := h2
  simp [F_is_name, runBody, m_is_name, h1, h2]
def sized (x : D) (lo hi : Int) : Bool := match x with
  | .tuple xs => decide (lo ≤ xs.length) && decide ((xs.length : Int) ≤ hi)
  | _ => false
theorem is_sized_ok (x : D) (lo hi : Int) : F_is_sized [.d x, .d (.int lo), .d (.int hi)] = .ok (.d (.bool (sized x lo hi))) [.un, .un, .un] := by
  cases x with
  | tuple xs =>
    by_cases h : lo ≤ xs.length
    · simp [F_is_sized, runBody, m_is_sized, sized, h]
    · simp [F_is_sized, runBody, m_is_sized, sized, h]
  | _ => simp [F_is_sized, runBody, m_is_sized, sized]
theorem is_integer_ok (i : Int) : F_is_integer [.d (.int i)] = .ok (.d (.bool true)) [.un] := by
  simp [F_is_integer, runBody, m_is_integer]
theorem is_within_ok (i lo hi : Int) : F_is_within [.d (.int i), .d (.int lo), .d (.int hi)] = .ok (.d (.bool (decide (lo ≤ i) && decide (i ≤ hi)))) [.un, .un, .un] := by
  by_cases h : lo ≤ i
  · simp [F_is_within, runBody, m_is_within, is_integer_ok, h]
  · simp [F_is_within, runBody, m_is_within, is_integer_ok, h]
/-! ### signatures -/
abbrev Row : Type := Str × Int
abbrev rowD (p : Row) : D := .tuple [.str p.1, .int p.2]
abbrev sgD (rows : List Row) : D := .tuple (rows.map rowD)
def strLt (a b : Str) : Bool := PySem.W.dataLt (.str a) (.str b)
structure Sg (rows : List Row) : Prop where
  lo : 1 ≤ rows.length
  hi : rows.length ≤ 10
  nm : ∀ p ∈ rows, Nm p.1
  rk : ∀ p ∈ rows, p.2 = 0 ∨ p.2 = 1 ∨ p.2 = 2
  nd : (rows.map (·.1)).Nodup
  rise : ∀ i a b, rows[i]? = some a → rows[i + 1]? = some b → strLt a.1 b.1 = true
  zero : ∃ p ∈ rows, p.2 = 0
theorem ltOk_str {x y : Str} : ltOk (.str x) (.str y) = true := by
  have h : PySem.W.alike (.str x) (.str y) = true := by rw [PySem.W.alike]
  have h2 : (PyData.str x).depth ≤ MK.DEEP := by rw [PyData.depth]; decide
  unfold ltOk
  rw [h]
  simp [h2]
theorem are_rising_ok {zs : List Str} (h : ∀ i a b, zs[i]? = some a → zs[i + 1]? = some b → strLt a b = true) (hl : zs.length ≤ 100) : F_are_rising [.d (.list (zs.map PyData.str))] = .ok (.d (.bool true)) [.un] := by
  have h2 : ∃ n, o_are_rising_1 [.d (.list (zs.map PyData.str)), .un] = .ok (.lst (List.replicate n (.bool true))) [.d (.list (zs.map PyData.str)), .un] := by
    have e : ((zs.length : Int) - 1).natAbs < 4611686018427387904 := by omega
    refine ⟨_, (oComp_true (ds := (List.range ((zs.length : Int) - 1).toNat).map fun (i : Nat) => .int (0 + (i : Nat))) (e1 := [.d (.list (zs.map PyData.str)), .un]) (by simp [e]) (fun d hd => ?_) ?_).trans (by simp; rfl)⟩
    · obtain ⟨i, hi, rfl⟩ := List.mem_map.mp hd
      have hi := List.mem_range.mp hi
      refine ⟨[.d (.list (zs.map PyData.str)), .d (.int (0 + (i : Nat)))], by simp, ?_, by simp⟩
      have l1 : i < zs.length := by omega
      have l2 : i + 1 < zs.length := by omega
      have a1 : atI (zs.map PyData.str) (i : Int) = some (.str zs[i]) := by rw [atI_nat]; simp [l1]
      have a2 : atI (zs.map PyData.str) ((i : Int) + 1) = some (.str zs[i + 1]) := by
        rw [show ((i : Int) + 1) = ((i + 1 : Nat) : Int) by omega, atI_nat]; simp [l2]
      have a3 : PySem.W.dataLt (.str zs[i]) (.str zs[i + 1]) = true := h i _ _ (List.getElem?_eq_getElem l1) (List.getElem?_eq_getElem l2)
      simp [m_are_rising_c1, a1, a2, a3, ltOk_str]
    · rw [List.length_map, List.length_range]
      show _ ≤ 10000000
      omega
  obtain ⟨n, h2⟩ := h2
  simp [F_are_rising, runBody, m_are_rising, h2]
def lab1 : D → D
  | .tuple [.str z, _] => .str z
  | _ => .none
theorem sig_rows {rows : List Row} (S : Sg rows) {d : D} (hd : d ∈ rows.map rowD) : ∃ z r, d = .tuple [.str z, .int r] ∧ Nm z ∧ 0 ≤ r ∧ r ≤ 2 := by
  obtain ⟨p, hp, rfl⟩ := List.mem_map.mp hd
  have := S.rk p hp
  exact ⟨p.1, p.2, rfl, S.nm p hp, by omega, by omega⟩
theorem is_signature_ok {rows : List Row} (S : Sg rows) : F_is_signature [.d (sgD rows)] = .ok (.d (.bool true)) [.un] := by
  have hl : (rows.map rowD).length ≤ LIM := by
    rw [List.length_map]
    have := S.hi
    show _ ≤ 10000000
    omega
  have o4 : ∃ n, o_is_signature_4 [.d (sgD rows), .un] = .ok (.lst (List.replicate n (.bool true))) [.d (sgD rows), .un] := by
    refine ⟨_, (oComp_true (ds := rows.map rowD) (e1 := [.d (sgD rows), .un]) (by simp) (fun d hd => ?_) hl).trans (by simp; rfl)⟩
    obtain ⟨z, r, rfl, n, r0, r1⟩ := sig_rows S hd
    exact ⟨[.d (sgD rows), .d (.tuple [.str z, .int r])], by simp, by simp [m_is_signature_c4, is_sized_ok, sized], by simp⟩
  have o2 : ∃ n, o_is_signature_2 [.d (sgD rows), .un] = .ok (.lst (List.replicate n (.bool true))) [.d (sgD rows), .un] := by
    refine ⟨_, (oComp_true (ds := rows.map rowD) (e1 := [.d (sgD rows), .un]) (by simp) (fun d hd => ?_) hl).trans (by simp; rfl)⟩
    obtain ⟨z, r, rfl, n, r0, r1⟩ := sig_rows S hd
    exact ⟨[.d (sgD rows), .d (.tuple [.str z, .int r])], by simp, by simp [m_is_signature_c2, is_name_ok n, is_within_ok, r0, r1], by simp⟩
  have o1 : o_is_signature_1 [.d (sgD rows), .un] = .ok (.lst ((rows.map (·.1)).map PyData.str)) [.d (sgD rows), .un] := by
    have f : (rows.map rowD).map lab1 = (rows.map (·.1)).map PyData.str := by
      rw [List.map_map, List.map_map]
      rfl
    rw [← f]
    refine (oComp_map (f := lab1) (ds := rows.map rowD) (e1 := [.d (sgD rows), .un]) (by simp) (fun d hd => ?_) hl).trans (by simp)
    obtain ⟨z, r, rfl, n, r0, r1⟩ := sig_rows S hd
    exact ⟨[.d (sgD rows), .d (.tuple [.str z, .int r])], by simp, by simp [m_is_signature_c1, lab1], by simp⟩
  obtain ⟨n4, o4⟩ := o4
  obtain ⟨n2, o2⟩ := o2
  have hs : sized (sgD rows) 1 10 = true := by
    have a := S.lo
    have b := S.hi
    simp [sized]
    omega
  have i5 : m_is_signature_i5 [.d (sgD rows), .un] = .nx [.d (sgD rows), .un] := by
    simp [m_is_signature_i5, is_sized_ok, hs, o4]
  have i3 : m_is_signature_i3 [.d (sgD rows), .un] = .nx [.d (sgD rows), .un] := by
    simp [m_is_signature_i3, o2]
  have ar := are_rising_ok (zs := rows.map (·.1)) (fun i a b h1 h2 => by
    rw [List.getElem?_map] at h1 h2
    obtain ⟨p, hp, rfl⟩ := Option.map_eq_some_iff.mp h1
    obtain ⟨q, hq, rfl⟩ := Option.map_eq_some_iff.mp h2
    exact S.rise i p q hp hq) (by rw [List.length_map]; have := S.hi; omega)
  simp only [F_is_signature, runBody, m_is_signature, List.length_cons, List.length_nil, Nat.zero_add, if_true, List.cons_append, List.nil_append, List.replicate]
  rw [sSeq_e, i5]
  dsimp only
  rw [sSeq_e, i3]
  simp only [sRet_e, xS_e, eRv_e, bind_e, callM_e, aD_e, eO_e, o1]
  simp at ar ⊢
  simp [ar]
end K03
end

section
set_option Elab.async false
set_option linter.all false
set_option maxRecDepth 100000
set_option maxHeartbeats 4000000
/-! # Trees -/
namespace K03
open PySem L2 ML
inductive Tr where
  | t0 (l : Str)
  | t1 (l : Str) (a : Tr)
  | t2 (l : Str) (a b : Tr)
def Tr.lab : Tr → Str
  | .t0 l => l
  | .t1 l _ => l
  | .t2 l _ _ => l
def Tr.parts : Tr → List Tr
  | .t0 _ => []
  | .t1 _ a => [a]
  | .t2 _ a b => [a, b]
def Tr.enc : Tr → D
  | .t0 l => .tuple [.str l, .tuple []]
  | .t1 l a => .tuple [.str l, .tuple [a.enc]]
  | .t2 l a b => .tuple [.str l, .tuple [a.enc, b.enc]]
def Tr.size : Tr → Nat
  | .t0 _ => 1
  | .t1 _ a => 1 + a.size
  | .t2 _ a b => 1 + a.size + b.size
def Tr.ok (rows : List Row) : Tr → Prop
  | .t0 l => (l, 0) ∈ rows
  | .t1 l a => (l, 1) ∈ rows ∧ a.ok rows
  | .t2 l a b => (l, 2) ∈ rows ∧ a.ok rows ∧ b.ok rows
theorem enc_eq (t : Tr) : t.enc = .tuple [.str t.lab, .tuple (t.parts.map Tr.enc)] := by cases t <;> rfl
def total (ts : List Tr) : Nat := (ts.map Tr.size).sum
theorem size_eq (t : Tr) : t.size = 1 + total t.parts := by
  cases t <;> simp [Tr.size, total, Tr.parts]
  omega
theorem ok_lab {rows : List Row} {t : Tr} (h : t.ok rows) : (t.lab, (t.parts.length : Int)) ∈ rows := by
  cases t with
  | t0 l => exact h
  | t1 l a => exact h.1
  | t2 l a b => exact h.1
theorem ok_parts {rows : List Row} {t : Tr} (h : t.ok rows) : ∀ p ∈ t.parts, p.ok rows := by
  cases t with
  | t0 l => intro p hp; cases hp
  | t1 l a => intro p hp; rw [List.mem_singleton.mp hp]; exact h.2
  | t2 l a b =>
    intro p hp
    rcases List.mem_cons.mp hp with rfl | hp
    · exact h.2.1
    · rw [List.mem_singleton.mp hp]; exact h.2.2
theorem parts_len (t : Tr) : t.parts.length ≤ 2 := by cases t <;> simp [Tr.parts]
theorem size_pos (t : Tr) : 1 ≤ t.size := by rw [size_eq]; omega
/-! ### the dict of a signature -/
abbrev kvs (rows : List Row) : List (Key × D) := rows.map fun p => (Sum.inr p.1, .int p.2)
theorem pairs_ok : ∀ rows : List Row, pairsD (rows.map rowD) = some (kvs rows)
  | [] => rfl
  | p :: r => by simp [pairs_ok r]
theorem sigD_ok {rows : List Row} (h : 1 ≤ rows.length) : sigD (rows.map rowD) = true := by
  unfold sigD
  cases rows with
  | nil => simp at h
  | cons p r => simp
theorem val_ok : ∀ {rows : List Row} {z : Str} {r : Int}, (rows.map (·.1)).Nodup → (z, r) ∈ rows → valD (kvs rows) (Sum.inr z) = some (.int r)
  | p :: rows, z, r, nd, h => by
    rw [List.map_cons, List.nodup_cons] at nd
    rcases List.mem_cons.mp h with h | h
    · subst h
      simp [valD]
    · have ne : p.1 ≠ z := fun e => nd.1 (by rw [e]; exact List.mem_map_of_mem (f := (·.1)) h)
      have ih := val_ok nd.2 h
      have e : valD (kvs (p :: rows)) (Sum.inr z) = valD (kvs rows) (Sum.inr z) := by
        show ((List.find? (fun kv => decide (kv.1 = Sum.inr z)) (((Sum.inr p.1 : Key), (PyData.int p.2 : D)) :: kvs rows)).map (·.2)) = _
        rw [List.find?_cons]
        have h2 : decide ((Sum.inr p.1 : Key) = Sum.inr z) = false := decide_eq_false (fun q => ne (Sum.inr.inj q))
        simp only [h2]
        rfl
      rw [e]; exact ih
theorem nodup_ok : ∀ {rows : List Row}, (rows.map (·.1)).Nodup → nodupK (kvs rows) = true
  | [], _ => rfl
  | p :: rows, nd => by
    rw [List.map_cons, List.nodup_cons] at nd
    have ih := nodup_ok nd.2
    show ((kvs rows).all (fun q => decide (q.1 ≠ (Sum.inr p.1 : Key))) && nodupK (kvs rows)) = true
    rw [ih, Bool.and_true, List.all_eq_true]
    intro q hq
    obtain ⟨x, hx, rfl⟩ := List.mem_map.mp hq
    exact decide_eq_true (fun z => nd.1 (by rw [← Sum.inr.inj z]; exact List.mem_map_of_mem (f := (·.1)) hx))
theorem dict_ok {rows : List Row} (S : Sg rows) : dictOf (sgD rows) = some (.dct (kvs rows)) := by
  show (if sigD (rows.map rowD) = true then (pairsD (rows.map rowD)).bind fun k => if nodupK k = true then some (Ob.dct k) else none else none) = _
  rw [if_pos (sigD_ok S.lo), pairs_ok]
  show (if nodupK (kvs rows) = true then some (Ob.dct (kvs rows)) else none) = _
  rw [if_pos (nodup_ok S.nd)]
@[simp] theorem LIM_e : LIM = 10000000 := rfl
theorem len_total : ∀ ts : List Tr, ts.length ≤ total ts
  | [] => Nat.le_refl _
  | t :: ts => by
    have := len_total ts
    have h := size_pos t
    simp [total] at this ⊢
    omega
/-! ### is it a tree -/
theorem tree_i2 {rows : List Row} (S : Sg rows) {t : Tr} (h : t.ok rows) (a b w : Sl) : m_raw_is_tree_i2 [a, b, .o true (.dct (kvs rows)), w, .d t.enc] = .nx [a, b, .o true (.dct (kvs rows)), w, .d t.enc] := by
  have v := val_ok S.nd (ok_lab h)
  have hs : sized t.enc 2 2 = true := by rw [enc_eq]; rfl
  have e := enc_eq t
  simp [m_raw_is_tree_i2, is_sized_ok, hs]
  rw [e]
  simp [v]
theorem tree_i1 {rows : List Row} (S : Sg rows) {t : Tr} (h : t.ok rows) (a b w : Sl) : m_raw_is_tree_i1 [a, b, .o true (.dct (kvs rows)), w, .d t.enc] = .nx [a, b, .o true (.dct (kvs rows)), w, .d t.enc] := by
  have v := val_ok S.nd (ok_lab h)
  have hs : sized (.tuple (t.parts.map Tr.enc)) t.parts.length t.parts.length = true := by simp [sized]
  have e := enc_eq t
  rw [e]
  simp [m_raw_is_tree_i1, v, is_sized_ok, hs]
theorem tree_b3 {rows : List Row} (S : Sg rows) {ts : List Tr} {t : Tr} (h : t.ok rows) (hl : ts.length ≤ 1000) (a b : Sl) :
    m_raw_is_tree_b3 [a, b, .o true (.dct (kvs rows)), .o true (.lst ((ts ++ [t]).map Tr.enc)), .un] = .nx [a, b, .o true (.dct (kvs rows)), .o true (.lst ((ts ++ t.parts).map Tr.enc)), .un] := by
  have i2 := tree_i2 S h a b (.o true (.lst (ts.map Tr.enc)))
  have i1 := tree_i1 S h a b (.o true (.lst (ts.map Tr.enc)))
  have pl := parts_len t
  have hl2 : ts.length + t.parts.length ≤ 10000000 := by omega
  simp [m_raw_is_tree_b3, i2, i1]
  rw [enc_eq t]
  simp [hl2]
theorem tree_loop {rows : List Row} (S : Sg rows) (a b : Sl) : ∀ (n : Nat) (ts : List Tr), (∀ t ∈ ts, t.ok rows) → total ts < n → n ≤ 1000 →
    whileL (b2 gGt (qD (eBlt bLen (aR 3 aNil))) (qD (eC (.int 0)))) m_raw_is_tree_b3 n [a, b, .o true (.dct (kvs rows)), .o true (.lst (ts.map Tr.enc)), .un] = .nx [a, b, .o true (.dct (kvs rows)), .o true (.lst []), .un] := by
  intro n
  induction n with
  | zero => intro ts _ h; omega
  | succ n ih =>
    intro ts ok h hn
    rcases List.eq_nil_or_concat ts with rfl | ⟨us, t, rfl⟩
    · simp [whileL]
    · rw [List.concat_eq_append] at ok h ⊢
      have hs := size_eq t
      have e1 : total (us ++ [t]) = total us + t.size := by simp [total]
      have e2 : total (us ++ t.parts) = total us + total t.parts := by simp [total]
      have lu : us.length ≤ total us := len_total us
      have hb := tree_b3 S (ok t (by simp)) (ts := us) (by omega) a b
      have hi := ih (us ++ t.parts) (fun x hx => by
        rcases List.mem_append.mp hx with z | z
        · exact ok x (by simp [z])
        · exact ok_parts (ok t (by simp)) x z) (by omega) (by omega)
      rw [whileL]
      have ht : b2 gGt (qD (eBlt bLen (aR 3 aNil))) (qD (eC (.int 0))) [a, b, .o true (.dct (kvs rows)), .o true (.lst ((us ++ [t]).map Tr.enc)), .un] = .ok true [a, b, .o true (.dct (kvs rows)), .o true (.lst ((us ++ [t]).map Tr.enc)), .un] := by
        simp
      rw [ht]
      dsimp only
      rw [hb]
      exact hi
theorem whileL_more {t : M Bool} {mb : MStm} {e' : List Sl} : ∀ (n m : Nat) (e : List Sl), n ≤ m → whileL t mb n e = .nx e' → whileL t mb m e = .nx e' := by
  intro n
  induction n with
  | zero => intro m e _ h; cases h
  | succ n ih =>
    intro m e hm h
    obtain ⟨m', rfl⟩ : ∃ m', m = m' + 1 := ⟨m - 1, by omega⟩
    rw [whileL] at h ⊢
    cases ht : t e with
    | ok b e1 =>
      rw [ht] at h
      cases b with
      | true =>
        dsimp only at h ⊢
        cases hb : mb e1 with
        | nx e2 => rw [hb] at h; exact ih m' e2 (by omega) h
        | ct e2 => rw [hb] at h; exact ih m' e2 (by omega) h
        | bk e2 => rw [hb] at h; exact h
        | rt r e2 => rw [hb] at h; cases h
        | ex c e2 => rw [hb] at h; cases h
        | bad => rw [hb] at h; cases h
      | false => exact h
    | ex c e1 => rw [ht] at h; cases h
    | bad => rw [ht] at h; cases h
theorem raw_is_tree_ok {rows : List Row} (S : Sg rows) {t : Tr} (h : t.ok rows) (hs : t.size ≤ 100) : F_raw_is_tree [.d (sgD rows), .d t.enc] = .ok (.d (.bool true)) [.un, .un] := by
  have w := tree_loop S (.d (sgD rows)) (.d t.enc) 200 [t] (fun x hx => by rw [List.mem_singleton.mp hx]; exact h) (by simp [total]; omega) (by omega)
  have w2 := whileL_more 200 20000 _ (by omega) w
  have d := dict_ok S
  simp [F_raw_is_tree, runBody, m_raw_is_tree, m_raw_is_tree_w4] at d w2 ⊢
  simp [d, w2]
/-! ### how many nodes -/
theorem nodes_b1 {ts : List Tr} {t : Tr} (hl : ts.length ≤ 1000) (a : Sl) (n : Int) :
    m_raw_nodes_many_b1 [a, .d (.int n), .o true (.lst ((ts ++ [t]).map Tr.enc))] = .nx [a, .d (.int (n + 1)), .o true (.lst ((ts ++ t.parts).map Tr.enc))] := by
  have pl := parts_len t
  have hl2 : ts.length + t.parts.length ≤ 10000000 := by omega
  rw [List.map_append, List.map_singleton, enc_eq t]
  simp [m_raw_nodes_many_b1, hl2]
theorem nodes_loop (a : Sl) : ∀ (k : Nat) (n : Int) (ts : List Tr), total ts < k → k ≤ 1000 →
    whileL (b2 gGt (qD (eBlt bLen (aR 2 aNil))) (qD (eC (.int 0)))) m_raw_nodes_many_b1 k [a, .d (.int n), .o true (.lst (ts.map Tr.enc))] = .nx [a, .d (.int (n + total ts)), .o true (.lst [])] := by
  intro k
  induction k with
  | zero => intro n ts h; omega
  | succ k ih =>
    intro n ts h hk
    rcases List.eq_nil_or_concat ts with rfl | ⟨us, t, rfl⟩
    · simp [whileL, total]
    · rw [List.concat_eq_append] at h ⊢
      have hs := size_eq t
      have e1 : total (us ++ [t]) = total us + t.size := by simp [total]
      have e2 : total (us ++ t.parts) = total us + total t.parts := by simp [total]
      have lu : us.length ≤ total us := len_total us
      have hb := nodes_b1 (ts := us) (t := t) (by omega) a n
      have hi := ih (n + 1) (us ++ t.parts) (by omega) (by omega)
      rw [whileL]
      have ht : b2 gGt (qD (eBlt bLen (aR 2 aNil))) (qD (eC (.int 0))) [a, .d (.int n), .o true (.lst ((us ++ [t]).map Tr.enc))] = .ok true [a, .d (.int n), .o true (.lst ((us ++ [t]).map Tr.enc))] := by
        simp
      rw [ht]
      dsimp only
      rw [hb]
      dsimp only
      rw [hi]
      have e3 : n + 1 + ((total (us ++ t.parts) : Nat) : Int) = n + ((total (us ++ [t]) : Nat) : Int) := by omega
      rw [e3]
theorem raw_nodes_ok {t : Tr} (hs : t.size ≤ 100) : F_raw_nodes_many [.d t.enc] = .ok (.d (.int t.size)) [.un] := by
  have w := nodes_loop (.d t.enc) 200 0 [t] (by simp [total]; omega) (by omega)
  have w2 := whileL_more 200 20000 _ (by omega) w
  have e : (total [t] : Nat) = t.size := by simp [total]
  rw [e] at w2
  simp at w2
  simp [F_raw_nodes_many, runBody, m_raw_nodes_many, m_raw_nodes_many_w2, w2]
def Tr.key (t : Tr) : D := .tuple [.int t.size, t.enc]
theorem order_key_ok {t : Tr} (hs : t.size ≤ 100) : F_order_key [.d t.enc] = .ok (.d t.key) [.un] := by
  simp [F_order_key, runBody, m_order_key, raw_nodes_ok hs, Tr.key]
/-! ### refused -/
/-- no tree of any signature, by its look -/
def noTree (x : D) : Bool := !sized x 2 2
theorem raw_is_tree_no {rows : List Row} (S : Sg rows) {x : D} (h : sized x 2 2 = false) : F_raw_is_tree [.d (sgD rows), .d x] = .ok (.d (.bool false)) [.un, .un] := by
  have d := dict_ok S
  have i2 : m_raw_is_tree_i2 [.d (sgD rows), .d x, .o true (.dct (kvs rows)), .o true (.lst []), .d x] = .rt (.d (.bool false)) [.d (sgD rows), .d x, .o true (.dct (kvs rows)), .o true (.lst []), .d x] := by
    simp [m_raw_is_tree_i2, is_sized_ok, h]
  have b : m_raw_is_tree_b3 [.d (sgD rows), .d x, .o true (.dct (kvs rows)), .o true (.lst [x]), .un] = .rt (.d (.bool false)) [.d (sgD rows), .d x, .o true (.dct (kvs rows)), .o true (.lst []), .d x] := by
    simp [m_raw_is_tree_b3, i2]
  have w : whileL (b2 gGt (qD (eBlt bLen (aR 3 aNil))) (qD (eC (.int 0)))) m_raw_is_tree_b3 20000 [.d (sgD rows), .d x, .o true (.dct (kvs rows)), .o true (.lst [x]), .un] = .rt (.d (.bool false)) [.d (sgD rows), .d x, .o true (.dct (kvs rows)), .o true (.lst []), .d x] := by
    rw [whileL]
    have ht : b2 gGt (qD (eBlt bLen (aR 3 aNil))) (qD (eC (.int 0))) [.d (sgD rows), .d x, .o true (.dct (kvs rows)), .o true (.lst [x]), .un] = .ok true [.d (sgD rows), .d x, .o true (.dct (kvs rows)), .o true (.lst [x]), .un] := by simp
    rw [ht]
    dsimp only
    rw [b]
  simp [F_raw_is_tree, runBody, m_raw_is_tree, m_raw_is_tree_w4] at d w ⊢
  simp [d, w]
theorem check_tree_ok {rows : List Row} (S : Sg rows) {t : Tr} (h : t.ok rows) (hs : t.size ≤ 100) : F_check_tree [.d (sgD rows), .d t.enc] = .ok (.d .none) [.un, .un] := by
  simp [F_check_tree, runBody, m_check_tree, m_check_tree_i1, raw_is_tree_ok S h hs]
theorem check_tree_no {rows : List Row} (S : Sg rows) {x : D} (h : sized x 2 2 = false) : F_check_tree [.d (sgD rows), .d x] = .ex "NoTree" [.un, .un] := by
  simp [F_check_tree, runBody, m_check_tree, m_check_tree_i1, raw_is_tree_no S h]
theorem check_sig_ok {rows : List Row} (S : Sg rows) : F_check_signature [.d (sgD rows)] = .ok (.d .none) [.un] := by
  simp [F_check_signature, runBody, m_check_signature, m_check_signature_i1, is_signature_ok S]
theorem check_sig_no {x : D} (h : sized x 1 10 = false) : F_check_signature [.d x] = .ex "NoSignature" [.un] := by
  have i5 : m_is_signature_i5 [.d x, .un] = .rt (.d (.bool false)) [.d x, .un] := by
    simp [m_is_signature_i5, is_sized_ok, h]
  have f : F_is_signature [.d x] = .ok (.d (.bool false)) [.un] := by
    simp [F_is_signature, runBody, m_is_signature, i5]
  simp [F_check_signature, runBody, m_check_signature, m_check_signature_i1, f]
theorem check_both_ok {rows : List Row} (S : Sg rows) {t : Tr} (h : t.ok rows) (hs : t.size ≤ 100) : F_check_both [.d (sgD rows), .d t.enc] = .ok (.d .none) [.un, .un] := by
  simp [F_check_both, runBody, m_check_both, check_sig_ok S, check_tree_ok S h hs]
theorem check_both_sig {x y : D} (h : sized x 1 10 = false) : F_check_both [.d x, .d y] = .ex "NoSignature" [.un, .un] := by
  simp [F_check_both, runBody, m_check_both, check_sig_no h]
theorem check_both_tree {rows : List Row} (S : Sg rows) {x : D} (h : sized x 2 2 = false) : F_check_both [.d (sgD rows), .d x] = .ex "NoTree" [.un, .un] := by
  simp [F_check_both, runBody, m_check_both, check_sig_ok S, check_tree_no S h]
end K03
end

section
set_option Elab.async false
set_option linter.all false
set_option maxRecDepth 100000
set_option maxHeartbeats 4000000
/-! # The order of trees -/
namespace K03
open PySem L2 ML
theorem alike_enc : ∀ t u : Tr, PySem.W.alike t.enc u.enc = true
  | .t0 l, u => by cases u <;> simp [Tr.enc, PySem.W.alike, PySem.W.alikeAll]
  | .t1 l a, u => by
    cases u with
    | t0 m => simp [Tr.enc, PySem.W.alike, PySem.W.alikeAll]
    | t1 m c => simp [Tr.enc, PySem.W.alike, PySem.W.alikeAll, alike_enc a c]
    | t2 m c d => simp [Tr.enc, PySem.W.alike, PySem.W.alikeAll, alike_enc a c]
  | .t2 l a b, u => by
    cases u with
    | t0 m => simp [Tr.enc, PySem.W.alike, PySem.W.alikeAll]
    | t1 m c => simp [Tr.enc, PySem.W.alike, PySem.W.alikeAll, alike_enc a c]
    | t2 m c d => simp [Tr.enc, PySem.W.alike, PySem.W.alikeAll, alike_enc a c, alike_enc b d]
theorem alike_key (t u : Tr) : PySem.W.alike t.key u.key = true := by simp [Tr.key, PySem.W.alike, PySem.W.alikeAll, alike_enc t u]
theorem depth_enc : ∀ t : Tr, t.enc.depth ≤ 2 * t.size
  | .t0 l => by simp [Tr.enc, PyData.depth, PyData.depthAll, Tr.size]
  | .t1 l a => by
    have := depth_enc a
    have h := size_pos a
    simp only [Tr.enc, PyData.depth, PyData.depthAll, Tr.size]
    omega
  | .t2 l a b => by
    have := depth_enc a
    have := depth_enc b
    have h := size_pos a
    simp only [Tr.enc, PyData.depth, PyData.depthAll, Tr.size]
    omega
theorem depth_key (t : Tr) : t.key.depth ≤ 2 * t.size + 1 := by
  have := depth_enc t
  simp only [Tr.key, PyData.depth, PyData.depthAll]
  omega
theorem noDct_enc : ∀ t : Tr, noDct t.enc = true
  | .t0 l => by simp [Tr.enc, noDct, noDctA]
  | .t1 l a => by simp [Tr.enc, noDct, noDctA, noDct_enc a]
  | .t2 l a b => by simp [Tr.enc, noDct, noDctA, noDct_enc a, noDct_enc b]
theorem noDct_key (t : Tr) : noDct t.key = true := by simp [Tr.key, noDct, noDctA, noDct_enc t]
theorem nm_strOk {z : Str} (h : Nm z) : PyData.strOk z = true := by
  unfold PyData.strOk
  rw [Array.all_eq_true_iff_forall_mem]
  intro c hc
  have := h.ab c (Array.mem_toList_iff.mpr hc)
  exact decide_eq_true (by omega)
theorem canLay_enc {rows : List Row} (S : Sg rows) : ∀ {t : Tr}, t.ok rows → t.enc.canLay0 = true
  | .t0 l, h => by
    have n := nm_strOk (S.nm _ h)
    simp [Tr.enc, PyData.canLay0, PyData.canLayAll0]; exact n
  | .t1 l a, h => by
    have n := nm_strOk (S.nm _ h.1)
    have i := canLay_enc S h.2
    simp [Tr.enc, PyData.canLay0, PyData.canLayAll0, i]; exact n
  | .t2 l a b, h => by
    have n := nm_strOk (S.nm _ h.1)
    have i := canLay_enc S h.2.1
    have j := canLay_enc S h.2.2
    simp [Tr.enc, PyData.canLay0, PyData.canLayAll0, i, j]; exact n
theorem eqOk_enc {rows : List Row} (S : Sg rows) {t : Tr} (h : t.ok rows) (hs : t.size ≤ 20) : eqOk t.enc = true := by
  have d := depth_enc t
  unfold eqOk SeqAt.shaped
  rw [noDct_enc t, canLay_enc S h, Bool.true_and, Bool.true_and]
  exact decide_eq_true (by omega)
theorem eqv_enc : ∀ t u : Tr, PyData.eqv t.enc u.enc = true ↔ t = u
  | .t0 l, u => by cases u <;> simp [Tr.enc, PyData.eqv, PyData.eqvAll]
  | .t1 l a, u => by
    cases u with
    | t0 m => simp [Tr.enc, PyData.eqv, PyData.eqvAll]
    | t1 m c => simp [Tr.enc, PyData.eqv, PyData.eqvAll, eqv_enc a c]
    | t2 m c d => simp [Tr.enc, PyData.eqv, PyData.eqvAll]
  | .t2 l a b, u => by
    cases u with
    | t0 m => simp [Tr.enc, PyData.eqv, PyData.eqvAll]
    | t1 m c => simp [Tr.enc, PyData.eqv, PyData.eqvAll]
    | t2 m c d => simp [Tr.enc, PyData.eqv, PyData.eqvAll, eqv_enc a c, eqv_enc b d]
theorem eqv_key (t u : Tr) : PyData.eqv t.key u.key = true ↔ t = u := by
  simp [Tr.key, PyData.eqv, PyData.eqvAll, eqv_enc]
  intro e
  rw [e]
/-! ### less -/
def lt (t u : Tr) : Bool := PySem.W.dataLt t.key u.key
theorem lt_irr (t : Tr) : lt t t = false := PyProof.Rows.lex_irrefl _
theorem lt_trans {a b c : Tr} (h : lt a b = true) (h2 : lt b c = true) : lt a c = true := PyProof.Rows.lex_trans _ _ _ h h2
theorem lt_neg {a b c : Tr} (h : lt a c = true) : lt a b = true ∨ lt b c = true := PyProof.Rows.lex_negTrans _ _ _ h
theorem lt_total {a b : Tr} (h : lt a b = false) (h2 : lt b a = false) : a = b := by
  have e := PyProof.Rows.lex_total _ _ h h2
  rw [← eqv_key]
  cases q : PyData.eqv a.key b.key with
  | true => rfl
  | false =>
    exfalso
    have z := (PySem.W.toks_eqv a.key b.key (alike_key a b)).2 q [] [.inl 0]
    rw [e, List.append_nil] at z
    have z1 := PySem.W.lex_pre (PySem.W.keyToks b.key) [] [.inl 0]
    rw [List.append_nil] at z1
    rw [z1, PyProof.Rows.lex_irrefl] at z
    cases z
theorem lt_asym {a b : Tr} (h : lt a b = true) : lt b a = false := by
  cases q : lt b a with
  | false => rfl
  | true => rw [← lt_irr a, lt_trans h q]
theorem ltOk_key {t u : Tr} (hs : t.size ≤ 25) : ltOk t.key u.key = true := by
  have d := depth_key t
  unfold ltOk
  rw [noDct_key, noDct_key, alike_key]
  have h : decide (PyData.depth t.key ≤ MK.DEEP) = true := decide_eq_true (by show _ ≤ 60; omega)
  rw [h]
  rfl
theorem is_ahead_ok {rows : List Row} (S : Sg rows) {t u : Tr} (h : t.ok rows) (h2 : u.ok rows) (hs : t.size ≤ 20) (hs2 : u.size ≤ 20) :
    F_is_ahead [.d (sgD rows), .d t.enc, .d u.enc] = .ok (.d (.bool (lt t u))) [.un, .un, .un] := by
  simp [F_is_ahead, runBody, m_is_ahead, check_both_ok S h (show t.size ≤ 100 by omega), check_tree_ok S h2 (show u.size ≤ 100 by omega), order_key_ok (show t.size ≤ 100 by omega), order_key_ok (show u.size ≤ 100 by omega), ltOk_key (show t.size ≤ 25 by omega), lt]
theorem is_ahead_sig {x y z : D} (h : sized x 1 10 = false) : F_is_ahead [.d x, .d y, .d z] = .ex "NoSignature" [.un, .un, .un] := by
  simp [F_is_ahead, runBody, m_is_ahead, check_both_sig h]
theorem is_ahead_one {rows : List Row} (S : Sg rows) {x z : D} (h : sized x 2 2 = false) : F_is_ahead [.d (sgD rows), .d x, .d z] = .ex "NoTree" [.un, .un, .un] := by
  simp [F_is_ahead, runBody, m_is_ahead, check_both_tree S h]
theorem is_ahead_two {rows : List Row} (S : Sg rows) {t : Tr} (h : t.ok rows) (hs : t.size ≤ 20) {x : D} (hx : sized x 2 2 = false) : F_is_ahead [.d (sgD rows), .d t.enc, .d x] = .ex "NoTree" [.un, .un, .un] := by
  simp [F_is_ahead, runBody, m_is_ahead, check_both_ok S h (show t.size ≤ 100 by omega), check_tree_no S hx]
/-! ### the least -/
def leastT (t : Tr) (ts : List Tr) : Tr := ts.foldl (fun a y => if lt y a then y else a) t
theorem leastT_spec : ∀ (ts : List Tr) (t : Tr), leastT t ts ∈ t :: ts ∧ ∀ y ∈ t :: ts, lt y (leastT t ts) = false
  | [], t => ⟨List.mem_cons_self, fun y hy => by rw [List.mem_singleton.mp hy]; exact lt_irr t⟩
  | u :: ts, t => by
    have e : leastT t (u :: ts) = leastT (if lt u t then u else t) ts := rfl
    obtain ⟨h1, h2⟩ := leastT_spec ts (if lt u t then u else t)
    rw [e]
    generalize leastT (if lt u t then u else t) ts = m at h1 h2
    have h0 := h2 _ List.mem_cons_self
    have ht : lt t m = false ∧ lt u m = false := by
      by_cases q : lt u t = true
      · rw [if_pos q] at h0
        refine ⟨?_, h0⟩
        cases z : lt t m with
        | false => rfl
        | true => rw [← h0, lt_trans q z]
      · rw [if_neg q] at h0
        refine ⟨h0, ?_⟩
        cases z : lt u m with
        | false => rfl
        | true =>
          rcases lt_neg (b := t) z with r | r
          · exact absurd r q
          · rw [h0] at r; cases r
    refine ⟨?_, fun y hy => ?_⟩
    · rcases List.mem_cons.mp h1 with q | q
      · rw [q]
        by_cases r : lt u t = true
        · rw [if_pos r]; simp
        · rw [if_neg r]; simp
      · simp [q]
    · rcases List.mem_cons.mp hy with q | q
      · rw [q]; exact ht.1
      · rcases List.mem_cons.mp q with q | q
        · rw [q]; exact ht.2
        · exact h2 y (List.mem_cons_of_mem _ q)
theorem leastT_same {t u : Tr} {ts us : List Tr} (h : ∀ x, x ∈ t :: ts ↔ x ∈ u :: us) : leastT t ts = leastT u us := by
  obtain ⟨a1, a2⟩ := leastT_spec ts t
  obtain ⟨b1, b2⟩ := leastT_spec us u
  exact lt_total (b2 _ ((h _).mp a1)) (a2 _ ((h _).mpr b1))
theorem minD_key : ∀ (ts : List Tr) (t : Tr), PySem.W.minD t.key (ts.map Tr.key) = (leastT t ts).key
  | [], t => rfl
  | u :: ts, t => by
    have e : PySem.W.minD t.key ((u :: ts).map Tr.key) = PySem.W.minD (if PySem.W.dataLt u.key t.key then u.key else t.key) (ts.map Tr.key) := rfl
    have e2 : leastT t (u :: ts) = leastT (if lt u t then u else t) ts := rfl
    rw [e, e2, ← minD_key ts]
    show PySem.W.minD (if lt u t = true then u.key else t.key) _ = _
    by_cases q : lt u t = true
    · rw [if_pos q, if_pos q]
    · rw [if_neg q, if_neg q]
theorem minOk_keys {ts : List Tr} (h : ∀ t ∈ ts, t.size ≤ 25) : minOk (ts.map Tr.key) = true := by
  have n : ∀ ts : List Tr, noDctA (ts.map Tr.key) = true := by
    intro ts
    induction ts with
    | nil => rfl
    | cons t ts ih => simp [noDct_key, ih, noDctA]
  have d : ∀ ts : List Tr, (∀ t ∈ ts, t.size ≤ 25) → PyData.depthAll (ts.map Tr.key) ≤ 60 := by
    intro ts
    induction ts with
    | nil => intro _; simp [PyData.depthAll]
    | cons t ts ih =>
      intro h
      have a := ih fun x hx => h x (List.mem_cons_of_mem _ hx)
      have b := depth_key t
      have c := h t List.mem_cons_self
      rw [List.map_cons, PyData.depthAll]
      omega
  unfold minOk
  rw [n ts, Bool.true_and]
  refine Bool.and_eq_true_iff.mpr ⟨Bool.and_eq_true_iff.mpr ⟨?_, ?_⟩, decide_eq_true (d ts h)⟩
  · rw [List.all_eq_true]
    intro x hx
    obtain ⟨a, _, rfl⟩ := List.mem_map.mp hx
    rw [List.all_eq_true]
    intro y hy
    obtain ⟨b, _, rfl⟩ := List.mem_map.mp hy
    exact alike_key a b
  · rw [List.all_eq_true]
    intro x hx
    obtain ⟨a, _, rfl⟩ := List.mem_map.mp hx
    rfl
end K03
end

section
set_option Elab.async false
set_option linter.all false
set_option maxRecDepth 100000
set_option maxHeartbeats 4000000
/-! # The least; nodes by the law; the same by the law -/
namespace K03
open PySem L2 ML
theorem compL_mapT {α : Type} {g : GF} {te : M D} {vs : List Nat} {e0 : List Sl} {en f : α → D} : ∀ (ts : List α) (done : List D),
    (∀ t ∈ ts, ∃ e1, g (en t) e0 = some e1 ∧ te e1 = .ok (f t) e1 ∧ wipeE e1 vs = e0) → done.length + ts.length ≤ LIM →
    compL g (ML.ret true) te vs (ts.map en) done e0 = .ok (done ++ ts.map f) e0 := by
  intro ts
  induction ts with
  | nil => intro done _ _; simp [compL]
  | cons t ts ih =>
    intro done h hl
    obtain ⟨e1, h1, h3, h4⟩ := h t List.mem_cons_self
    rw [List.length_cons] at hl
    rw [List.map_cons, compL, h1]
    show (match te e1 with
        | .ok y e3 => if done.length < LIM then compL g (ML.ret true) te vs (ts.map en) (done ++ [y]) (wipeE e3 vs) else .bad
        | _ => .bad) = _
    rw [h3]
    dsimp only
    rw [if_pos (show done.length < LIM by omega), h4, ih _ (fun x hx => h x (List.mem_cons_of_mem _ hx)) (by rw [List.length_append, List.length_singleton]; omega)]
    simp
theorem oComp_mapT {α : Type} {mi : M (List D)} {g : GF} {te : M D} {vs : List Nat} {e e1 : List Sl} {ts : List α} {en f : α → D} (hi : mi e = .ok (ts.map en) e1)
    (h : ∀ t ∈ ts, ∃ e2, g (en t) (wipeE e1 vs) = some e2 ∧ te e2 = .ok (f t) e2 ∧ wipeE e2 vs = wipeE e1 vs) (hl : ts.length ≤ LIM) :
    oComp mi g (ML.ret true) te vs e = .ok (.lst (ts.map f)) (restE e1 (wipeE e1 vs) vs) := by
  unfold oComp ML.bind
  rw [hi]
  dsimp only
  rw [compL_mapT ts [] h (by simpa using hl)]
  rfl
/-! ### least_of -/
abbrev tupD (ts : List Tr) : D := .tuple (ts.map Tr.enc)
theorem least_b2 {rows : List Row} (S : Sg rows) {t : Tr} (h : t.ok rows) (hs : t.size ≤ 20) (x : Sl) : m_least_of_b2 [.d (sgD rows), x, .d t.enc] = .nx [.d (sgD rows), x, .un] := by
  simp [m_least_of_b2, check_tree_ok S h (show t.size ≤ 100 by omega)]
theorem least_b2x {rows : List Row} (S : Sg rows) {y : D} (h : sized y 2 2 = false) (x : Sl) : m_least_of_b2 [.d (sgD rows), x, .d y] = .ex "NoTree" [.d (sgD rows), x, .d y] := by
  simp [m_least_of_b2, check_tree_no S h]
theorem least_for {rows : List Row} (S : Sg rows) (x : Sl) (r : List D) : ∀ (ts : List Tr), (∀ t ∈ ts, t.ok rows ∧ t.size ≤ 20) → forL (gN 2) m_least_of_b2 (ts.map Tr.enc ++ r) [.d (sgD rows), x, .un] = forL (gN 2) m_least_of_b2 r [.d (sgD rows), x, .un]
  | [], _ => rfl
  | t :: ts, h => by
    have b := least_b2 S (h t List.mem_cons_self).1 (h t List.mem_cons_self).2 x
    rw [List.map_cons, List.cons_append, forL]
    simp only [gN_e, List.set]
    rw [b]
    exact least_for S x r ts fun y hy => h y (List.mem_cons_of_mem _ hy)
theorem least_of_ok {rows : List Row} (S : Sg rows) {t : Tr} {ts : List Tr} (h : ∀ x ∈ t :: ts, x.ok rows ∧ x.size ≤ 20) (hl : ts.length ≤ 1000) :
    F_least_of [.d (sgD rows), .d (tupD (t :: ts))] = .ok (.d (leastT t ts).enc) [.un, .un] := by
  have i4 : m_least_of_i4 [.d (sgD rows), .d (tupD (t :: ts)), .un] = .nx [.d (sgD rows), .d (tupD (t :: ts)), .un] := by
    have hne : ¬ ((ts.length : Int) + 1 = 0) := by omega
    simp [m_least_of_i4, hne]
  have w : m_least_of_w3 [.d (sgD rows), .d (tupD (t :: ts)), .un] = .nx [.d (sgD rows), .d (tupD (t :: ts)), .un] := by
    have f := least_for S (.d (tupD (t :: ts))) [] (t :: ts) h
    rw [List.append_nil] at f
    simp [m_least_of_w3]
    simpa [forL] using f
  have o : o_least_of_1 [.d (sgD rows), .d (tupD (t :: ts)), .un] = .ok (.lst ((t :: ts).map Tr.key)) [.d (sgD rows), .d (tupD (t :: ts)), .un] := by
    refine (oComp_mapT (ts := t :: ts) (en := Tr.enc) (f := Tr.key) (e1 := [.d (sgD rows), .d (tupD (t :: ts)), .un]) (by simp) (fun x hx => ?_) ?_).trans (by simp)
    · have k := order_key_ok (t := x) (by have := (h x hx).2; omega)
      exact ⟨[.d (sgD rows), .d (tupD (t :: ts)), .d x.enc], by simp, by simp [m_least_of_c1, k], by simp⟩
    · show (t :: ts).length ≤ 10000000
      rw [List.length_cons]; omega
  have m : minOk (t.key :: ts.map Tr.key) = true := minOk_keys (ts := t :: ts) fun x hx => by have := (h x hx).2; omega
  have k := minD_key ts t
  simp only [F_least_of, runBody, m_least_of, List.length_cons, List.length_nil, Nat.zero_add, if_true, List.cons_append, List.nil_append, List.replicate]
  rw [show (leastT t ts).key = .tuple [.int (leastT t ts).size, (leastT t ts).enc] from rfl] at k
  simp [check_sig_ok S, i4, w, o, m, k]
theorem least_of_sig {x y : D} (h : sized x 1 10 = false) : F_least_of [.d x, .d y] = .ex "NoSignature" [.un, .un] := by
  simp [F_least_of, runBody, m_least_of, check_sig_no h]
theorem least_of_bad {rows : List Row} (S : Sg rows) {ts : List Tr} (h : ∀ x ∈ ts, x.ok rows ∧ x.size ≤ 20) (hl : ts.length ≤ 1000) {y : D} (hy : sized y 2 2 = false) (r : List D) :
    F_least_of [.d (sgD rows), .d (.tuple (ts.map Tr.enc ++ y :: r))] = .ex "NoTree" [.un, .un] := by
  have i4 : m_least_of_i4 [.d (sgD rows), .d (.tuple (ts.map Tr.enc ++ y :: r)), .un] = .nx [.d (sgD rows), .d (.tuple (ts.map Tr.enc ++ y :: r)), .un] := by
    have hne : ¬ ((ts.length : Int) + ((r.length : Int) + 1) = 0) := by omega
    simp [m_least_of_i4, hne]
  have w : m_least_of_w3 [.d (sgD rows), .d (.tuple (ts.map Tr.enc ++ y :: r)), .un] = .ex "NoTree" [.d (sgD rows), .d (.tuple (ts.map Tr.enc ++ y :: r)), .d y] := by
    have f := least_for S (.d (.tuple (ts.map Tr.enc ++ y :: r))) (y :: r) ts h
    have b := least_b2x S hy (.d (.tuple (ts.map Tr.enc ++ y :: r)))
    rw [forL] at f
    simp only [gN_e, List.set] at f
    rw [b] at f
    simp [m_least_of_w3]
    exact f
  simp [F_least_of, runBody, m_least_of, check_sig_ok S, i4, w]
/-! ### nodes -/
theorem sum_map_size : ∀ ts : List Tr, ((ts.map fun t => (t.size : Int))).sum = (total ts : Int)
  | [] => rfl
  | t :: ts => by
    have := sum_map_size ts
    simp [total] at this ⊢
    omega
theorem part_size {t p : Tr} (h : p ∈ t.parts) : p.size < t.size := by
  cases t with
  | t0 l => cases h
  | t1 l a => rw [List.mem_singleton.mp h]; simp [Tr.size]
  | t2 l a b =>
    rcases List.mem_cons.mp h with rfl | h
    · simp [Tr.size]; omega
    · rw [List.mem_singleton.mp h]; simp [Tr.size]; have := size_pos a; omega
theorem nodes_ok : ∀ (n : Nat) (t : Tr), t.size ≤ n → Fr__law_nodes n [.d t.enc] = .ok (.d (.int t.size)) [.un]
  | 0, t, h => by have := size_pos t; omega
  | n + 1, t, h => by
    have o : o__law_nodes_1 (Fr__law_nodes n) [.d t.enc, .un] = .ok (.lst (t.parts.map fun p => PyData.int p.size)) [.d t.enc, .un] := by
      refine (oComp_mapT (ts := t.parts) (en := Tr.enc) (f := fun p => PyData.int p.size) (e1 := [.d t.enc, .un]) (by rw [enc_eq]; simp) (fun p hp => ?_) ?_).trans (by simp)
      · have i := nodes_ok n p (by have := part_size hp; omega)
        exact ⟨[.d t.enc, .d p.enc], by simp, by simp [m__law_nodes_c1, i], by simp⟩
      · have := parts_len t
        show _ ≤ 10000000
        omega
    have d := dInts_map (fun p : Tr => (p.size : Int)) t.parts
    have s := sum_map_size t.parts
    have e := size_eq t
    have e2 : ((t.size : Nat) : Int) = 1 + (total t.parts : Int) := by omega
    rw [e2, Fr__law_nodes]
    simp [runBody, m__law_nodes, o, d, s]
theorem law_nodes_ok {t : Tr} (h : t.size ≤ 20) : F__law_nodes [.d t.enc] = .ok (.d (.int t.size)) [.un] := nodes_ok 40 t (by omega)
/-! ### the same -/
def Ab (z : Str) : Prop := z.length ≤ 20 ∧ ∀ c ∈ z.cps.toList, 97 ≤ c ∧ c ≤ 122
theorem nm_ab {z : Str} (h : Nm z) : Ab z := ⟨by have := h.hi; omega, h.ab⟩
theorem repr_sign : ∀ (q : Fin 40) (c : Fin 123), 97 ≤ c.val → (q.val = 34 ∨ q.val = 39) → (Builtin.Str.reprChar q.val c.val).all (fun x => decide (x < 1114112)) = true := by decide +kernel
theorem quote_or (x : Str) : reprQuote x = 34 ∨ reprQuote x = 39 := by
  unfold reprQuote
  split
  · exact .inl rfl
  · exact .inr rfl
theorem fold_small {q : Nat} (hq : q = 34 ∨ q = 39) : ∀ (l : List Nat) (acc : Array Nat), (∀ c ∈ l, 97 ≤ c ∧ c ≤ 122) → (∀ x ∈ acc.toList, x < 1114112) → ∀ x ∈ (l.foldl (fun out c => out ++ (Builtin.Str.reprChar q c).toArray) acc).toList, x < 1114112
  | [], acc, _, h => h
  | c :: r, acc, hl, h => by
    rw [List.foldl_cons]
    refine fold_small hq r _ (fun d hd => hl d (List.mem_cons_of_mem _ hd)) fun x hx => ?_
    rw [Array.toList_append] at hx
    rcases List.mem_append.mp hx with z | z
    · exact h x z
    · have hc := hl c List.mem_cons_self
      have k := repr_sign ⟨q, by rcases hq with rfl | rfl <;> omega⟩ ⟨c, by omega⟩ hc.1 hq
      exact of_decide_eq_true (List.all_eq_true.mp k x z)
theorem repr_ok {z : Str} (h : Ab z) : (reprText z).length ≤ 10000000 ∧ PyData.strOk (reprText z) = true := by
  refine ⟨?_, ?_⟩
  · have := StrLaws.reprText_len z (fun c hc => by have := h.2 c hc; omega)
    have := h.1
    omega
  · unfold PyData.strOk
    rw [Array.all_eq_true_iff_forall_mem]
    intro x hx
    refine decide_eq_true ?_
    have hx := Array.mem_toList_iff.mpr hx
    unfold reprText at hx
    rw [Array.toList_push] at hx
    rcases List.mem_append.mp hx with z1 | z1
    · rw [← Array.foldl_toList] at z1
      refine fold_small (quote_or z) z.cps.toList _ h.2 (fun y hy => ?_) x z1
      have e : y = reprQuote z := by simpa using hy
      rcases quote_or z with r | r <;> omega
    · have e : x = reprQuote z := by simpa using z1
      rcases quote_or z with r | r <;> omega
def Same (n : Nat) (x : D) : Prop := Fr__law_is n [.d x, .d x] = .ok (.d (.bool true)) [.un, .un]
theorem same_bool (n : Nat) (b : Bool) : Same (n + 1) (.bool b) := by
  have i6 : m__law_is_i6 (Fr__law_is n) [.d (.bool b), .d (.bool b), .un, .un] = .nx [.d (.bool b), .d (.bool b), .un, .un] := by simp [m__law_is_i6]
  have i2 : m__law_is_i2 (Fr__law_is n) [.d (.bool b), .d (.bool b), .un, .un] = .rt (.d (.bool true)) [.d (.bool b), .d (.bool b), .un, .un] := by
    have k : ∀ s : Str, s = "True" ∨ s = "False" → eqOk (.str s) = true := by
      intro s hs
      rcases hs with rfl | rfl <;> exact eqOk_str (by decide +kernel)
    have k2 := k _ (.inl rfl)
    have k3 := k _ (.inr rfl)
    cases b <;> simp [m__law_is_i2, k2, k3]
  unfold Same
  rw [Fr__law_is]
  simp [runBody, m__law_is, i6, i2]
theorem same_str (n : Nat) {z : Str} (h : Ab z) : Same (n + 1) (.str z) := by
  obtain ⟨r1, r2⟩ := repr_ok h
  have i6 : m__law_is_i6 (Fr__law_is n) [.d (.str z), .d (.str z), .un, .un] = .nx [.d (.str z), .d (.str z), .un, .un] := by simp [m__law_is_i6]
  have i2 : m__law_is_i2 (Fr__law_is n) [.d (.str z), .d (.str z), .un, .un] = .nx [.d (.str z), .d (.str z), .un, .un] := by simp [m__law_is_i2]
  have i1 : m__law_is_i1 (Fr__law_is n) [.d (.str z), .d (.str z), .un, .un] = .rt (.d (.bool true)) [.d (.str z), .d (.str z), .un, .un] := by
    have k := eqOk_str r2
    simp [m__law_is_i1, r1, k]
  unfold Same
  rw [Fr__law_is]
  simp [runBody, m__law_is, i6, i2, i1]
theorem zip_same : ∀ xs : List D, zipD xs xs = xs.map fun x => PyData.tuple [x, x]
  | [] => rfl
  | x :: xs => by rw [zipD, List.map_cons, zip_same xs]
theorem pair_same {x : D} (h : sigP x = false) : pairOk (.tuple [x, x]) = true := by
  show (!sigD [x, x]) = true
  unfold sigD
  rw [List.all_cons, h]
  rfl
theorem same_seq {n : Nat} {xs : List D} (hx : ∀ x ∈ xs, Same n x ∧ sigP x = false) (hl : xs.length ≤ 1000) {t : D} (ht : t = .tuple xs ∨ t = .list xs) : Same (n + 1) t := by
  have po : (xs.map fun x => PyData.tuple [x, x]).all pairOk = true := by
    rw [List.all_eq_true]
    intro y hy
    obtain ⟨x, hx2, rfl⟩ := List.mem_map.mp hy
    exact pair_same (hx x hx2).2
  have o : o__law_is_3 (Fr__law_is n) [.d t, .d t, .un, .un] = .ok (.lst (List.replicate xs.length (.bool true))) [.d t, .d t, .un, .un] := by
    rw [← map_rep]
    refine (oComp_mapT (ts := xs) (en := fun x => PyData.tuple [x, x]) (f := fun _ => PyData.bool true) (e1 := [.d t, .d t, .un, .un]) ?_ (fun x hx2 => ?_) ?_).trans (by simp)
    · have po2 : ∀ a ∈ xs, pairOk (.tuple [a, a]) = true := fun a ha => pair_same (hx a ha).2
      rcases ht with rfl | rfl
      · simp [zip_same]
        rw [if_pos po2]
        rfl
      · simp [zip_same]
        rw [if_pos po2]
        rfl
    · have s := (hx x hx2).1
      unfold Same at s
      exact ⟨[.d t, .d t, .d x, .d x], by simp, by simp [m__law_is_c3, s], by simp⟩
    · show _ ≤ 10000000
      omega
  have i5 : m__law_is_i5 (Fr__law_is n) [.d t, .d t, .un, .un] = .nx [.d t, .d t, .un, .un] := by
    rcases ht with rfl | rfl <;> simp [m__law_is_i5]
  have i4 : m__law_is_i4 (Fr__law_is n) [.d t, .d t, .un, .un] = .nx [.d t, .d t, .un, .un] := by
    rcases ht with rfl | rfl <;> simp [m__law_is_i4]
  have i6 : m__law_is_i6 (Fr__law_is n) [.d t, .d t, .un, .un] = .rt (.d (.bool true)) [.d t, .d t, .un, .un] := by
    rcases ht with rfl | rfl <;> simp [m__law_is_i6, i5, i4, o]
  unfold Same
  rw [Fr__law_is]
  simp [runBody, m__law_is, i6]
theorem sigP_enc (t : Tr) : sigP t.enc = false := by cases t <;> simp [Tr.enc]
theorem same_enc {rows : List Row} (S : Sg rows) : ∀ (n : Nat) (t : Tr), t.ok rows → 2 * t.size < n → Same n t.enc
  | 0, t, _, h => by omega
  | 1, t, _, h => by have := size_pos t; omega
  | n + 2, t, ok, h => by
    rw [enc_eq]
    refine same_seq (xs := [.str t.lab, .tuple (t.parts.map Tr.enc)]) (fun x hx => ?_) (by simp) (.inl rfl)
    rcases List.mem_cons.mp hx with rfl | hx
    · exact ⟨same_str n (nm_ab (S.nm _ (ok_lab ok))), rfl⟩
    · rw [List.mem_singleton.mp hx]
      refine ⟨same_seq (xs := t.parts.map Tr.enc) (fun y hy => ?_) (by have := parts_len t; rw [List.length_map]; omega) (.inl rfl), ?_⟩
      · obtain ⟨p, hp, rfl⟩ := List.mem_map.mp hy
        exact ⟨same_enc S n p (ok_parts ok p hp) (by have := part_size hp; omega), sigP_enc p⟩
      · cases t with
        | t0 l => rfl
        | t1 l a =>
          show sigP (.tuple [a.enc]) = false
          cases a <;> rfl
        | t2 l a b =>
          show sigP (.tuple [a.enc, b.enc]) = false
          cases a <;> rfl
theorem is_same {x : D} (h : Same 60 x) : F__law_is [.d x, .d x] = .ok (.d (.bool true)) [.un, .un] := h
end K03
end

section
set_option Elab.async false
set_option linter.all false
set_option maxRecDepth 100000
set_option maxHeartbeats 4000000
/-! # The law's hand and signature -/
namespace K03
open PySem L2 ML
theorem oComp_hand {mi : M (List D)} {g : GF} {te : M D} {vs : List Nat} {e e1 : List Sl} {ds : List D} {enc : List D → List Sl} {h : List D} {Q : D → Prop} (H : HandOk h) (hi : mi e = .ok ds e1) (hw : wipeE e1 vs = enc h)
    (step : ∀ d ∈ ds, ∀ h, HandOk h → ∃ e2 y e3 h', g d (enc h) = some e2 ∧ te e2 = .ok y e3 ∧ wipeE e3 vs = enc h' ∧ HandOk h' ∧ Q y) (hl : ds.length ≤ LIM) :
    ∃ ys h', oComp mi g (ML.ret true) te vs e = .ok (.lst ys) (restE e1 (enc h') vs) ∧ HandOk h' ∧ (∀ y ∈ ys, Q y) ∧ ys.length = ds.length := by
  obtain ⟨ys, h', c1, ⟨_, c2, c3⟩, c4⟩ := compL_to (σ := List D) (enc := enc) (g := g) (te := te) (vs := vs) ds (fun r done h => (∀ d ∈ r, d ∈ ds) ∧ HandOk h ∧ ∀ y ∈ done, Q y) (fun d r done h ⟨p1, p2, p3⟩ => by
    obtain ⟨e2, y, e3, h', s1, s2, s3, s4, s5⟩ := step d (p1 d List.mem_cons_self) h p2
    refine ⟨e2, y, e3, h', s1, s2, s3, fun x hx => p1 x (List.mem_cons_of_mem _ hx), s4, fun z hz => ?_⟩
    rcases List.mem_append.mp hz with q | q
    · exact p3 z q
    · rw [List.mem_singleton.mp q]; exact s5) [] h ⟨fun _ h => h, H, fun y hy => by cases hy⟩ (by simpa using hl)
  refine ⟨ys, h', ?_, c2, c3, by simpa using c4⟩
  unfold oComp ML.bind
  rw [hi]
  dsimp only
  rw [hw, c1]
theorem hand_ok (ns : List Int) (hl : ns.length ≤ 100) : ∃ h, F__law_hand [.sc ns] = .ok (.o (.lst h)) [.un] ∧ HandOk h := by
  have o : ∃ cs : List Int, o__law_hand_1 [.sc ns, .un, .un] = .ok (.lst (cs.map PyData.int)) [.sc ns, .un, .un] ∧ cs.length ≤ 100 := by
    have e : cut (ns.map PyData.int) none (some 63) = (cut ns none (some 63)).map PyData.int := by
      unfold cut
      rw [List.length_map, List.map_take, List.map_drop]
    have ll : (cut ns none (some 63)).length ≤ 100 := by
      unfold cut
      rw [List.length_take, List.length_drop]
      omega
    refine ⟨(cut ns none (some 63)).map fun i => (if i < 0 then -i else i) % (10 ^ 60), ?_, by rw [List.length_map]; exact ll⟩
    rw [List.map_map]
    refine (oComp_mapT (ts := cut ns none (some 63)) (en := PyData.int) (f := PyData.int ∘ fun i => (if i < 0 then -i else i) % (10 ^ 60)) (e1 := [.sc ns, .un, .un]) (by simp [e]) (fun i hi => ?_) ?_).trans (by simp)
    · exact ⟨[.sc ns, .un, .d (.int i)], by simp, by simp [m__law_hand_c1], by simp⟩
    · show _ ≤ 10000000
      omega
  obtain ⟨cs, o, lc⟩ := o
  have s17 : small 17 = true := by decide
  refine ⟨handD cs 0 0 (71009 + 17 * cs.length) 0, ?_, ⟨_, _, _, _, _, rfl, by omega⟩⟩
  simp [F__law_hand, runBody, m__law_hand, o, s17, handD]
/-! ### words -/
theorem joinL_nil : ∀ cs : List Nat, TL.joinL [] (cs.map fun c => [c]) = cs
  | [] => rfl
  | [c] => rfl
  | c :: d :: r => by
    show [c] ++ ([] ++ TL.joinL [] ((d :: r).map fun c => [c])) = _
    rw [joinL_nil (d :: r)]; rfl
theorem join_sg (cs : List Nat) : PySem.Txt.join (Str.ofString "") (cs.map sign) = ⟨cs.toArray⟩ := by
  rw [TL.join_eq]
  have h := TL.tl_join (Str.ofString "") (cs.map sign)
  rw [List.map_map] at h
  have e1 : (TL.tl ∘ sign) = fun c => [c] := rfl
  rw [e1, show TL.tl (Str.ofString "") = [] from rfl, joinL_nil] at h
  have h2 : (PySem.Str.join (Str.ofString "") (cs.map sign)).cps.toList = cs := h
  generalize PySem.Str.join (Str.ofString "") (cs.map sign) = y at h2
  obtain ⟨y⟩ := y
  congr 1
  exact Array.toList_inj.mp (by rw [h2])
theorem sum_len : ∀ cs : List Nat, ((cs.map sign).map (·.length)).sum = cs.length
  | [] => rfl
  | c :: r => by
    rw [List.map_cons, List.map_cons, List.sum_cons, sum_len r, List.length_cons]
    show 1 + r.length = _
    omega
end K03
end

section
set_option Elab.async false
set_option linter.all false
set_option maxRecDepth 100000
set_option maxHeartbeats 4000000
/-! # The law's signature -/
namespace K03
open PySem L2 ML
def IsRank (r : Int) : Prop := r = 0 ∨ r = 1 ∨ r = 2
theorem ranks_ok {h : List D} (H : HandOk h) (k : Nat) (k1 : 1 ≤ k) (k2 : k ≤ 10) : ∃ (rs : List Int) (h' : List D),
    o__law_signature_4 [hS h, .d (.int 4), .d (.int k), .un, .un, .un, .un, .un, .un, .un] = .ok (.lst (rs.map PyData.int)) [hS h', .d (.int 4), .d (.int k), .un, .un, .un, .un, .un, .un, .un] ∧ HandOk h' ∧ (∀ r ∈ rs, IsRank r) ∧ rs.length = k - 1 := by
  have kk : ((k : Int) - 1).natAbs < 4611686018427387904 := by omega
  obtain ⟨ys, h', o1, o2, o3, o4⟩ := oComp_hand (g := gN 9) (te := m__law_signature_c4) (vs := [9]) (e := [hS h, .d (.int 4), .d (.int k), .un, .un, .un, .un, .un, .un, .un])
    (mi := iRg rng1 (aD (e2 gSub (qR 2) (qD (eC (.int 1)))) aNil)) (e1 := [hS h, .d (.int 4), .d (.int k), .un, .un, .un, .un, .un, .un, .un]) (ds := (List.range ((k : Int) - 1).toNat).map fun (i : Nat) => .int (0 + (i : Nat)))
    (enc := fun h => [hS h, .d (.int 4), .d (.int k), .un, .un, .un, .un, .un, .un, .un]) (Q := fun y => ∃ r, y = .int r ∧ IsRank r) H (by simp [kk]) (by simp) (fun d _ h H => by
      obtain ⟨x, h', e, H', hx⟩ := some_ok H (xs := [.int 0, .int 0, .int 1, .int 1, .int 2]) (t := .list [.int 0, .int 0, .int 1, .int 1, .int 2]) (by simp) (by simp) (.inl rfl)
      refine ⟨[hS h, .d (.int 4), .d (.int k), .un, .un, .un, .un, .un, .un, .d d], x, [hS h', .d (.int 4), .d (.int k), .un, .un, .un, .un, .un, .un, .d d], h', by simp, by simp [m__law_signature_c4, e], by simp, H', ?_⟩
      simp at hx
      rcases hx with rfl | rfl | rfl
      · exact ⟨0, rfl, .inl rfl⟩
      · exact ⟨1, rfl, .inr (.inl rfl)⟩
      · exact ⟨2, rfl, .inr (.inr rfl)⟩) (by
      rw [List.length_map, List.length_range]
      show _ ≤ 10000000
      omega)
  obtain ⟨rs, rfl⟩ : ∃ rs : List Int, ys = rs.map PyData.int := by
    clear o1 o4
    induction ys with
    | nil => exact ⟨[], rfl⟩
    | cons y ys ih =>
      obtain ⟨r, rfl, _⟩ := o3 y List.mem_cons_self
      obtain ⟨rs, rfl⟩ := ih fun z hz => o3 z (List.mem_cons_of_mem _ hz)
      exact ⟨r :: rs, rfl⟩
  refine ⟨rs, h', ?_, o2, fun r hr => ?_, ?_⟩
  · unfold o__law_signature_4
    rw [o1]
    simp
  · obtain ⟨r', e, q⟩ := o3 _ (List.mem_map_of_mem hr)
    cases e
    exact q
  · rw [List.length_map, List.length_map, List.length_range] at o4
    omega
/-! ### words -/
def fl : List Nat := [97, 100, 103, 107, 112, 120]
def W (c : Nat) (cs : List Nat) : Str := ⟨(c :: cs).toArray⟩
theorem W_list (c : Nat) (cs : List Nat) : (W c cs).cps.toList = c :: cs := rfl
theorem W_app (c : Nat) (cs : List Nat) : sign c ++ (⟨cs.toArray⟩ : Str) = W c cs := by
  show (⟨#[c] ++ cs.toArray⟩ : Str) = _
  unfold W
  congr 1
  exact Array.toList_inj.mp (by simp)
theorem word_ok {h : List D} (H : HandOk h) (s1 s2 s3 s4 s5 s6 s7 : Sl) : ∃ (cs : List Nat) (h' : List D),
    o__law_signature_1 [hS h, s1, s2, s3, s4, s5, s6, s7, .un, .un] = .ok (.lst (cs.map fun c => PyData.str (sign c))) [hS h', s1, s2, s3, s4, s5, s6, s7, .un, .un] ∧ HandOk h' ∧ (∀ c ∈ cs, 97 ≤ c ∧ c ≤ 122) ∧ cs.length ≤ 3 := by
  obtain ⟨n, h1, d1, H1, n0, n1⟩ := draw_ok H (m := 4) (by decide) (by decide)
  have nn : n.natAbs < 4611686018427387904 := by omega
  obtain ⟨ys, h', o1, o2, o3, o4⟩ := oComp_hand (g := gN 9) (te := m__law_signature_c1) (vs := [9]) (e := [hS h, s1, s2, s3, s4, s5, s6, s7, .un, .un])
    (mi := iRg rng1 (aD (eRv (callM F__law_draw (aR 0 (aD (eC (.int 4)) aNil)))) aNil)) (e1 := [hS h1, s1, s2, s3, s4, s5, s6, s7, .un, .un]) (ds := (List.range n.toNat).map fun (i : Nat) => .int (0 + (i : Nat)))
    (enc := fun h => [hS h, s1, s2, s3, s4, s5, s6, s7, .un, .un]) (Q := fun y => ∃ c, y = .str (sign c) ∧ 97 ≤ c ∧ c ≤ 122) H1 (by simp [d1, nn]) (by simp) (fun d _ h H => by
      obtain ⟨x, h', e, H', hx⟩ := some_ok H (xs := [.str (sign 97), .str (sign 98), .str (sign 113), .str (sign 122)]) (t := .list [.str (sign 97), .str (sign 98), .str (sign 113), .str (sign 122)]) (by simp) (by simp) (.inl rfl)
      have z : ((("abqz" : Str)).cps.toList.map fun c => PyData.str (sign c)) = [.str (sign 97), .str (sign 98), .str (sign 113), .str (sign 122)] := rfl
      have z2 : (("abqz" : Str)).length = 4 := rfl
      refine ⟨[hS h, s1, s2, s3, s4, s5, s6, s7, .un, .d d], x, [hS h', s1, s2, s3, s4, s5, s6, s7, .un, .d d], h', by simp, by simp [m__law_signature_c1, z, z2, e], by simp, H', ?_⟩
      simp at hx
      rcases hx with rfl | rfl | rfl | rfl
      · exact ⟨97, rfl, by decide, by decide⟩
      · exact ⟨98, rfl, by decide, by decide⟩
      · exact ⟨113, rfl, by decide, by decide⟩
      · exact ⟨122, rfl, by decide, by decide⟩) (by
      rw [List.length_map, List.length_range]
      show _ ≤ 10000000
      omega)
  obtain ⟨cs, rfl, hc⟩ : ∃ cs : List Nat, ys = (cs.map fun c => PyData.str (sign c)) ∧ ∀ c ∈ cs, 97 ≤ c ∧ c ≤ 122 := by
    clear o1 o4
    induction ys with
    | nil => exact ⟨[], rfl, fun c hc => by cases hc⟩
    | cons y ys ih =>
      obtain ⟨c, rfl, hc⟩ := o3 y List.mem_cons_self
      obtain ⟨cs, rfl, hcs⟩ := ih fun z hz => o3 z (List.mem_cons_of_mem _ hz)
      exact ⟨c :: cs, rfl, fun x hx => by
        rcases List.mem_cons.mp hx with rfl | hx
        · exact hc
        · exact hcs x hx⟩
  refine ⟨cs, h', ?_, o2, hc, ?_⟩
  · unfold o__law_signature_1
    rw [o1]
    simp
  · rw [List.length_map, List.length_map, List.length_range] at o4
    omega
theorem joinOk_sg (cs : List Nat) (h : cs.length ≤ 100) : joinOk (Str.ofString "") (cs.map sign) = true := by
  unfold joinOk
  rw [sum_len]
  have : (Str.ofString "").length = 0 := rfl
  rw [this]
  exact decide_eq_true (by omega)
theorem sig_b2 {h : List D} (H : HandOk h) (fs : List D) (hf : fs.length ≤ 100) (i : Nat) (c : Nat) (hi : fl[i]? = some c) (r : Int) (s2 s3 s4 : Sl) : ∃ (cs : List Nat) (h' : List D),
    m__law_signature_b2 [hS h, .d (.int 4), s2, s3, s4, .o true (.lst fs), .d (.int i), .d (.int r), .un, .un] = .nx [hS h', .d (.int 4), .un, .un, .un, .o true (.lst (fs ++ [rowD (W c cs, r)])), .un, .un, .un, .un] ∧ HandOk h' ∧ (∀ c ∈ cs, 97 ≤ c ∧ c ≤ 122) ∧ cs.length ≤ 3 := by
  obtain ⟨cs, h', o, H', hc, hl⟩ := word_ok H (.d (.int 4)) s2 s3 s4 (.o true (.lst fs)) (.d (.int i)) (.d (.int r))
  refine ⟨cs, h', ?_, H', hc, hl⟩
  have z : atI (("adgkpx" : Str)).cps.toList (i : Int) = some c := by
    rw [atI_nat]
    exact hi
  have z2 : (("adgkpx" : Str)).length = 6 := rfl
  have ds := dStrs_map (cs.map sign)
  rw [List.map_map] at ds
  have ds2 : dStrs (cs.map fun c => PyData.str (sign c)) = some (cs.map sign) := ds
  have jo := joinOk_sg cs (by omega)
  have jn := join_sg cs
  have lw : (sign c).length + (⟨cs.toArray⟩ : Str).length ≤ 10000000 := by
    show 1 + cs.toArray.size ≤ _
    rw [List.size_toArray]; omega
  have wa := W_app c cs
  have hf2 : fs.length < 10000000 := by omega
  simp [m__law_signature_b2, z, z2, o, ds2, jo, jn, lw, wa, hf2]
end K03
end

section
set_option Elab.async false
set_option linter.all false
set_option maxRecDepth 100000
set_option maxHeartbeats 4000000
/-! # The law's signature, whole -/
namespace K03
open PySem L2 ML
/-- rows as the law draws them -/
def Drawn (rows : List Row) : Prop := ∀ (j : Nat) (p : Row), rows[j]? = some p → ∃ c cs, fl[j]? = some c ∧ p.1 = W c cs ∧ cs.length ≤ 3 ∧ (∀ x ∈ cs, 97 ≤ x ∧ x ≤ 122) ∧ IsRank p.2
theorem sig_loop : ∀ (rs : List Int) (i : Nat) (rows : List Row) (h : List D) (s2 s3 s4 : Sl), i + rs.length ≤ 6 → rows.length = i → (∀ r ∈ rs, IsRank r) → Drawn rows → HandOk h →
    ∃ rows' h' t2 t3 t4, forL (gT (gCons (gN 6) (gCons (gN 7) gNil))) m__law_signature_b2 (enumD i (rs.map PyData.int)) [hS h, .d (.int 4), s2, s3, s4, .o true (.lst (rows.map rowD)), .un, .un, .un, .un]
      = .nx [hS h', .d (.int 4), t2, t3, t4, .o true (.lst (rows'.map rowD)), .un, .un, .un, .un] ∧ HandOk h' ∧ Drawn rows' ∧ rows'.map (·.2) = rows.map (·.2) ++ rs := by
  intro rs
  induction rs with
  | nil =>
    intro i rows h s2 s3 s4 _ _ _ Dr H
    exact ⟨rows, h, s2, s3, s4, by simp [enumD, forL], H, Dr, by simp⟩
  | cons r rs ih =>
    intro i rows h s2 s3 s4 hi hl hr Dr H
    rw [List.length_cons] at hi
    obtain ⟨c, hc⟩ : ∃ c, fl[i]? = some c := ⟨fl[i]'(by show i < 6; omega), List.getElem?_eq_getElem _⟩
    obtain ⟨cs, h1, b, H1, hcs, hcl⟩ := sig_b2 H (rows.map rowD) (by rw [List.length_map]; omega) i c hc r s2 s3 s4
    obtain ⟨rows', h', t2, t3, t4, e, H', D', m'⟩ := ih (i + 1) (rows ++ [(W c cs, r)]) h1 .un .un .un (by omega) (by simp [hl]) (fun x hx => hr x (List.mem_cons_of_mem _ hx)) (fun j p hj => by
      by_cases q : j < rows.length
      · rw [List.getElem?_append_left q] at hj
        exact Dr j p hj
      · rw [List.getElem?_append_right (by omega)] at hj
        have jz : j - rows.length = 0 := by
          by_cases z : j - rows.length = 0
          · exact z
          · rw [List.getElem?_eq_none (by simp; omega)] at hj; cases hj
        rw [jz] at hj
        cases hj
        have je : j = i := by omega
        subst je
        exact ⟨c, cs, hc, rfl, hcl, hcs, hr r List.mem_cons_self⟩) H1
    refine ⟨rows', h', t2, t3, t4, ?_, H', D', by rw [m']; simp⟩
    rw [List.map_cons, enumD, forL]
    have g : gT (gCons (gN 6) (gCons (gN 7) gNil)) (.tuple [.int (i : Nat), .int r]) [hS h, .d (.int 4), s2, s3, s4, .o true (.lst (rows.map rowD)), .un, .un, .un, .un] = some [hS h, .d (.int 4), s2, s3, s4, .o true (.lst (rows.map rowD)), .d (.int (i : Nat)), .d (.int r), .un, .un] := by simp
    rw [g]
    dsimp only
    rw [b]
    dsimp only
    rw [List.map_append, List.map_singleton] at e
    exact e
theorem fl_lt : ∀ i j : Fin 6, i < j → fl.getD i.val 0 < fl.getD j.val 0 := by decide
theorem fl_mono {i j c d : Nat} (h : i < j) (h1 : fl[i]? = some c) (h2 : fl[j]? = some d) : c < d := by
  have j6 : j < 6 := by
    have := (List.getElem?_eq_some_iff.mp h2).1
    exact this
  have q := fl_lt ⟨i, by omega⟩ ⟨j, j6⟩ h
  rw [List.getD_eq_getElem?_getD, List.getD_eq_getElem?_getD, h1, h2] at q
  exact q
theorem fl_ab {i c : Nat} (h : fl[i]? = some c) : 97 ≤ c ∧ c ≤ 122 := by
  have m := List.mem_of_getElem? h
  have : ∀ c ∈ fl, 97 ≤ c ∧ c ≤ 122 := by decide
  exact this c m
theorem W_lt {c d : Nat} {cs ds : List Nat} (h : c < d) : strLt (W c cs) (W d ds) = true := by
  have e : strLt (W c cs) (W d ds) = PyProof.Rows.lexLt PyProof.Rows.itemOrd [Sum.inr (c :: cs)] [Sum.inr (d :: ds)] := rfl
  rw [e, PySem.W.lex_one]
  exact decide_eq_true (List.Lex.rel h)
theorem drawn_sg {rows : List Row} (Dr : Drawn rows) (h1 : 1 ≤ rows.length) (h6 : rows.length ≤ 6) (hz : (0 : Int) ∈ rows.map (·.2)) : Sg rows where
  lo := h1
  hi := by omega
  nm := fun p hp => by
    obtain ⟨j, hj⟩ := List.mem_iff_getElem?.mp hp
    obtain ⟨c, cs, hc, e, hl, ha, _⟩ := Dr j p hj
    rw [e]
    have e2 : (W c cs).length = 1 + cs.length := by
      show (c :: cs).toArray.size = _
      rw [List.size_toArray, List.length_cons]; omega
    refine ⟨by omega, by omega, fun x hx => ?_⟩
    rw [W_list] at hx
    rcases List.mem_cons.mp hx with rfl | hx
    · exact fl_ab hc
    · exact ha x hx
  rk := fun p hp => by
    obtain ⟨j, hj⟩ := List.mem_iff_getElem?.mp hp
    obtain ⟨c, cs, _, _, _, _, r⟩ := Dr j p hj
    exact r
  nd := by
    unfold List.Nodup
    rw [List.pairwise_iff_getElem]
    intro i j hi hj hij e
    rw [List.length_map] at hi hj
    rw [List.getElem_map, List.getElem_map] at e
    obtain ⟨c, cs, c1, c2, _⟩ := Dr i _ (List.getElem?_eq_getElem hi)
    obtain ⟨d, ds, d1, d2, _⟩ := Dr j _ (List.getElem?_eq_getElem hj)
    rw [c2, d2] at e
    have e3 : c :: cs = d :: ds := by rw [← W_list, ← W_list, e]
    have := fl_mono hij c1 d1
    have := (List.cons.inj e3).1
    omega
  rise := fun i a b ha hb => by
    obtain ⟨c, cs, c1, c2, _⟩ := Dr i a ha
    obtain ⟨d, ds, d1, d2, _⟩ := Dr (i + 1) b hb
    rw [c2, d2]
    exact W_lt (fl_mono (Nat.lt_succ_self i) c1 d1)
  zero := by
    obtain ⟨p, hp, e⟩ := List.mem_map.mp hz
    exact ⟨p, hp, e⟩
theorem signature_ok {h : List D} (H : HandOk h) : ∃ (rows : List Row) (h' : List D), F__law_signature [hS h, .d (.int 4)] = .ok (.d (sgD rows)) [hS h', .un] ∧ HandOk h' ∧ Sg rows ∧ rows.length ≤ 4 := by
  obtain ⟨r, h1, d1, H1, r0, r1⟩ := draw_ok H (m := 2) (by decide) (by decide)
  obtain ⟨k, hk⟩ : ∃ k : Nat, 3 + r = (k : Int) := ⟨(3 + r).toNat, by omega⟩
  obtain ⟨rs, h2, ok2, H2, hrs, lrs⟩ := ranks_ok H1 k (by omega) (by omega)
  obtain ⟨t, h3, d3, H3, t0, t1⟩ := draw_ok H2 (m := k) (by omega) (by omega)
  obtain ⟨n, rfl⟩ := Int.eq_ofNat_of_zero_le t0
  have hn : n < k := by omega
  -- the ranks, turned
  have lr : ((0 : Int) :: rs).length = k := by rw [List.length_cons]; omega
  let rs' : List Int := ((0 : Int) :: rs).drop n ++ ((0 : Int) :: rs).take n
  have lrs' : rs'.length = k := by
    show (((0 : Int) :: rs).drop n ++ ((0 : Int) :: rs).take n).length = k
    rw [List.length_append, List.length_drop, List.length_take]
    omega
  have mem : ∀ x, x ∈ rs' ↔ x ∈ (0 : Int) :: rs := fun x => by
    show x ∈ ((0 : Int) :: rs).drop n ++ ((0 : Int) :: rs).take n ↔ _
    rw [List.mem_append, or_comm, ← List.mem_append, List.take_append_drop]
  have hrs' : ∀ x ∈ rs', IsRank x := fun x hx => by
    rcases List.mem_cons.mp ((mem x).mp hx) with q | q
    · exact .inl q
    · exact hrs x q
  have c1 : cut ((PyData.int 0 : D) :: rs.map PyData.int) (some (n : Int)) none = (((0 : Int) :: rs).drop n).map PyData.int := by
    have e : ((PyData.int 0 : D) :: rs.map PyData.int) = ((0 : Int) :: rs).map PyData.int := rfl
    rw [e]
    unfold cut
    rw [HT.sIx_nat, HT.sIx_none, List.length_map, Nat.min_eq_left (by omega), List.map_drop]
    exact List.take_of_length_le (by rw [List.length_drop, List.length_map]; exact Nat.le_refl _)
  have c2 : cut ((PyData.int 0 : D) :: rs.map PyData.int) none (some (n : Int)) = (((0 : Int) :: rs).take n).map PyData.int := by
    have e : ((PyData.int 0 : D) :: rs.map PyData.int) = ((0 : Int) :: rs).map PyData.int := rfl
    rw [e]
    unfold cut
    rw [HT.sIx_nat, HT.sIx_none, List.length_map, Nat.min_eq_left (by omega), List.drop_zero, Nat.sub_zero, List.map_take]
  obtain ⟨rows, h4, u2, u3, u4, w, H4, Dr, m⟩ := sig_loop rs' 0 [] h3 (.d (.int k)) (.o true (.lst (.int 0 :: rs.map PyData.int))) (.d (.int n)) (by omega) rfl hrs' (fun j p hj => by simp at hj) H3
  have m' : rows.map (·.2) = rs' := by rw [m]; rfl
  have lrows : rows.length = k := by rw [← lrs', ← m', List.length_map]
  refine ⟨rows, h4, ?_, H4, drawn_sg Dr (by omega) (by omega) (by rw [m']; exact (mem 0).mpr List.mem_cons_self), by omega⟩
  have l1 : 1 + rs.length ≤ 10000000 := by omega
  have l2 : (((0 : Int) :: rs).drop n).length + (((0 : Int) :: rs).take n).length ≤ 10000000 := by
    rw [List.length_drop, List.length_take]; omega
  have w3 : m__law_signature_w3 [hS h3, .d (.int 4), .d (.int k), .o true (.lst (.int 0 :: rs.map PyData.int)), .d (.int n), .o true (.lst []), .un, .un, .un, .un] = .nx [hS h4, .d (.int 4), u2, u3, u4, .o true (.lst (rows.map rowD)), .un, .un, .un, .un] := by
    rw [m__law_signature_w3, sFor_e, xS_e]
    have it : iEn (eO (o2 gCat (qF (oSl gSlX (qR 3) (ptI (eV 4)) (ML.ret none))) (qF (oSl gSlX (qR 3) (ML.ret none) (ptI (eV 4)))))) [hS h3, .d (.int 4), .d (.int k), .o true (.lst (.int 0 :: rs.map PyData.int)), .d (.int n), .o true (.lst []), .un, .un, .un, .un] = .ok (enumD 0 (rs'.map PyData.int)) [hS h3, .d (.int 4), .d (.int k), .o true (.lst (.int 0 :: rs.map PyData.int)), .d (.int n), .o true (.lst []), .un, .un, .un, .un] := by
      have e : rs'.map PyData.int = (((0 : Int) :: rs).drop n).map PyData.int ++ (((0 : Int) :: rs).take n).map PyData.int := List.map_append
      rw [e]
      have l3 : rs.length + 1 - n + min n (rs.length + 1) ≤ 10000000 := by omega
      simp [c1, c2, l3]
    rw [it]
    exact w
  have sp : sPar 3 4 (aF (o2 gCat (qF (oLst (aD (eC (.int 0)) aNil))) (qF o__law_signature_4)) (aD (eRv (callM F__law_draw (aR 0 (aD (eV 2) aNil)))) aNil)) [hS h1, .d (.int 4), .d (.int k), .un, .un, .un, .un, .un, .un, .un] = .nx [hS h3, .d (.int 4), .d (.int k), .o true (.lst (.int 0 :: rs.map PyData.int)), .d (.int n), .un, .un, .un, .un, .un] := by
    simp [ok2, d3, l1]
  have s2 : sSet 2 (e2 gAdd (qD (eC (.int 3))) (qD (eRv (callM F__law_draw (aR 0 (aD (e2 gSub (qR 1) (qD (eC (.int 2)))) aNil)))))) [hS h, .d (.int 4), .un, .un, .un, .un, .un, .un, .un, .un] = .nx [hS h1, .d (.int 4), .d (.int k), .un, .un, .un, .un, .un, .un, .un] := by
    simp [d1, hk]
  simp only [F__law_signature, runBody, m__law_signature, List.length_cons, List.length_nil, Nat.zero_add, if_true, List.cons_append, List.nil_append, List.replicate]
  rw [sSeq_e, s2]
  dsimp only
  rw [sSeq_e, sp]
  simp [w3]
end K03
end

section
set_option Elab.async false
set_option linter.all false
set_option maxRecDepth 100000
set_option maxHeartbeats 4000000
/-! # A tree drawn -/
namespace K03
open PySem L2 ML
def mk : Str → List Tr → Tr
  | l, [] => .t0 l
  | l, [a] => .t1 l a
  | l, a :: b :: _ => .t2 l a b
theorem enc_mk (l : Str) {qs : List Tr} (h : qs.length ≤ 2) : (mk l qs).enc = .tuple [.str l, .tuple (qs.map Tr.enc)] := by
  match qs, h with
  | [], _ => rfl
  | [a], _ => rfl
  | [a, b], _ => rfl
theorem size_mk (l : Str) {qs : List Tr} (h : qs.length ≤ 2) : (mk l qs).size = 1 + total qs := by
  match qs, h with
  | [], _ => rfl
  | [a], _ => simp [mk, Tr.size, total]
  | [a, b], _ => simp [mk, Tr.size, total]; omega
theorem ok_mk {rows : List Row} {l : Str} {qs : List Tr} (h : qs.length ≤ 2) (m : (l, (qs.length : Int)) ∈ rows) (o : ∀ q ∈ qs, q.ok rows) : (mk l qs).ok rows := by
  match qs, h with
  | [], _ => exact m
  | [a], _ => exact ⟨m, o a (by simp)⟩
  | [a, b], _ => exact ⟨m, o a (by simp), o b (by simp)⟩
/-- the trees of one node, as the rows stand -/
def leaves (rows : List Row) : List Tr := (rows.filter fun p => decide (p.2 = 0)).map fun p => .t0 p.1
def rank0 : D → Bool
  | .tuple [_, .int r] => decide (r = 0)
  | _ => false
def leafD : D → D
  | .tuple [.str l, _] => .tuple [.str l, .tuple []]
  | _ => .none
theorem leaves_eq : ∀ rows : List Row, ((rows.map rowD).filter rank0).map leafD = (leaves rows).map Tr.enc
  | [] => rfl
  | p :: rows => by
    have ih := leaves_eq rows
    unfold leaves at ih ⊢
    rw [List.map_cons, List.filter_cons, List.filter_cons]
    by_cases h : p.2 = 0
    · have e : rank0 (rowD p) = true := decide_eq_true h
      rw [if_pos e, if_pos (decide_eq_true h), List.map_cons, List.map_cons, List.map_cons, ih]
      rfl
    · have e : rank0 (rowD p) = false := decide_eq_false h
      rw [if_neg (by rw [e]; exact Bool.false_ne_true), if_neg (by rw [decide_eq_false h]; exact Bool.false_ne_true), ih]
theorem leaves_ok {rows : List Row} : ∀ t ∈ leaves rows, t.ok rows ∧ t.size = 1 := fun t ht => by
  obtain ⟨p, hp, rfl⟩ := List.mem_map.mp ht
  obtain ⟨h1, h2⟩ := List.mem_filter.mp hp
  have h3 : p.2 = 0 := of_decide_eq_true h2
  refine ⟨?_, rfl⟩
  show (p.1, (0 : Int)) ∈ rows
  rw [← h3]; exact h1
theorem leaves_ne {rows : List Row} (S : Sg rows) : leaves rows ≠ [] := fun z => by
  obtain ⟨p, hp, e⟩ := S.zero
  have : Tr.t0 p.1 ∈ leaves rows := List.mem_map.mpr ⟨p, List.mem_filter.mpr ⟨hp, decide_eq_true e⟩, rfl⟩
  rw [z] at this; cases this
theorem leaves_len (rows : List Row) : (leaves rows).length ≤ rows.length := by
  unfold leaves
  rw [List.length_map]
  exact List.length_filter_le _ _
abbrev encL (ts : List Tr) : Sl := .o true (.lst (ts.map Tr.enc))
abbrev sizL (ts : List Tr) : Sl := .o true (.lst (ts.map fun t => PyData.int t.size))
abbrev tEnv (h : List D) (rows : List Row) (ts : List Tr) (a b c d e f g i : Sl) : List Sl := [hS h, .d (sgD rows), .d (.int 20), encL ts, sizL ts, a, b, c, d, e, f, g, i]
theorem tree_o4 {h : List D} (H : HandOk h) (rows : List Row) {ts : List Tr} (hne : ts ≠ []) (hl : ts.length ≤ 1000) (a b : Sl) (r : Nat) (hr : r ≤ 2) : ∃ (js : List Nat) (h' : List D),
    o__law_tree_4 (tEnv h rows ts a b (.d (.int r)) .un .un .un .un .un) = .ok (.lst (js.map fun j => PyData.int (j : Nat))) (tEnv h' rows ts a b (.d (.int r)) .un .un .un .un .un) ∧ HandOk h' ∧ (∀ j ∈ js, j < ts.length) ∧ js.length = r := by
  have lp : 0 < ts.length := List.length_pos_iff.mpr hne
  have kk : r < 4611686018427387904 := by omega
  obtain ⟨ys, h', o1, o2, o3, o4⟩ := oComp_hand (g := gN 11) (te := m__law_tree_c4) (vs := [11]) (e := tEnv h rows ts a b (.d (.int r)) .un .un .un .un .un)
    (mi := iRg rng1 (aD (eV 7) aNil)) (e1 := tEnv h rows ts a b (.d (.int r)) .un .un .un .un .un) (ds := (List.range ((r : Int)).toNat).map fun (i : Nat) => .int (0 + (i : Nat)))
    (enc := fun h => tEnv h rows ts a b (.d (.int r)) .un .un .un .un .un) (Q := fun y => ∃ j : Nat, y = .int j ∧ j < ts.length) H (by simp [kk]) (by simp) (fun d _ h H => by
      obtain ⟨n, h', e, H', n0, n1⟩ := draw_ok H (m := ts.length) (by omega) (by omega)
      obtain ⟨j, rfl⟩ := Int.eq_ofNat_of_zero_le n0
      exact ⟨tEnv h rows ts a b (.d (.int r)) .un .un .un (.d d) .un, .int j, tEnv h' rows ts a b (.d (.int r)) .un .un .un (.d d) .un, h', by simp, by simp [m__law_tree_c4, e], by simp, H', j, rfl, by omega⟩) (by
      rw [List.length_map, List.length_range]
      show _ ≤ 10000000
      omega)
  obtain ⟨js, rfl, hj⟩ : ∃ js : List Nat, ys = (js.map fun j => PyData.int (j : Nat)) ∧ ∀ j ∈ js, j < ts.length := by
    clear o1 o4
    induction ys with
    | nil => exact ⟨[], rfl, fun c hc => by cases hc⟩
    | cons y ys ih =>
      obtain ⟨c, rfl, hc⟩ := o3 y List.mem_cons_self
      obtain ⟨cs, rfl, hcs⟩ := ih fun z hz => o3 z (List.mem_cons_of_mem _ hz)
      exact ⟨c :: cs, rfl, fun x hx => by
        rcases List.mem_cons.mp hx with rfl | hx
        · exact hc
        · exact hcs x hx⟩
  refine ⟨js, h', ?_, o2, hj, ?_⟩
  · unfold o__law_tree_4
    rw [o1]
    simp
  · rw [List.length_map, List.length_map, List.length_range] at o4
    omega
/-- the trees at these places -/
def nth (ts : List Tr) (j : Nat) : Tr := ts.getD j (.t0 ⟨#[]⟩)
theorem nth_get {ts : List Tr} {j : Nat} (h : j < ts.length) : nth ts j = ts[j] := by
  unfold nth
  rw [List.getD_eq_getElem?_getD, List.getElem?_eq_getElem h]
  rfl
def pick (ts : List Tr) (js : List Nat) : List Tr := js.map fun j => nth ts j
theorem pick_mem {ts : List Tr} {js : List Nat} (h : ∀ j ∈ js, j < ts.length) : ∀ t ∈ pick ts js, t ∈ ts := fun t ht => by
  obtain ⟨j, hj, rfl⟩ := List.mem_map.mp ht
  rw [nth_get (h j hj)]
  exact List.getElem_mem _
theorem pick_get {ts : List Tr} {j : Nat} (h : j < ts.length) {β : Type} (f : Tr → β) : atI (ts.map f) (j : Int) = some (f (nth ts j)) := by
  rw [atI_nat, List.getElem?_map, nth_get h, List.getElem?_eq_getElem h]
  rfl
theorem tree_b5 {h : List D} (H : HandOk h) {rows : List Row} (S : Sg rows) {ts : List Tr} (hne : ts ≠ []) (hl : ts.length ≤ 500) (hok : ∀ t ∈ ts, t.ok rows ∧ t.size ≤ 20) (a : D) : ∃ (ts' : List Tr) (h' : List D),
    m__law_tree_b5 (tEnv h rows ts (.d a) .un .un .un .un .un .un .un) = .nx (tEnv h' rows ts' .un .un .un .un .un .un .un .un) ∧ HandOk h' ∧ ts' ≠ [] ∧ ts'.length ≤ ts.length + 1 ∧ ∀ t ∈ ts', t.ok rows ∧ t.size ≤ 20 := by
  obtain ⟨x, h1, e1, H1, mx⟩ := some_ok H (xs := rows.map rowD) (t := sgD rows) (by rw [List.length_map]; have := S.lo; omega) (by rw [List.length_map]; have := S.hi; omega) (.inr rfl)
  obtain ⟨p, hp, rfl⟩ := List.mem_map.mp mx
  obtain ⟨r, hr, r2⟩ : ∃ r : Nat, p.2 = (r : Int) ∧ r ≤ 2 := by
    rcases S.rk p hp with q | q | q
    · exact ⟨0, q, by omega⟩
    · exact ⟨1, q, by omega⟩
    · exact ⟨2, q, by omega⟩
  obtain ⟨js, h2, o4, H2, hj, lj⟩ := tree_o4 H1 rows hne (by omega) (.d a) (.d (.str p.1)) r r2
  have lq : (pick ts js).length = r := by unfold pick; rw [List.length_map, lj]
  have sum : ((js.map fun j => ((nth ts j).size : Int))).sum = (total (pick ts js) : Int) := by
    rw [← sum_map_size]
    unfold pick
    rw [List.map_map]
    rfl
  have o3 : o__law_tree_3 (tEnv h2 rows ts (.d a) (.d (.str p.1)) (.d (.int r)) (.o true (.lst (js.map fun j => PyData.int (j : Nat)))) .un .un .un .un) = .ok (.lst (js.map fun j => PyData.int ((nth ts j).size : Nat))) (tEnv h2 rows ts (.d a) (.d (.str p.1)) (.d (.int r)) (.d (.list (js.map fun j => PyData.int (j : Nat)))) .un .un .un .un) := by
    refine (oComp_mapT (ts := js) (en := fun j => PyData.int (j : Nat)) (f := fun j => PyData.int ((nth ts j).size : Nat)) (e1 := tEnv h2 rows ts (.d a) (.d (.str p.1)) (.d (.int r)) (.d (.list (js.map fun j => PyData.int (j : Nat)))) .un .un .un .un) (by simp) (fun j hj2 => ?_) ?_).trans (by simp)
    · have g := pick_get (hj j hj2) (fun t => PyData.int t.size)
      exact ⟨tEnv h2 rows ts (.d a) (.d (.str p.1)) (.d (.int r)) (.d (.list (js.map fun j => PyData.int (j : Nat)))) .un .un .un (.d (.int (j : Nat))), by simp, by simp [m__law_tree_c3]; rw [g]; rfl, by simp⟩
    · show _ ≤ 10000000
      omega
  have o1 : ∀ z : Sl, o__law_tree_1 (tEnv h2 rows ts (.d a) (.d (.str p.1)) (.d (.int r)) (.d (.list (js.map fun j => PyData.int (j : Nat)))) z .un .un .un) = .ok (.lst ((pick ts js).map Tr.enc)) (tEnv h2 rows ts (.d a) (.d (.str p.1)) (.d (.int r)) (.d (.list (js.map fun j => PyData.int (j : Nat)))) z .un .un .un) := fun z => by
    unfold pick
    rw [List.map_map]
    refine (oComp_mapT (ts := js) (en := fun j => PyData.int (j : Nat)) (f := Tr.enc ∘ fun j => nth ts j) (e1 := tEnv h2 rows ts (.d a) (.d (.str p.1)) (.d (.int r)) (.d (.list (js.map fun j => PyData.int (j : Nat)))) z .un .un .un) (by simp) (fun j hj2 => ?_) ?_).trans (by simp)
    · have g := pick_get (hj j hj2) Tr.enc
      exact ⟨tEnv h2 rows ts (.d a) (.d (.str p.1)) (.d (.int r)) (.d (.list (js.map fun j => PyData.int (j : Nat)))) z .un .un (.d (.int (j : Nat))), by simp, by simp [m__law_tree_c1]; rw [g]; rfl, by simp⟩
    · show _ ≤ 10000000
      omega
  have di : dInts (js.map fun j => PyData.int ((nth ts j).size : Nat)) = some (js.map fun j => ((nth ts j).size : Int)) := dInts_map _ js
  by_cases c : 0 < r ∧ 1 + total (pick ts js) ≤ 20
  · have c1 : (0 : Int) < (r : Int) := by omega
    have c2 : 1 + (total (pick ts js) : Int) ≤ 20 := by omega
    have em := enc_mk p.1 (qs := pick ts js) (by omega)
    have sm := size_mk p.1 (qs := pick ts js) (by omega)
    have l1 : ts.length < 10000000 := by omega
    have sm2 : ((mk p.1 (pick ts js)).size : Int) = 1 + (total (pick ts js) : Int) := by omega
    have i2 : m__law_tree_i2 (tEnv h2 rows ts (.d a) (.d (.str p.1)) (.d (.int r)) (.d (.list (js.map fun j => PyData.int (j : Nat)))) (.d (.int (1 + (total (pick ts js) : Int)))) .un .un .un) = .nx (tEnv h2 rows (ts ++ [mk p.1 (pick ts js)]) (.d a) (.d (.str p.1)) (.d (.int r)) (.d (.list (js.map fun j => PyData.int (j : Nat)))) (.d (.int (1 + (total (pick ts js) : Int)))) .un .un .un) := by
      have o1' := o1 (.d (.int (1 + (total (pick ts js) : Int))))
      have c1n := c.1
      simp [m__law_tree_i2, c1n, c2, o1', l1, em, sm2]
    refine ⟨ts ++ [mk p.1 (pick ts js)], h2, ?_, H2, by simp, by simp, fun t ht => ?_⟩
    · have e1' : F__law_some [hS h, .d (sgD rows)] = .ok (.d (.tuple [.str p.1, .int (r : Nat)])) [hS h1, .un] := by rw [← hr]; exact e1
      simp [m__law_tree_b5, e1', o4, o3, di, sum, i2]
    · rcases List.mem_append.mp ht with q | q
      · exact hok t q
      · rw [List.mem_singleton.mp q]
        refine ⟨ok_mk (by omega) ?_ fun q hq => (hok q (pick_mem hj q hq)).1, by omega⟩
        rw [lq, ← hr]
        exact hp
  · have i2 : m__law_tree_i2 (tEnv h2 rows ts (.d a) (.d (.str p.1)) (.d (.int r)) (.d (.list (js.map fun j => PyData.int (j : Nat)))) (.d (.int (1 + (total (pick ts js) : Int)))) .un .un .un) = .nx (tEnv h2 rows ts (.d a) (.d (.str p.1)) (.d (.int r)) (.d (.list (js.map fun j => PyData.int (j : Nat)))) (.d (.int (1 + (total (pick ts js) : Int)))) .un .un .un) := by
      by_cases c1 : 0 < r
      · have c2 : ¬ (1 + (total (pick ts js) : Int) ≤ 20) := by omega
        simp [m__law_tree_i2, c1, c2]
      · simp [m__law_tree_i2, c1]
    refine ⟨ts, h2, ?_, H2, hne, by omega, hok⟩
    have e1' : F__law_some [hS h, .d (sgD rows)] = .ok (.d (.tuple [.str p.1, .int (r : Nat)])) [hS h1, .un] := by rw [← hr]; exact e1
    simp [m__law_tree_b5, e1', o4, o3, di, sum, i2]
theorem tree_w {rows : List Row} (S : Sg rows) : ∀ (ds : List D) (ts : List Tr) (h : List D), HandOk h → ts ≠ [] → ts.length + ds.length ≤ 500 → (∀ t ∈ ts, t.ok rows ∧ t.size ≤ 20) → ∃ (ts' : List Tr) (h' : List D),
    forL (gN 5) m__law_tree_b5 ds (tEnv h rows ts .un .un .un .un .un .un .un .un) = .nx (tEnv h' rows ts' .un .un .un .un .un .un .un .un) ∧ HandOk h' ∧ ts' ≠ [] ∧ ∀ t ∈ ts', t.ok rows ∧ t.size ≤ 20 := by
  intro ds
  induction ds with
  | nil => intro ts h H hne _ hok; exact ⟨ts, h, rfl, H, hne, hok⟩
  | cons d ds ih =>
    intro ts h H hne hl hok
    rw [List.length_cons] at hl
    obtain ⟨ts1, h1, b, H1, n1, l1, ok1⟩ := tree_b5 H S hne (by omega) hok d
    obtain ⟨ts2, h2, e, H2, n2, ok2⟩ := ih ts1 h1 H1 n1 (by omega) ok1
    refine ⟨ts2, h2, ?_, H2, n2, ok2⟩
    rw [forL]
    simp only [gN_e, List.set]
    rw [b]
    exact e
theorem law_tree_ok {h : List D} (H : HandOk h) {rows : List Row} (S : Sg rows) : ∃ (t : Tr) (h' : List D), F__law_tree [hS h, .d (sgD rows), .d (.int 20)] = .ok (.d t.enc) [hS h', .un, .un] ∧ HandOk h' ∧ t.ok rows ∧ t.size ≤ 20 := by
  have ll := leaves_len rows
  have sh := S.hi
  have o8 : o__law_tree_8 [hS h, .d (sgD rows), .d (.int 20), .un, .un, .un, .un, .un, .un, .un, .un, .un, .un] = .ok (.lst ((leaves rows).map Tr.enc)) [hS h, .d (sgD rows), .d (.int 20), .un, .un, .un, .un, .un, .un, .un, .un, .un, .un] := by
    rw [← leaves_eq]
    refine (oComp_filter (p := rank0) (f := leafD) (ds := rows.map rowD) (e1 := [hS h, .d (sgD rows), .d (.int 20), .un, .un, .un, .un, .un, .un, .un, .un, .un, .un]) (by simp) (fun d hd => ?_) ?_).trans (by simp)
    · obtain ⟨z, r, rfl, _, _, _⟩ := sig_rows S hd
      exact ⟨[hS h, .d (sgD rows), .d (.int 20), .un, .un, .un, .d (.str z), .d (.int r), .un, .un, .un, .un, .un], by simp, by simp [rank0], fun _ => by simp [m__law_tree_c8, leafD], by simp⟩
    · rw [List.length_map]
      show _ ≤ 10000000
      omega
  have o7 : o__law_tree_7 [hS h, .d (sgD rows), .d (.int 20), encL (leaves rows), .un, .un, .un, .un, .un, .un, .un, .un, .un] = .ok (.lst ((leaves rows).map fun t => PyData.int t.size)) [hS h, .d (sgD rows), .d (.int 20), encL (leaves rows), .un, .un, .un, .un, .un, .un, .un, .un, .un] := by
    have e : (leaves rows).map (fun t => PyData.int (t.size : Nat)) = (leaves rows).map fun _ => PyData.int 1 := List.map_congr_left fun t ht => by rw [(leaves_ok t ht).2]; rfl
    rw [e]
    have c := compL_mapT (g := gN 10) (te := m__law_tree_c7) (vs := [10]) (e0 := [hS h, .d (sgD rows), .d (.int 20), .un, .un, .un, .un, .un, .un, .un, .un, .un, .un]) (en := Tr.enc) (f := fun _ => PyData.int 1) (leaves rows) [] (fun t _ => ⟨[hS h, .d (sgD rows), .d (.int 20), .un, .un, .un, .un, .un, .un, .un, .d t.enc, .un, .un], by simp, by simp [m__law_tree_c7], by simp⟩) (by
      show 0 + _ ≤ 10000000
      omega)
    rw [List.nil_append] at c
    simp [o__law_tree_7, oCompO, c]
  obtain ⟨ts, h', w, H', ne, ok⟩ := tree_w S ((List.range 7).map fun (i : Nat) => .int (0 + (i : Nat))) (leaves rows) h H (leaves_ne S) (by rw [List.length_map, List.length_range]; omega) (fun t ht => by
    have := leaves_ok t ht
    exact ⟨this.1, by omega⟩)
  have w6 : m__law_tree_w6 [hS h, .d (sgD rows), .d (.int 20), encL (leaves rows), sizL (leaves rows), .un, .un, .un, .un, .un, .un, .un, .un] = .nx (tEnv h' rows ts .un .un .un .un .un .un .un .un) := by
    rw [m__law_tree_w6, sFor_e, xS_e]
    have it : iRg rng1 (aD (eC (.int 7)) aNil) [hS h, .d (sgD rows), .d (.int 20), encL (leaves rows), sizL (leaves rows), .un, .un, .un, .un, .un, .un, .un, .un] = .ok ((List.range 7).map fun (i : Nat) => .int (0 + (i : Nat))) [hS h, .d (sgD rows), .d (.int 20), encL (leaves rows), sizL (leaves rows), .un, .un, .un, .un, .un, .un, .un, .un] := rfl
    rw [it]
    exact w
  rcases List.eq_nil_or_concat ts with q | ⟨us, t, q⟩
  · exact absurd q ne
  rw [List.concat_eq_append] at q
  subst q
  refine ⟨t, h', ?_, H', ok t (by simp)⟩
  have at_ : atI ((us ++ [t]).map Tr.enc) (-1) = some t.enc := by
    unfold atI ixN
    rw [List.length_map, List.length_append, List.length_singleton]
    rw [if_neg (by decide), if_pos (by omega)]
    have e : ((-1 : Int) + ((us.length + 1 : Nat) : Int)).toNat = us.length := by omega
    rw [e, List.map_append, List.map_singleton]
    show ((us.map Tr.enc) ++ [t.enc])[us.length]? = _
    rw [List.getElem?_append_right (by rw [List.length_map]; exact Nat.le_refl _), List.length_map, Nat.sub_self]
    rfl
  simp [F__law_tree, runBody, m__law_tree, o8]
  simp at o7 w6 at_
  simp [o7, w6, at_]
end K03
end

section
set_option Elab.async false
set_option linter.all false
set_option maxRecDepth 100000
set_option maxHeartbeats 4000000
/-! # All trees of a signature, by the law -/
namespace K03
open PySem L2 ML
abbrev LL (ts : List Tr) : D := .list (ts.map Tr.enc)
def rowAt (R : List (List Tr)) (i : Nat) : List Tr := R.getD i []
theorem row_get {R : List (List Tr)} {i : Nat} (h : i < R.length) : atI (R.map LL) (i : Int) = some (LL (rowAt R i)) := by
  unfold rowAt
  rw [atI_nat, List.getElem?_map, List.getD_eq_getElem?_getD, List.getElem?_eq_getElem h]
  rfl
abbrev nEnv (rows : List Row) (R : List (List Tr)) (s : Sl) (fd : List Tr) (a b c d e f : Sl) : List Sl := [.d (sgD rows), .d (.int 4), .o true (.lst (R.map LL)), s, .o true (.lst (fd.map Tr.enc)), a, b, c, d, e, f]
/-- trees of two parts, the first from a, the second from a row -/
def two (l : Str) (as bs : List Tr) : List Tr := as.flatMap fun a => bs.map (Tr.t2 l a)
theorem two_cons {l : Str} {a : Tr} {as bs : List Tr} : two l (a :: as) bs = bs.map (Tr.t2 l a) ++ two l as bs := rfl
theorem tr_o3 {rows : List Row} {R : List (List Tr)} {s f : Nat} (hf : 1 ≤ f) (hs : f + 1 < s + 1) (hR : s ≤ R.length) (fd : List Tr) (l : Str) (r : Sl) (a : Tr) (hl : (rowAt R (s - 1 - f)).length ≤ 10000000) :
    o__law_trees_3 (nEnv rows R (.d (.int s)) fd (.d (.str l)) r (.d (.int f)) (.d a.enc) .un .un) = .ok (.lst (((rowAt R (s - 1 - f)).map (Tr.t2 l a)).map Tr.enc)) (nEnv rows R (.d (.int s)) fd (.d (.str l)) r (.d (.int f)) (.d a.enc) .un .un) := by
  have hx : atI (R.map LL) ((s : Int) - 1 - (f : Int)) = some (LL (rowAt R (s - 1 - f))) := by
    rw [show ((s : Int) - 1 - (f : Int)) = ((s - 1 - f : Nat) : Int) by omega]
    exact row_get (by omega)
  rw [List.map_map]
  refine (oComp_mapT (ts := rowAt R (s - 1 - f)) (en := Tr.enc) (f := Tr.enc ∘ Tr.t2 l a) (e1 := nEnv rows R (.d (.int s)) fd (.d (.str l)) r (.d (.int f)) (.d a.enc) .un .un) (by simp [hx]) (fun t ht => ?_) hl).trans (by simp)
  exact ⟨nEnv rows R (.d (.int s)) fd (.d (.str l)) r (.d (.int f)) (.d a.enc) .un (.d t.enc), by simp, by simp [m__law_trees_c3, Tr.enc], by simp⟩
theorem tr_w5 {rows : List Row} {R : List (List Tr)} {s f : Nat} (hf : 1 ≤ f) (hs : f + 1 < s + 1) (hR : s ≤ R.length) (l : Str) (r : Sl) : ∀ (as fd : List Tr) (z : Sl), fd.length + (two l as (rowAt R (s - 1 - f))).length ≤ 10000000 → (rowAt R (s - 1 - f)).length ≤ 10000000 →
    ∃ z', forL (gN 8) m__law_trees_b4 (as.map Tr.enc) (nEnv rows R (.d (.int s)) fd (.d (.str l)) r (.d (.int f)) z .un .un) = .nx (nEnv rows R (.d (.int s)) (fd ++ two l as (rowAt R (s - 1 - f))) (.d (.str l)) r (.d (.int f)) z' .un .un) := by
  intro as
  induction as with
  | nil => intro fd z _ _; exact ⟨z, by simp [two, forL]⟩
  | cons a as ih =>
    intro fd z hl hb
    rw [two_cons, List.length_append, List.length_map] at hl
    have o := tr_o3 (rows := rows) hf hs hR fd l r a hb
    have hl2 : fd.length + (rowAt R (s - 1 - f)).length ≤ 10000000 := by omega
    have b4 : m__law_trees_b4 (nEnv rows R (.d (.int s)) fd (.d (.str l)) r (.d (.int f)) (.d a.enc) .un .un) = .nx (nEnv rows R (.d (.int s)) (fd ++ (rowAt R (s - 1 - f)).map (Tr.t2 l a)) (.d (.str l)) r (.d (.int f)) .un .un .un) := by
      simp at o
      simp [m__law_trees_b4, o, hl2]
    obtain ⟨z', e⟩ := ih (fd ++ (rowAt R (s - 1 - f)).map (Tr.t2 l a)) .un (by rw [List.length_append, List.length_map]; omega) hb
    refine ⟨z', ?_⟩
    rw [List.map_cons, forL]
    simp only [gN_e, List.set]
    rw [b4]
    dsimp only
    rw [e, two_cons, List.append_assoc]
/-- what one row gives: two parts -/
def gen2 (p : Row) (R : List (List Tr)) (s : Nat) (fs : List Nat) : List Tr := fs.flatMap fun f => two p.1 (if p.2 = 2 then rowAt R f else []) (rowAt R (s - 1 - f))
theorem gen2_cons {p : Row} {R : List (List Tr)} {s f : Nat} {fs : List Nat} : gen2 p R s (f :: fs) = two p.1 (if p.2 = 2 then rowAt R f else []) (rowAt R (s - 1 - f)) ++ gen2 p R s fs := rfl
theorem tr_w7 {rows : List Row} {R : List (List Tr)} {s : Nat} (hR : s ≤ R.length) (p : Row) (hb : ∀ i, (rowAt R i).length ≤ 10000000) : ∀ (fs : List Nat) (fd : List Tr) (y z : Sl), (∀ f ∈ fs, 1 ≤ f ∧ f < s) → fd.length + (gen2 p R s fs).length ≤ 10000000 →
    ∃ y' z', forL (gN 7) m__law_trees_b6 (fs.map fun f => PyData.int (f : Nat)) (nEnv rows R (.d (.int s)) fd (.d (.str p.1)) (.d (.int p.2)) y z .un .un) = .nx (nEnv rows R (.d (.int s)) (fd ++ gen2 p R s fs) (.d (.str p.1)) (.d (.int p.2)) y' z' .un .un) := by
  intro fs
  induction fs with
  | nil => intro fd y z _ _; exact ⟨y, z, by simp [gen2, forL]⟩
  | cons f fs ih =>
    intro fd y z hfs hl
    rw [gen2_cons, List.length_append] at hl
    obtain ⟨f1, f2⟩ := hfs f List.mem_cons_self
    obtain ⟨z', w⟩ := tr_w5 (rows := rows) f1 (by omega) hR p.1 (.d (.int p.2)) (if p.2 = 2 then rowAt R f else []) fd z (by omega) (hb _)
    have b6 : m__law_trees_b6 (nEnv rows R (.d (.int s)) fd (.d (.str p.1)) (.d (.int p.2)) (.d (.int f)) z .un .un) = .nx (nEnv rows R (.d (.int s)) (fd ++ two p.1 (if p.2 = 2 then rowAt R f else []) (rowAt R (s - 1 - f))) (.d (.str p.1)) (.d (.int p.2)) .un .un .un .un) := by
      have hx : atI (R.map LL) (f : Int) = some (LL (rowAt R f)) := row_get (by omega)
      by_cases q : p.2 = 2
      · rw [if_pos q] at w ⊢
        rw [q] at w ⊢
        try simp at w
        simp [m__law_trees_b6, m__law_trees_w5, hx, w]
      · rw [if_neg q] at w ⊢
        try simp at w
        simp [m__law_trees_b6, m__law_trees_w5, q, w]
    obtain ⟨y2, z2, e⟩ := ih (fd ++ two p.1 (if p.2 = 2 then rowAt R f else []) (rowAt R (s - 1 - f))) .un .un (fun g hg => hfs g (List.mem_cons_of_mem _ hg)) (by rw [List.length_append]; omega)
    refine ⟨y2, z2, ?_⟩
    rw [List.map_cons, forL]
    simp only [gN_e, List.set]
    rw [b6]
    dsimp only
    rw [e, gen2_cons, List.append_assoc]
/-- .. one part -/
def gen1 (p : Row) (R : List (List Tr)) (s : Nat) : List Tr := if p.2 = 1 then (rowAt R (s - 1)).map (Tr.t1 p.1) else []
def genP (p : Row) (R : List (List Tr)) (s : Nat) : List Tr := gen1 p R s ++ gen2 p R s (List.range' 1 (s - 2))
theorem rngs (n : Nat) : ((List.range n).map fun (k : Nat) => (PyData.int (1 + (k : Nat)) : D)) = (List.range' 1 n).map fun f => PyData.int (f : Nat) := by
  rw [List.range'_eq_map_range, List.map_map]
  refine List.map_congr_left fun k _ => ?_
  show PyData.int _ = PyData.int _
  congr 1
theorem tr_b10 {rows : List Row} {R : List (List Tr)} {s : Nat} (s2 : 2 ≤ s) (s3 : s ≤ 100) (hR : s ≤ R.length) (p : Row) (hb : ∀ i, (rowAt R i).length ≤ 10000000) (fd : List Tr) (hl : fd.length + (genP p R s).length ≤ 10000000) :
    m__law_trees_b10 (nEnv rows R (.d (.int s)) fd (.d (.str p.1)) (.d (.int p.2)) .un .un .un .un) = .nx (nEnv rows R (.d (.int s)) (fd ++ genP p R s) .un .un .un .un .un .un) := by
  unfold genP at hl
  rw [List.length_append] at hl
  have hx : atI (R.map LL) ((s : Int) - 1) = some (LL (rowAt R (s - 1))) := by
    rw [show ((s : Int) - 1) = ((s - 1 : Nat) : Int) by omega]
    exact row_get (by omega)
  have i9 : m__law_trees_i9 (nEnv rows R (.d (.int s)) fd (.d (.str p.1)) (.d (.int p.2)) .un .un .un .un) = .nx (nEnv rows R (.d (.int s)) (fd ++ gen1 p R s) (.d (.str p.1)) (.d (.int p.2)) .un .un .un .un) := by
    by_cases q : p.2 = 1
    · have o8 : o__law_trees_8 (nEnv rows R (.d (.int s)) fd (.d (.str p.1)) (.d (.int p.2)) .un .un .un .un) = .ok (.lst (((rowAt R (s - 1)).map (Tr.t1 p.1)).map Tr.enc)) (nEnv rows R (.d (.int s)) fd (.d (.str p.1)) (.d (.int p.2)) .un .un .un .un) := by
        rw [List.map_map]
        refine (oComp_mapT (ts := rowAt R (s - 1)) (en := Tr.enc) (f := Tr.enc ∘ Tr.t1 p.1) (e1 := nEnv rows R (.d (.int s)) fd (.d (.str p.1)) (.d (.int p.2)) .un .un .un .un) (by simp [hx]) (fun t ht => ?_) (hb _)).trans (by simp)
        exact ⟨nEnv rows R (.d (.int s)) fd (.d (.str p.1)) (.d (.int p.2)) .un (.d t.enc) .un .un, by simp, by simp [m__law_trees_c8, Tr.enc], by simp⟩
      unfold gen1 at hl ⊢
      rw [if_pos q] at hl ⊢
      rw [List.length_map] at hl
      have hl2 : fd.length + (rowAt R (s - 1)).length ≤ 10000000 := by omega
      rw [q] at o8 ⊢
      simp at o8
      simp [m__law_trees_i9, o8, hl2]
    · unfold gen1
      rw [if_neg q]
      simp [m__law_trees_i9, q]
  obtain ⟨y', z', w⟩ := tr_w7 (rows := rows) hR p hb (List.range' 1 (s - 2)) (fd ++ gen1 p R s) .un .un (fun f hf => by
    have := List.mem_range'_1.mp hf
    omega) (by rw [List.length_append]; omega)
  have w7 : m__law_trees_w7 (nEnv rows R (.d (.int s)) (fd ++ gen1 p R s) (.d (.str p.1)) (.d (.int p.2)) .un .un .un .un) = .nx (nEnv rows R (.d (.int s)) (fd ++ genP p R s) (.d (.str p.1)) (.d (.int p.2)) y' z' .un .un) := by
    rw [m__law_trees_w7, sFor_e, xS_e]
    have it : iRg rng2 (aD (eC (.int 1)) (aD (e2 gSub (qR 3) (qD (eC (.int 1)))) aNil)) (nEnv rows R (.d (.int s)) (fd ++ gen1 p R s) (.d (.str p.1)) (.d (.int p.2)) .un .un .un .un) = .ok ((List.range' 1 (s - 2)).map fun f => PyData.int (f : Nat)) (nEnv rows R (.d (.int s)) (fd ++ gen1 p R s) (.d (.str p.1)) (.d (.int p.2)) .un .un .un .un) := by
      rw [← rngs]
      have k1 : ((s : Int) - 1).natAbs < 4611686018427387904 := by omega
      have k2 : ((s : Int) - 1 - 1).toNat = s - 2 := by omega
      simp [k1, k2]
    rw [it]
    dsimp only
    rw [w]
    unfold genP
    rw [List.append_assoc]
  have z1 := i9
  try simp at i9
  try simp at w7
  simp [m__law_trees_b10, i9, w7]
end K03
end

section
set_option Elab.async false
set_option linter.all false
set_option maxRecDepth 100000
set_option maxHeartbeats 4000000
/-! # All trees: sorted rows, their order -/
namespace K03
open PySem L2 ML
def ltE (t u : Tr) : Bool := PySem.W.dataLt t.enc u.enc
def leT (t u : Tr) : Bool := MK.leD t.enc u.enc
theorem leT_eq (t u : Tr) : leT t u = !ltE u t := rfl
theorem ltE_trans {a b c : Tr} (h : ltE a b = true) (h2 : ltE b c = true) : ltE a c = true := PyProof.Rows.lex_trans _ _ _ h h2
theorem ltE_neg {a b c : Tr} (h : ltE a c = true) : ltE a b = true ∨ ltE b c = true := PyProof.Rows.lex_negTrans _ _ _ h
theorem ltE_irr (a : Tr) : ltE a a = false := PyProof.Rows.lex_irrefl _
theorem ltE_total {a b : Tr} (h : ltE a b = false) (h2 : ltE b a = false) : a = b := by
  have e := PyProof.Rows.lex_total _ _ h h2
  rw [← eqv_enc]
  cases q : PyData.eqv a.enc b.enc with
  | true => rfl
  | false =>
    exfalso
    have z := (PySem.W.toks_eqv a.enc b.enc (alike_enc a b)).2 q [] [.inl 0]
    rw [e, List.append_nil] at z
    have z1 := PySem.W.lex_pre (PySem.W.keyToks b.enc) [] [.inl 0]
    rw [List.append_nil] at z1
    rw [z1, PyProof.Rows.lex_irrefl] at z
    cases z
theorem leT_trans (a b c : Tr) (h : leT a b = true) (h2 : leT b c = true) : leT a c = true := by
  rw [leT_eq] at h h2 ⊢
  cases q : ltE c a with
  | false => rfl
  | true =>
    rcases ltE_neg (b := b) q with r | r
    · rw [r] at h2; cases h2
    · rw [r] at h; cases h
theorem leT_total (a b : Tr) : (leT a b || leT b a) = true := by
  rw [leT_eq, leT_eq]
  cases q : ltE b a with
  | false => rfl
  | true =>
    cases r : ltE a b with
    | false => rfl
    | true =>
      have := ltE_trans q r
      rw [ltE_irr] at this; cases this
/-- among trees of one size -/
theorem lt_same {t u : Tr} (hs : t.size = u.size) (ne : t ≠ u) : lt t u = ltE t u := by
  have e1 : lt t u = PyProof.Rows.lexLt PyProof.Rows.itemOrd (PySem.W.keyToksAll [.int t.size, t.enc]) (PySem.W.keyToksAll [.int u.size, u.enc]) := rfl
  rw [e1, hs, PySem.W.dataLt_all_yes (by simp [PySem.W.alike]) (by simp), PySem.W.dataLt_all_no (alike_enc t u)]
  · rfl
  · cases q : PyData.eqv t.enc u.enc with
    | false => rfl
    | true => exact absurd ((eqv_enc t u).mp q) ne
theorem lt_size {t u : Tr} (hs : t.size < u.size) : lt t u = true := by
  have e1 : lt t u = PyProof.Rows.lexLt PyProof.Rows.itemOrd (PySem.W.keyToksAll [.int t.size, t.enc]) (PySem.W.keyToksAll [.int u.size, u.enc]) := rfl
  rw [e1, PySem.W.dataLt_all_no (by simp [PySem.W.alike]) (by simp; omega)]
  have e2 : PySem.W.dataLt (.int t.size) (.int u.size) = PyProof.Rows.lexLt PyProof.Rows.itemOrd [Sum.inl (t.size : Int)] [Sum.inl (u.size : Int)] := rfl
  rw [e2, PySem.W.lex_one]
  exact decide_eq_true (by omega)
/-- rows in order -/
abbrev Up (ts : List Tr) : Prop := ts.Pairwise fun a b => lt a b = true
def srt (ts : List Tr) : List Tr := ts.mergeSort leT
theorem srt_mem {ts : List Tr} {t : Tr} : t ∈ srt ts ↔ t ∈ ts := List.mem_mergeSort
theorem srt_up {ts : List Tr} {n : Nat} (nd : ts.Nodup) (hs : ∀ t ∈ ts, t.size = n) : Up (srt ts) := by
  have p := List.pairwise_mergeSort leT_trans leT_total ts
  have nd2 : (srt ts).Nodup := (List.mergeSort_perm ts leT).nodup_iff.mpr nd
  have both := List.Pairwise.and p nd2
  refine List.Pairwise.imp_of_mem (fun {a b} ha hb h => ?_) both
  obtain ⟨h1, h2⟩ := h
  have sa := hs a (srt_mem.mp ha)
  have sb := hs b (srt_mem.mp hb)
  rw [lt_same (by omega) h2]
  rw [leT_eq] at h1
  cases q : ltE a b with
  | true => rfl
  | false =>
    have h1 : (!ltE b a) = true := h1
    cases r : ltE b a with
    | true => rw [r] at h1; cases h1
    | false => exact absurd (ltE_total q r) h2
/-! ### what the rows give -/
structure RowOk (rows : List Row) (i : Nat) (ts : List Tr) : Prop where
  ok : ∀ t ∈ ts, t.ok rows ∧ t.size = i
  nd : ts.Nodup
theorem genP_lab {p : Row} {R : List (List Tr)} {s : Nat} {t : Tr} (h : t ∈ genP p R s) : t.lab = p.1 := by
  rcases List.mem_append.mp h with q | q
  · unfold gen1 at q
    split at q
    · obtain ⟨a, _, rfl⟩ := List.mem_map.mp q; rfl
    · cases q
  · obtain ⟨f, _, hf⟩ := List.mem_flatMap.mp q
    obtain ⟨a, _, ha⟩ := List.mem_flatMap.mp hf
    obtain ⟨b, _, rfl⟩ := List.mem_map.mp ha
    rfl
theorem genP_ok {rows : List Row} {p : Row} (hp : p ∈ rows) {R : List (List Tr)} {s : Nat} (s2 : 2 ≤ s) (hR : ∀ i, i < s → RowOk rows i (rowAt R i)) : ∀ t ∈ genP p R s, t.ok rows ∧ t.size = s := fun t ht => by
  rcases List.mem_append.mp ht with q | q
  · unfold gen1 at q
    split at q
    · rename_i e
      obtain ⟨a, ha, rfl⟩ := List.mem_map.mp q
      obtain ⟨o, z⟩ := (hR (s - 1) (by omega)).ok a ha
      refine ⟨⟨?_, o⟩, ?_⟩
      · rw [← e]; exact hp
      · simp [Tr.size]; omega
    · cases q
  · obtain ⟨f, hf, q⟩ := List.mem_flatMap.mp q
    have hf := List.mem_range'_1.mp hf
    obtain ⟨a, ha, q⟩ := List.mem_flatMap.mp q
    obtain ⟨b, hb, rfl⟩ := List.mem_map.mp q
    split at ha
    · rename_i e
      obtain ⟨o1, z1⟩ := (hR f (by omega)).ok a ha
      obtain ⟨o2, z2⟩ := (hR (s - 1 - f) (by omega)).ok b hb
      refine ⟨⟨?_, o1, o2⟩, ?_⟩
      · rw [← e]; exact hp
      · simp [Tr.size]; omega
    · cases ha
theorem nodup_map {α β : Type} {f : α → β} (hf : ∀ a b, f a = f b → a = b) {xs : List α} (h : xs.Nodup) : (xs.map f).Nodup := by
  unfold List.Nodup at h ⊢
  rw [List.pairwise_map]
  exact h.imp fun {a b} ne e => ne (hf a b e)
theorem two_nodup {l : Str} {as bs : List Tr} (ha : as.Nodup) (hb : bs.Nodup) : (two l as bs).Nodup := by
  unfold two List.Nodup
  rw [List.pairwise_flatMap]
  refine ⟨fun a _ => nodup_map (fun x y e => by injection e) hb, ha.imp fun {a b} ne x hx y hy e => ?_⟩
  obtain ⟨c, _, rfl⟩ := List.mem_map.mp hx
  obtain ⟨d, _, rfl⟩ := List.mem_map.mp hy
  injection e with e1 e2
  exact ne e2
theorem genP_nodup {rows : List Row} {p : Row} {R : List (List Tr)} {s : Nat} (s2 : 2 ≤ s) (hR : ∀ i, i < s → RowOk rows i (rowAt R i)) : (genP p R s).Nodup := by
  unfold genP
  by_cases q : p.2 = 1
  · have e2 : gen2 p R s (List.range' 1 (s - 2)) = [] := by
      unfold gen2
      rw [List.flatMap_eq_nil_iff]
      intro f _
      rw [if_neg (by omega)]
      rfl
    unfold gen1
    rw [if_pos q, e2, List.append_nil]
    exact nodup_map (fun x y e => by injection e) (hR (s - 1) (by omega)).nd
  · have e1 : gen1 p R s = [] := by unfold gen1; rw [if_neg q]
    rw [e1, List.nil_append]
    unfold gen2 List.Nodup
    rw [List.pairwise_flatMap]
    refine ⟨fun f hf => ?_, ?_⟩
    · have hf := List.mem_range'_1.mp hf
      split
      · exact two_nodup (hR f (by omega)).nd (hR _ (by omega)).nd
      · exact two_nodup List.nodup_nil (hR _ (by omega)).nd
    · have nr : (List.range' 1 (s - 2)).Nodup := List.nodup_range'
      refine List.Pairwise.imp_of_mem (fun {f g} hf hg ne x hx y hy e => ?_) nr
      have hf := List.mem_range'_1.mp hf
      have hg := List.mem_range'_1.mp hg
      obtain ⟨a, ha, hx⟩ := List.mem_flatMap.mp hx
      obtain ⟨b, hb, rfl⟩ := List.mem_map.mp hx
      obtain ⟨c, hc, hy⟩ := List.mem_flatMap.mp hy
      obtain ⟨d, hd, rfl⟩ := List.mem_map.mp hy
      injection e with e1 e2 e3
      split at ha
      · rename_i e4
        rw [if_pos e4] at hc
        have z1 := ((hR f (by omega)).ok a ha).2
        have z2 := ((hR g (by omega)).ok c hc).2
        rw [e2] at z1
        omega
      · cases ha
def genA (rows : List Row) (R : List (List Tr)) (s : Nat) : List Tr := rows.flatMap fun p => genP p R s
theorem genA_ok {rows : List Row} (S : Sg rows) {R : List (List Tr)} {s : Nat} (s2 : 2 ≤ s) (hR : ∀ i, i < s → RowOk rows i (rowAt R i)) : RowOk rows s (genA rows R s) where
  ok := fun t ht => by
    obtain ⟨p, hp, h⟩ := List.mem_flatMap.mp ht
    exact genP_ok hp s2 hR t h
  nd := by
    unfold genA List.Nodup
    rw [List.pairwise_flatMap]
    refine ⟨fun p _ => genP_nodup s2 hR, ?_⟩
    have nd := S.nd
    unfold List.Nodup at nd
    rw [List.pairwise_map] at nd
    refine nd.imp fun {p q} ne x hx y hy e => ne ?_
    rw [← genP_lab hx, ← genP_lab hy, e]
theorem two_len {l : Str} {as bs : List Tr} : (two l as bs).length = as.length * bs.length := by
  induction as with
  | nil => simp [two]
  | cons a as ih => rw [two_cons, List.length_append, List.length_map, ih, List.length_cons, Nat.succ_mul]; omega
theorem gen2_len {p : Row} {R : List (List Tr)} {s B : Nat} (hB : ∀ i, (rowAt R i).length ≤ B) : ∀ fs : List Nat, (gen2 p R s fs).length ≤ fs.length * (B * B)
  | [] => Nat.zero_le _
  | f :: fs => by
    have ih := gen2_len (p := p) (s := s) hB fs
    have h1 : (two p.1 (if p.2 = 2 then rowAt R f else []) (rowAt R (s - 1 - f))).length ≤ B * B := by
      rw [two_len]
      refine Nat.mul_le_mul ?_ (hB _)
      split
      · exact hB f
      · exact Nat.zero_le _
    rw [gen2_cons, List.length_append, List.length_cons, Nat.succ_mul]
    omega
theorem genP_len {p : Row} {R : List (List Tr)} {s B : Nat} (hB : ∀ i, (rowAt R i).length ≤ B) : (genP p R s).length ≤ B + (s - 2) * (B * B) := by
  have h := gen2_len (p := p) (s := s) hB (List.range' 1 (s - 2))
  rw [List.length_range'] at h
  have h1 : (gen1 p R s).length ≤ B := by
    unfold gen1
    split
    · rw [List.length_map]; exact hB _
    · exact Nat.zero_le _
  unfold genP
  rw [List.length_append]
  omega
theorem genA_len {R : List (List Tr)} {s C : Nat} : ∀ {rows : List Row}, (∀ p, (genP p R s).length ≤ C) → (genA rows R s).length ≤ rows.length * C
  | [], _ => Nat.zero_le _
  | p :: rows, h => by
    have ih := genA_len (rows := rows) h
    have hp := h p
    have e : genA (p :: rows) R s = genP p R s ++ genA rows R s := rfl
    rw [e, List.length_append, List.length_cons, Nat.succ_mul]
    omega
end K03
end

section
set_option Elab.async false
set_option linter.all false
set_option maxRecDepth 100000
set_option maxHeartbeats 4000000
/-! # All trees: the law's list -/
namespace K03
open PySem L2 ML
theorem genA_cons {p : Row} {rows : List Row} {R : List (List Tr)} {s : Nat} : genA (p :: rows) R s = genP p R s ++ genA rows R s := rfl
theorem tr_w11 {rows : List Row} {R : List (List Tr)} {s : Nat} (s2 : 2 ≤ s) (s3 : s ≤ 100) (hR : s ≤ R.length) (hb : ∀ i, (rowAt R i).length ≤ 10000000) : ∀ (rs : List Row) (fd : List Tr), fd.length + (genA rs R s).length ≤ 10000000 →
    forL (gT (gCons (gN 5) (gCons (gN 6) gNil))) m__law_trees_b10 (rs.map rowD) (nEnv rows R (.d (.int s)) fd .un .un .un .un .un .un) = .nx (nEnv rows R (.d (.int s)) (fd ++ genA rs R s) .un .un .un .un .un .un) := by
  intro rs
  induction rs with
  | nil => intro fd _; simp [genA, forL]
  | cons p rs ih =>
    intro fd hl
    rw [genA_cons, List.length_append] at hl
    have b := tr_b10 (rows := rows) s2 s3 hR p hb fd (by omega)
    have i := ih (fd ++ genP p R s) (by rw [List.length_append]; omega)
    rw [List.map_cons, forL]
    have g : gT (gCons (gN 5) (gCons (gN 6) gNil)) (rowD p) (nEnv rows R (.d (.int s)) fd .un .un .un .un .un .un) = some (nEnv rows R (.d (.int s)) fd (.d (.str p.1)) (.d (.int p.2)) .un .un .un .un) := by simp
    rw [g]
    dsimp only
    rw [b]
    dsimp only
    rw [i, genA_cons, List.append_assoc]
theorem sort_ok {ts : List Tr} (h : ∀ t ∈ ts, t.size ≤ 25) : sortOk (ts.map Tr.enc) = true := by
  have n : ∀ ts : List Tr, noDctA (ts.map Tr.enc) = true := by
    intro ts
    induction ts with
    | nil => rfl
    | cons t ts ih => simp [noDct_enc, ih, noDctA]
  unfold sortOk
  rw [n ts, Bool.true_and]
  refine Bool.and_eq_true_iff.mpr ⟨Bool.and_eq_true_iff.mpr ⟨?_, ?_⟩, ?_⟩
  · rw [List.all_eq_true]
    intro x hx
    obtain ⟨a, _, rfl⟩ := List.mem_map.mp hx
    rw [List.all_eq_true]
    intro y hy
    obtain ⟨b, _, rfl⟩ := List.mem_map.mp hy
    exact alike_enc a b
  · refine Bool.or_eq_true_iff.mpr (.inl ?_)
    rw [List.all_eq_true]
    intro x hx
    obtain ⟨a, _, rfl⟩ := List.mem_map.mp hx
    rw [enc_eq]; rfl
  · rw [List.all_eq_true]
    intro x hx
    obtain ⟨a, ha, rfl⟩ := List.mem_map.mp hx
    have d := depth_enc a
    have s := h a ha
    exact decide_eq_true (by show _ ≤ 60; omega)
theorem sort_map (ts : List Tr) : (ts.map Tr.enc).mergeSort MK.leD = (srt ts).map Tr.enc :=
  (List.map_mergeSort (r := leT) (s := MK.leD) (f := Tr.enc) (l := ts) (fun a _ b _ => rfl)).symm
theorem srt_len (ts : List Tr) : (srt ts).length = ts.length := List.length_mergeSort ts
theorem tr_b12 {rows : List Row} {R : List (List Tr)} {s : Nat} (s2 : 2 ≤ s) (s3 : s ≤ 20) (hR : s ≤ R.length) (hR2 : R.length ≤ 1000) (hb : ∀ i, (rowAt R i).length ≤ 10000000) (hl : (genA rows R s).length ≤ 10000000) (hs : ∀ t ∈ genA rows R s, t.size ≤ 25) :
    m__law_trees_b12 [.d (sgD rows), .d (.int 4), .o true (.lst (R.map LL)), .d (.int s), .un, .un, .un, .un, .un, .un, .un] = .nx [.d (sgD rows), .d (.int 4), .o true (.lst ((R ++ [srt (genA rows R s)]).map LL)), .un, .un, .un, .un, .un, .un, .un, .un] := by
  have w := tr_w11 (rows := rows) s2 (by omega) hR hb rows [] (by simpa using hl)
  have w11 : m__law_trees_w11 (nEnv rows R (.d (.int s)) [] .un .un .un .un .un .un) = .nx (nEnv rows R (.d (.int s)) (genA rows R s) .un .un .un .un .un .un) := by
    rw [m__law_trees_w11, sFor_e, xS_e]
    have it : iD (eV 0) (nEnv rows R (.d (.int s)) [] .un .un .un .un .un .un) = .ok (rows.map rowD) (nEnv rows R (.d (.int s)) [] .un .un .un .un .un .un) := rfl
    rw [it]
    dsimp only
    rw [w]
    rfl
  have so := sort_ok hs
  have sm := sort_map (genA rows R s)
  have l1 : R.length < 10000000 := by omega
  have w11' : m__law_trees_w11 [.d (sgD rows), .d (.int 4), .o true (.lst (R.map LL)), .d (.int s), .o true (.lst []), .un, .un, .un, .un, .un, .un] = .nx (nEnv rows R (.d (.int s)) (genA rows R s) .un .un .un .un .un .un) := w11
  simp [m__law_trees_b12, w11', so, sm, l1]
theorem rowAt_app {R : List (List Tr)} {x : List Tr} {i : Nat} : rowAt (R ++ [x]) i = if i < R.length then rowAt R i else if i = R.length then x else [] := by
  unfold rowAt
  rw [List.getD_eq_getElem?_getD, List.getD_eq_getElem?_getD]
  by_cases h : i < R.length
  · rw [if_pos h, List.getElem?_append_left h]
  · rw [if_neg h, List.getElem?_append_right (by omega)]
    by_cases e : i = R.length
    · rw [if_pos e, e, Nat.sub_self]; rfl
    · rw [if_neg e, List.getElem?_eq_none (by simp; omega)]; rfl
structure Rows (rows : List Row) (R : List (List Tr)) (s B : Nat) : Prop where
  len : R.length = s
  ok : ∀ i, i < s → RowOk rows i (rowAt R i)
  up : ∀ i, Up (rowAt R i)
  le : ∀ i, (rowAt R i).length ≤ B
theorem rows_step {rows : List Row} (S : Sg rows) {R : List (List Tr)} {s B C : Nat} (s2 : 2 ≤ s) (G : Rows rows R s B) (hC : rows.length * (B + (s - 2) * (B * B)) ≤ C) (hB : B ≤ C) : Rows rows (R ++ [srt (genA rows R s)]) (s + 1) C where
  len := by rw [List.length_append, G.len]; rfl
  ok := fun i hi => by
    have ga := genA_ok S s2 G.ok
    rw [rowAt_app, G.len]
    by_cases h : i < s
    · rw [if_pos h]; exact G.ok i h
    · have e : i = s := by omega
      subst e
      rw [if_neg h, if_pos rfl]
      exact ⟨fun t ht => ga.ok t (srt_mem.mp ht), (List.mergeSort_perm _ leT).nodup_iff.mpr ga.nd⟩
  up := fun i => by
    have ga := genA_ok S s2 G.ok
    rw [rowAt_app]
    split
    · exact G.up i
    · split
      · exact srt_up ga.nd fun t ht => (ga.ok t ht).2
      · exact List.Pairwise.nil
  le := fun i => by
    rw [rowAt_app]
    split
    · exact Nat.le_trans (G.le i) hB
    · split
      · rw [srt_len]
        exact Nat.le_trans (genA_len fun p => genP_len G.le) hC
      · exact Nat.zero_le _
theorem leaves_nodup {rows : List Row} (S : Sg rows) : (leaves rows).Nodup := by
  have nd := S.nd
  unfold List.Nodup at nd
  rw [List.pairwise_map] at nd
  unfold leaves List.Nodup
  rw [List.pairwise_map]
  exact (nd.filter _).imp fun {p q} ne e => ne (by injection e)
theorem rows_base {rows : List Row} (S : Sg rows) (h4 : rows.length ≤ 4) : Rows rows [[], srt (leaves rows)] 2 4 where
  len := rfl
  ok := fun i hi => by
    match i, hi with
    | 0, _ => exact ⟨fun t ht => (by cases ht), List.nodup_nil⟩
    | 1, _ => exact ⟨fun t ht => leaves_ok t (srt_mem.mp ht), (List.mergeSort_perm _ leT).nodup_iff.mpr (leaves_nodup S)⟩
  up := fun i => by
    match i with
    | 0 => exact List.Pairwise.nil
    | 1 => exact srt_up (leaves_nodup S) fun t ht => (leaves_ok t ht).2
    | i + 2 => exact List.Pairwise.nil
  le := fun i => by
    match i with
    | 0 => exact Nat.zero_le _
    | 1 =>
      show (srt (leaves rows)).length ≤ 4
      rw [srt_len]
      exact Nat.le_trans (leaves_len rows) h4
    | i + 2 => exact Nat.zero_le _
theorem flat_up {rows : List Row} {R : List (List Tr)} {s B : Nat} (G : Rows rows R s B) : Up R.flatten := by
  have at_ : ∀ i (h : i < R.length), R[i] = rowAt R i := fun i h => by
    unfold rowAt
    rw [List.getD_eq_getElem?_getD, List.getElem?_eq_getElem h]; rfl
  unfold Up
  rw [List.pairwise_flatten]
  refine ⟨fun l hl => ?_, ?_⟩
  · obtain ⟨i, hi, rfl⟩ := List.mem_iff_getElem.mp hl
    rw [at_ i hi]
    exact G.up i
  · rw [List.pairwise_iff_getElem]
    intro i j hi hj hij x hx y hy
    rw [at_ i hi] at hx
    rw [at_ j hj] at hy
    rw [G.len] at hi hj
    have a := ((G.ok i hi).ok x hx).2
    have b := ((G.ok j hj).ok y hy).2
    exact lt_size (by omega)
theorem flat_ok {rows : List Row} {R : List (List Tr)} {s B : Nat} (G : Rows rows R s B) : ∀ t ∈ R.flatten, t.ok rows ∧ t.size < s := fun t ht => by
  obtain ⟨l, hl, ht⟩ := List.mem_flatten.mp ht
  obtain ⟨i, hi, rfl⟩ := List.mem_iff_getElem.mp hl
  have e : R[i] = rowAt R i := by
    unfold rowAt
    rw [List.getD_eq_getElem?_getD, List.getElem?_eq_getElem hi]; rfl
  rw [e] at ht
  rw [G.len] at hi
  have a := (G.ok i hi).ok t ht
  exact ⟨a.1, by omega⟩
theorem tr_w2 {rows : List Row} : ∀ (R : List (List Tr)) (fd : List Tr) (a b : Sl), fd.length + R.flatten.length ≤ 10000000 → ∃ a' b', forL (gN 9) m__law_trees_b1 (R.map LL) [.d (sgD rows), .d (.int 4), a, .un, .o true (.lst (fd.map Tr.enc)), .un, .un, .un, .un, b, .un] = .nx [.d (sgD rows), .d (.int 4), a', .un, .o true (.lst ((fd ++ R.flatten).map Tr.enc)), .un, .un, .un, .un, b', .un] := by
  intro R
  induction R with
  | nil => intro fd a b _; exact ⟨a, b, by simp [forL]⟩
  | cons r R ih =>
    intro fd a b hl
    rw [List.flatten_cons, List.length_append] at hl
    have l1 : fd.length + r.length ≤ 10000000 := by omega
    have b1 : m__law_trees_b1 [.d (sgD rows), .d (.int 4), a, .un, .o true (.lst (fd.map Tr.enc)), .un, .un, .un, .un, .d (LL r), .un] = .nx [.d (sgD rows), .d (.int 4), .un, .un, .o true (.lst ((fd ++ r).map Tr.enc)), .un, .un, .un, .un, .un, .un] := by
      simp [m__law_trees_b1, l1]
    obtain ⟨a', b', e⟩ := ih (fd ++ r) .un .un (by rw [List.length_append]; omega)
    refine ⟨a', b', ?_⟩
    rw [List.map_cons, forL]
    simp only [gN_e, List.set]
    rw [b1]
    dsimp only
    rw [e, List.flatten_cons, List.append_assoc]
theorem law_trees_ok {rows : List Row} (S : Sg rows) (h4 : rows.length ≤ 4) : ∃ ts : List Tr, F__law_trees [.d (sgD rows), .d (.int 4)] = .ok (.o (.lst (ts.map Tr.enc))) [.un, .un] ∧ ts ≠ [] ∧ ts.length ≤ 10000000 ∧ (∀ t ∈ ts, t.ok rows ∧ t.size ≤ 4) ∧ Up ts := by
  have ll := leaves_len rows
  have G2 := rows_base S h4
  generalize hR2 : [[], srt (leaves rows)] = R2 at G2
  have G3 := rows_step S (by omega) G2 (C := 16) (by omega) (by omega)
  generalize hR3 : R2 ++ [srt (genA rows R2 2)] = R3 at G3
  have G4 := rows_step S (by omega) G3 (C := 1088) (by
    have : rows.length * (16 + (2 + 1 - 2) * (16 * 16)) ≤ 4 * 272 := Nat.mul_le_mul h4 (by omega)
    omega) (by omega)
  generalize hR4 : R3 ++ [srt (genA rows R3 3)] = R4 at G4
  have G5 := rows_step S (by omega) G4 (C := 9474304) (by
    have : rows.length * (1088 + (2 + 1 + 1 - 2) * (1088 * 1088)) ≤ 4 * 2368576 := Nat.mul_le_mul h4 (by omega)
    omega) (by omega)
  generalize hR5 : R4 ++ [srt (genA rows R4 4)] = R5 at G5
  have b2 := tr_b12 (rows := rows) (R := R2) (s := 2) (by omega) (by omega) (by rw [G2.len]; omega) (by rw [G2.len]; omega) (fun i => Nat.le_trans (G2.le i) (by omega)) (by
    have := genA_len (rows := rows) (R := R2) (s := 2) fun p => genP_len G2.le
    have : rows.length * (4 + (2 - 2) * (4 * 4)) ≤ 4 * 4 := Nat.mul_le_mul h4 (by omega)
    omega) (fun t ht => by have := ((genA_ok S (by omega) G2.ok).ok t ht).2; omega)
  have b3 := tr_b12 (rows := rows) (R := R3) (s := 3) (by omega) (by omega) (by rw [G3.len]; omega) (by rw [G3.len]; omega) (fun i => Nat.le_trans (G3.le i) (by omega)) (by
    have := genA_len (rows := rows) (R := R3) (s := 3) fun p => genP_len G3.le
    have : rows.length * (16 + (3 - 2) * (16 * 16)) ≤ 4 * 272 := Nat.mul_le_mul h4 (by omega)
    omega) (fun t ht => by have := ((genA_ok S (by omega) G3.ok).ok t ht).2; omega)
  have b4 := tr_b12 (rows := rows) (R := R4) (s := 4) (by omega) (by omega) (by rw [G4.len]; omega) (by rw [G4.len]; omega) (fun i => Nat.le_trans (G4.le i) (by omega)) (by
    have := genA_len (rows := rows) (R := R4) (s := 4) fun p => genP_len G4.le
    have : rows.length * (1088 + (4 - 2) * (1088 * 1088)) ≤ 4 * 2368576 := Nat.mul_le_mul h4 (by omega)
    omega) (fun t ht => by have := ((genA_ok S (by omega) G4.ok).ok t ht).2; omega)
  rw [hR3] at b2
  rw [hR4] at b3
  rw [hR5] at b4
  have e5 : R5 = [[], srt (leaves rows), srt (genA rows R2 2), srt (genA rows R3 3), srt (genA rows R4 4)] := by
    rw [← hR5, ← hR4, ← hR3, ← hR2]; rfl
  have lf : R5.flatten.length ≤ 10000000 := by
    have g1 := G5.le 1
    have l1 : (srt (leaves rows)).length ≤ 4 := by rw [srt_len]; omega
    have l2 : (srt (genA rows R2 2)).length ≤ 16 := by have := G3.le 2; rw [← hR3, rowAt_app, G2.len] at this; simpa using this
    have l3 : (srt (genA rows R3 3)).length ≤ 1088 := by have := G4.le 3; rw [← hR4, rowAt_app, G3.len] at this; simpa using this
    have l4 : (srt (genA rows R4 4)).length ≤ 9474304 := by have := G5.le 4; rw [← hR5, rowAt_app, G4.len] at this; simpa using this
    rw [e5]
    simp only [List.flatten_cons, List.flatten_nil, List.length_append, List.length_nil]
    omega
  refine ⟨R5.flatten, ?_, ?_, lf, fun t ht => ?_, flat_up G5⟩
  · have o14 : o__law_trees_14 [.d (sgD rows), .d (.int 4), .un, .un, .un, .un, .un, .un, .un, .un, .un] = .ok (.lst ((leaves rows).map Tr.enc)) [.d (sgD rows), .d (.int 4), .un, .un, .un, .un, .un, .un, .un, .un, .un] := by
      rw [← leaves_eq]
      refine (oComp_filter (p := rank0) (f := leafD) (ds := rows.map rowD) (e1 := [.d (sgD rows), .d (.int 4), .un, .un, .un, .un, .un, .un, .un, .un, .un]) (by simp) (fun d hd => ?_) ?_).trans (by simp)
      · obtain ⟨z, r, rfl, _, _, _⟩ := sig_rows S hd
        exact ⟨[.d (sgD rows), .d (.int 4), .un, .un, .un, .d (.str z), .d (.int r), .un, .un, .un, .un], by simp, by simp [rank0], fun _ => by simp [m__law_trees_c14, leafD], by simp⟩
      · rw [List.length_map]
        show _ ≤ 10000000
        omega
    have so := sort_ok (ts := leaves rows) fun t ht => by have := (leaves_ok t ht).2; omega
    have sm := sort_map (leaves rows)
    have s2 : sSetO 2 (oLst (aD (eO (oLst aNil)) (aD (eO (oBlt bSortD (aF o__law_trees_14 aNil))) aNil))) [.d (sgD rows), .d (.int 4), .un, .un, .un, .un, .un, .un, .un, .un, .un] = .nx [.d (sgD rows), .d (.int 4), .o true (.lst (R2.map LL)), .un, .un, .un, .un, .un, .un, .un, .un] := by
      rw [← hR2]
      simp [o14, so, sm]
    have w13 : m__law_trees_w13 [.d (sgD rows), .d (.int 4), .o true (.lst (R2.map LL)), .un, .un, .un, .un, .un, .un, .un, .un] = .nx [.d (sgD rows), .d (.int 4), .o true (.lst (R5.map LL)), .un, .un, .un, .un, .un, .un, .un, .un] := by
      rw [m__law_trees_w13, sFor_e, xS_e]
      have it : iRg rng2 (aD (eC (.int 2)) (aD (e2 gAdd (qR 1) (qD (eC (.int 1)))) aNil)) [.d (sgD rows), .d (.int 4), .o true (.lst (R2.map LL)), .un, .un, .un, .un, .un, .un, .un, .un] = .ok [.int ((2 : Nat) : Int), .int ((3 : Nat) : Int), .int ((4 : Nat) : Int)] [.d (sgD rows), .d (.int 4), .o true (.lst (R2.map LL)), .un, .un, .un, .un, .un, .un, .un, .un] := rfl
      rw [it]
      simp only [forL, gN_e, List.set]
      rw [b2]
      simp only [forL, gN_e, List.set]
      rw [b3]
      simp only [forL, gN_e, List.set]
      rw [b4]
    obtain ⟨a', b', w⟩ := tr_w2 (rows := rows) R5 [] (.d (.list (R5.map LL))) .un (by simpa using lf)
    have w2 : m__law_trees_w2 [.d (sgD rows), .d (.int 4), .o true (.lst (R5.map LL)), .un, .o true (.lst []), .un, .un, .un, .un, .un, .un] = .nx [.d (sgD rows), .d (.int 4), a', .un, .o true (.lst (R5.flatten.map Tr.enc)), .un, .un, .un, .un, b', .un] := by
      rw [m__law_trees_w2, sFor_e, xS_e]
      exact w
    simp only [F__law_trees, runBody, m__law_trees, List.length_cons, List.length_nil, Nat.zero_add, if_true, List.cons_append, List.nil_append, List.replicate]
    rw [sSeq_e, s2]
    dsimp only
    rw [sSeq_e, w13]
    dsimp only
    rw [sSeq_e]
    simp [w2]
  · rw [e5]
    intro z
    have q := leaves_ne S
    obtain ⟨t, ht⟩ := List.exists_mem_of_ne_nil _ q
    have : t ∈ ([[], srt (leaves rows), srt (genA rows R2 2), srt (genA rows R3 3), srt (genA rows R4 4)] : List (List Tr)).flatten := List.mem_flatten.mpr ⟨srt (leaves rows), by simp, srt_mem.mpr ht⟩
    rw [z] at this
    cases this
  · have := flat_ok G5 t ht
    exact ⟨this.1, by omega⟩
end K03
end

section
set_option Elab.async false
set_option linter.all false
set_option maxRecDepth 100000
set_option maxHeartbeats 4000000
/-! # Pairs, rows, what is refused -/
namespace K03
open PySem L2 ML
theorem pair_ok {rows : List Row} (S : Sg rows) {t u : Tr} (ht : t.ok rows) (hu : u.ok rows) (st : t.size ≤ 20) (su : u.size ≤ 20) : F__law_is_pair_right [.d (sgD rows), .d t.enc, .d u.enc] = .ok (.d (.bool true)) [.un, .un, .un] := by
  have n1 := law_nodes_ok st
  have n2 := law_nodes_ok su
  have lo := ltOk_key (t := t) (u := u) (by omega)
  have a1 := is_ahead_ok S ht hu st su
  have a2 := is_ahead_ok S ht ht st st
  have a3 := is_ahead_ok S hu ht su st
  rw [lt_irr] at a2
  have s3 : sSet 3 (e2 (gLtD fun d e => PySem.W.dataLt d e) (qD (eTup (aD (eRv (callM F__law_nodes (aD (eV 1) aNil))) (aD (eV 1) aNil)))) (qD (eTup (aD (eRv (callM F__law_nodes (aD (eV 2) aNil))) (aD (eV 2) aNil))))) [.d (sgD rows), .d t.enc, .d u.enc, .un] = .nx [.d (sgD rows), .d t.enc, .d u.enc, .d (.bool (lt t u))] := by
    unfold Tr.key at lo
    simp [n1, n2, lo, lt, Tr.key]
  have sm : Same 60 (.list [.bool (lt t u), .bool false]) := same_seq (n := 59) (fun x hx => by
    rcases List.mem_cons.mp hx with rfl | hx
    · exact ⟨same_bool 58 _, rfl⟩
    · rw [List.mem_singleton.mp hx]; exact ⟨same_bool 58 _, rfl⟩) (by simp) (.inr rfl)
  have ls := is_same sm
  have i1 : m__law_is_pair_right_i1 [.d (sgD rows), .d t.enc, .d u.enc, .d (.bool (lt t u))] = .nx [.d (sgD rows), .d t.enc, .d u.enc, .d (.bool (lt t u))] := by
    simp [m__law_is_pair_right_i1, a1, a2, ls]
  have o1 := eqOk_enc S ht st
  have o2 := eqOk_enc S hu su
  by_cases e : t = u
  · have q : PyData.eqv t.enc u.enc = true := (eqv_enc t u).mpr e
    simp only [F__law_is_pair_right, runBody, m__law_is_pair_right, List.length_cons, List.length_nil, Nat.zero_add, if_true, List.cons_append, List.nil_append, List.replicate]
    rw [sSeq_e, s3]
    dsimp only
    rw [sSeq_e, i1]
    simp [o1, o2, q]
  · have q : PyData.eqv t.enc u.enc = false := by
      cases z : PyData.eqv t.enc u.enc with
      | false => rfl
      | true => exact absurd ((eqv_enc t u).mp z) e
    have nl : lt u t = !lt t u := by
      cases z : lt t u with
      | true => exact lt_asym z
      | false =>
        cases y : lt u t with
        | true => rfl
        | false => exact absurd (lt_total z y) e
    have ls2 := is_same (same_bool 59 (!lt t u))
    rw [nl] at a3
    simp only [F__law_is_pair_right, runBody, m__law_is_pair_right, List.length_cons, List.length_nil, Nat.zero_add, if_true, List.cons_append, List.nil_append, List.replicate]
    rw [sSeq_e, s3]
    dsimp only
    rw [sSeq_e, i1]
    simp [o1, o2, q, a3, ls2]
theorem row_b2 {rows : List Row} (S : Sg rows) {t : Tr} {ts us : List Tr} (hok : ∀ x ∈ t :: ts, x.ok rows ∧ x.size ≤ 20) (hm : ∀ x, x ∈ us ↔ x ∈ t :: ts) (hl : us.length ≤ 900) (h : List D) (R z : Sl) :
    m__law_is_row_right_b2 [hS h, .d (sgD rows), R, .d (leastT t ts).enc, z, .d (.list (us.map Tr.enc)), .un] = .nx [hS h, .d (sgD rows), R, .d (leastT t ts).enc, .un, .un, .un] := by
  cases us with
  | nil => have := (hm t).mpr List.mem_cons_self; cases this
  | cons u us =>
    rw [List.length_cons] at hl
    have e : leastT u us = leastT t ts := leastT_same hm
    have lo := least_of_ok S (t := u) (ts := us) (fun x hx => hok x ((hm x).mp hx)) (by omega)
    rw [e] at lo
    have mem := (leastT_spec ts t).1
    have o := hok _ mem
    have sm := is_same (same_enc S 60 _ o.1 (by omega))
    have lo' : F_least_of [.d (sgD rows), .d (.tuple (u.enc :: us.map Tr.enc))] = .ok (.d (leastT t ts).enc) [.un, .un] := lo
    simp [m__law_is_row_right_b2, m__law_is_row_right_i1, lo', sm]
theorem row_ok {h : List D} (H : HandOk h) {rows : List Row} (S : Sg rows) {t : Tr} {ts : List Tr} (hok : ∀ x ∈ t :: ts, x.ok rows ∧ x.size ≤ 20) (hl : ts.length ≤ 800) : ∃ h', F__law_is_row_right [hS h, .d (sgD rows), .d (.list ((t :: ts).map Tr.enc))] = .ok (.d (.bool true)) [hS h', .un, .un] ∧ HandOk h' := by
  have o4 : o__law_is_row_right_4 [hS h, .d (sgD rows), .d (.list ((t :: ts).map Tr.enc)), .un, .un, .un, .un] = .ok (.lst ((t :: ts).map Tr.key)) [hS h, .d (sgD rows), .d (.list ((t :: ts).map Tr.enc)), .un, .un, .un, .un] := by
    refine (oComp_mapT (ts := t :: ts) (en := Tr.enc) (f := Tr.key) (e1 := [hS h, .d (sgD rows), .d (.list ((t :: ts).map Tr.enc)), .un, .un, .un, .un]) (by simp) (fun x hx => ?_) ?_).trans (by simp)
    · have n := law_nodes_ok (hok x hx).2
      exact ⟨[hS h, .d (sgD rows), .d (.list ((t :: ts).map Tr.enc)), .un, .un, .un, .d x.enc], by simp, by simp [m__law_is_row_right_c4, n, Tr.key], by simp⟩
    · show (t :: ts).length ≤ 10000000
      rw [List.length_cons]; omega
  have m : minOk (t.key :: ts.map Tr.key) = true := minOk_keys (ts := t :: ts) fun x hx => by have := (hok x hx).2; omega
  have k := minD_key ts t
  rw [show (leastT t ts).key = .tuple [.int (leastT t ts).size, (leastT t ts).enc] from rfl] at k
  have s3 : sSet 3 (e2 gIx (qD (eBlt bMinD (aF o__law_is_row_right_4 aNil))) (qD (eC (.int 1)))) [hS h, .d (sgD rows), .d (.list ((t :: ts).map Tr.enc)), .un, .un, .un, .un] = .nx [hS h, .d (sgD rows), .d (.list ((t :: ts).map Tr.enc)), .d (leastT t ts).enc, .un, .un, .un] := by
    rw [List.map_cons] at o4
    simp [o4, m, k]
  obtain ⟨n, h', d, H', n0, n1⟩ := draw_ok H (m := (t :: ts).length) (by rw [List.length_cons]; omega) (by rw [List.length_cons]; omega)
  obtain ⟨n, rfl⟩ := Int.eq_ofNat_of_zero_le n0
  have hn : n < (t :: ts).length := by omega
  refine ⟨h', ?_, H'⟩
  have s4 : sSet 4 (eRv (callM F__law_draw (aR 0 (aD (eBlt bLen (aR 2 aNil)) aNil)))) [hS h, .d (sgD rows), .d (.list ((t :: ts).map Tr.enc)), .d (leastT t ts).enc, .un, .un, .un] = .nx [hS h', .d (sgD rows), .d (.list ((t :: ts).map Tr.enc)), .d (leastT t ts).enc, .d (.int n), .un, .un] := by
    simp at d
    simp [d]
  have ll : (t :: ts).length ≤ 801 := by rw [List.length_cons]; omega
  generalize hU : t :: ts = U at hok hn ll o4 s3 s4
  have hm : ∀ x, x ∈ U ↔ x ∈ t :: ts := fun x => by rw [hU]
  have c1 : cut (U.map Tr.enc) (some (n : Int)) none = (U.drop n).map Tr.enc := by
    unfold cut
    rw [HT.sIx_nat, HT.sIx_none, List.length_map, Nat.min_eq_left (by omega), List.map_drop]
    exact List.take_of_length_le (by rw [List.length_drop, List.length_map]; exact Nat.le_refl _)
  have c2 : cut (U.map Tr.enc) none (some (n : Int)) = (U.take n).map Tr.enc := by
    unfold cut
    rw [HT.sIx_nat, HT.sIx_none, List.length_map, Nat.min_eq_left (by omega), List.drop_zero, Nat.sub_zero, List.map_take]
  have hok2 : ∀ x ∈ t :: ts, x.ok rows ∧ x.size ≤ 20 := fun x hx => hok x ((hm x).mpr hx)
  have b1 := row_b2 S hok2 hm (by omega) h' (.d (.list (U.map Tr.enc))) (.d (.int n))
  have b2 := row_b2 S hok2 (us := U.reverse) (fun x => by rw [List.mem_reverse]; exact hm x) (by rw [List.length_reverse]; omega) h' (.d (.list (U.map Tr.enc))) .un
  have b3 := row_b2 S hok2 (us := U.drop n ++ U.take n) (fun x => by rw [List.mem_append, or_comm, ← List.mem_append, List.take_append_drop]; exact hm x) (by rw [List.length_append, List.length_drop, List.length_take]; omega) h' (.d (.list (U.map Tr.enc))) .un
  have w3 : m__law_is_row_right_w3 [hS h', .d (sgD rows), .d (.list (U.map Tr.enc)), .d (leastT t ts).enc, .d (.int n), .un, .un] = .nx [hS h', .d (sgD rows), .d (.list (U.map Tr.enc)), .d (leastT t ts).enc, .un, .un, .un] := by
    rw [m__law_is_row_right_w3, sFor_e, xS_e]
    have l3 : U.length - n + min n U.length ≤ 10000000 := by omega
    have it : iD (eO (oLst (aD (eV 2) (aD (eO (oRevQ (qR 2))) (aD (eO (o2 gCat (qF (oSl gSlX (qR 2) (ptI (eV 4)) (ML.ret none))) (qF (oSl gSlX (qR 2) (ML.ret none) (ptI (eV 4)))))) aNil))))) [hS h', .d (sgD rows), .d (.list (U.map Tr.enc)), .d (leastT t ts).enc, .d (.int n), .un, .un] = .ok [.list (U.map Tr.enc), .list (U.reverse.map Tr.enc), .list ((U.drop n ++ U.take n).map Tr.enc)] [hS h', .d (sgD rows), .d (.list (U.map Tr.enc)), .d (leastT t ts).enc, .d (.int n), .un, .un] := by
      simp [c1, c2, l3]
    rw [it]
    simp only [forL, gN_e, List.set]
    rw [b1]
    simp only [forL, gN_e, List.set]
    rw [b2]
    simp only [forL, gN_e, List.set]
    rw [b3]
  simp only [F__law_is_row_right, runBody, m__law_is_row_right, List.length_cons, List.length_nil, Nat.zero_add, if_true, List.cons_append, List.nil_append, List.replicate]
  rw [sSeq_e, s3]
  dsimp only
  rw [sSeq_e, s4]
  simp [w3]
theorem refused_ok {h : List D} (H : HandOk h) {rows : List Row} (S : Sg rows) {t : Tr} (ht : t.ok rows) (st : t.size ≤ 20) : ∃ h', F__law_are_refused [hS h, .d (sgD rows), .d t.enc] = .ok (.d (.bool true)) [hS h', .un, .un] ∧ HandOk h' := by
  obtain ⟨bad, h1, e1, H1, m1⟩ := some_ok H (xs := [.none, .tuple [], .list (rows.map rowD)]) (t := .list [.none, .tuple [], .list (rows.map rowD)]) (by simp) (by simp) (.inl rfl)
  obtain ⟨odd, h2, e2', H2, m2⟩ := some_ok H1 (xs := [.none, .tuple [], .tuple [.str "q"], .list [t.enc], .tuple [t.enc]]) (t := .list [.none, .tuple [], .tuple [.str "q"], .list [t.enc], .tuple [t.enc]]) (by simp) (by simp) (.inl rfl)
  have hb : sized bad 1 10 = false := by
    simp at m1
    rcases m1 with rfl | rfl | rfl <;> rfl
  have ho : sized odd 2 2 = false := by
    simp at m2
    rcases m2 with rfl | rfl | rfl | rfl | rfl <;> simp [sized]
  refine ⟨h2, ?_, H2⟩
  have r1 := is_ahead_sig (y := odd) (z := odd) hb
  have r2 := is_ahead_one S (z := t.enc) ho
  have r3 := is_ahead_two S ht st ho
  have r4 := least_of_sig (y := .tuple [odd]) hb
  have r5 := least_of_bad S (ts := [t]) (fun x hx => by rw [List.mem_singleton.mp hx]; exact ⟨ht, st⟩) (by simp) ho []
  have r6 := least_of_bad S (ts := []) (fun x hx => by cases hx) (by simp) ho [t.enc]
  rw [List.map_cons, List.map_nil, List.cons_append, List.nil_append] at r5
  rw [List.map_nil, List.nil_append] at r6
  have p1 : pk__law_said "NoSignature" = some ("signature" : Str) := rfl
  have p2 : pk__law_said "NoTree" = some ("tree" : Str) := rfl
  have ws : ∀ z : Str, Ab z → Same 59 (.list [.str z]) := fun z hz => same_seq (n := 58) (fun x hx => by rw [List.mem_singleton.mp hx]; exact ⟨same_str 57 hz, rfl⟩) (by simp) (.inr rfl)
  have ab1 : Ab "signature" := ⟨by decide, by decide⟩
  have ab2 : Ab "tree" := ⟨by decide, by decide⟩
  have sm : Same 60 (.list [.list [.str "signature"], .list [.str "tree"], .list [.str "tree"], .list [.str "signature"], .list [.str "tree"], .list [.str "tree"]]) := same_seq (n := 59) (fun x hx => by
    simp at hx
    rcases hx with rfl | rfl | rfl | rfl
    · exact ⟨ws _ ab1, rfl⟩
    · exact ⟨ws _ ab2, rfl⟩
    · exact ⟨ws _ ab1, rfl⟩
    · exact ⟨ws _ ab2, rfl⟩) (by simp) (.inr rfl)
  have ls := is_same sm
  simp [F__law_are_refused, runBody, m__law_are_refused, e1, e2', r1, r2, r3, r4, r5, r6, p1, p2, ls]
end K03
end

section
set_option Elab.async false
set_option linter.all false
set_option maxRecDepth 100000
set_option maxHeartbeats 4000000
/-! # The law -/
namespace K03
open PySem L2 ML
abbrev hO (h : List D) : Sl := .o true (.lst h)
/-- the law's slots within a turn -/
abbrev lEnv (ns : List Int) (h : List D) (rows : List Row) (ts : List Tr) (dr : Sl) (a b c d e : Sl) : List Sl := [.sc ns, hO h, .un, .d (sgD rows), .d (LL ts), dr, a, b, c, d, e]
theorem up_at {ts : List Tr} (U : Up ts) {i : Nat} (h : i + 1 < ts.length) : lt (ts[i]'(by omega)) (ts[i + 1]) = true := List.pairwise_iff_getElem.mp U i (i + 1) (by omega) h (by omega)
theorem law_b7 {rows : List Row} (S : Sg rows) {ts ds : List Tr} (hne : ts ≠ []) (hl : ts.length ≤ 10000000) (hok : ∀ t ∈ ts, t.ok rows ∧ t.size ≤ 4) (U : Up ts) (dl : ds.length = 4) (dok : ∀ t ∈ ds, t.ok rows ∧ t.size ≤ 20) (ns : List Int) (h : List D) (H : HandOk h) (x : D) (z : Sl) : ∃ h',
    m_law_b7 [.sc ns, hO h, z, .d (sgD rows), .d (LL ts), encL ds, .d x, .un, .un, .un, .un] = .nx [.sc ns, hO h', .un, .d (sgD rows), .d (LL ts), encL ds, .un, .un, .un, .un, .un] ∧ HandOk h' := by
  have lp : 0 < ts.length := List.length_pos_iff.mpr hne
  obtain ⟨n, h1, d1, H1, n0, n1⟩ := draw_ok H (m := ts.length) (by omega) (by omega)
  obtain ⟨n, rfl⟩ := Int.eq_ofNat_of_zero_le n0
  have hn : n < ts.length := by omega
  have c1 : cut (ts.map Tr.enc) (some (n : Int)) (some ((n : Int) + 2)) = ((ts.drop n).take (min (n + 2) ts.length - n)).map Tr.enc := by
    unfold cut
    have m1 : min n ts.length = n := Nat.min_eq_left (by omega)
    rw [show ((n : Int) + 2) = ((n + 2 : Nat) : Int) by omega, HT.sIx_nat, HT.sIx_nat, List.length_map, m1, List.map_take, List.map_drop]
  generalize hw : (ts.drop n).take (min (n + 2) ts.length - n) = ws at c1
  have wl : ws.length ≤ 2 := by rw [← hw, List.length_take]; omega
  have wok : ∀ t ∈ ws, t.ok rows ∧ t.size ≤ 20 := fun t ht => by
    rw [← hw] at ht
    have := hok t (List.mem_of_mem_drop (List.mem_of_mem_take ht))
    exact ⟨this.1, by omega⟩
  have sok : ∀ t ∈ ds ++ ws, t.ok rows ∧ t.size ≤ 20 := fun t ht => (List.mem_append.mp ht).elim (dok t) (wok t)
  obtain ⟨x1, h2, e1, H2, m1⟩ := some_ok H1 (xs := (ds ++ ws).map Tr.enc) (t := .list ((ds ++ ws).map Tr.enc)) (by rw [List.length_map, List.length_append]; omega) (by rw [List.length_map, List.length_append]; omega) (.inl rfl)
  obtain ⟨x2, h3, e2', H3, m2⟩ := some_ok H2 (xs := (ds ++ ws).map Tr.enc) (t := .list ((ds ++ ws).map Tr.enc)) (by rw [List.length_map, List.length_append]; omega) (by rw [List.length_map, List.length_append]; omega) (.inl rfl)
  obtain ⟨t1, tm1, rfl⟩ := List.mem_map.mp m1
  obtain ⟨t2, tm2, rfl⟩ := List.mem_map.mp m2
  have pr := pair_ok S (sok t1 tm1).1 (sok t2 tm2).1 (sok t1 tm1).2 (sok t2 tm2).2
  refine ⟨h3, ?_, H3⟩
  have s7 : sSet 7 (eRv (callM F__law_draw (aR 1 (aD (eBlt bLen (aR 4 aNil)) aNil)))) [.sc ns, hO h, z, .d (sgD rows), .d (LL ts), encL ds, .d x, .un, .un, .un, .un] = .nx [.sc ns, hO h1, z, .d (sgD rows), .d (LL ts), encL ds, .d x, .d (.int n), .un, .un, .un] := by
    simp [d1]
  have s8 : sSet 8 (eO (o2 gCat (qR 5) (qF (oSl gSlX (qR 4) (ptI (eV 7)) (ptI (e2 gAdd (qR 7) (qD (eC (.int 2))))))))) [.sc ns, hO h1, z, .d (sgD rows), .d (LL ts), encL ds, .d x, .d (.int n), .un, .un, .un] = .nx [.sc ns, hO h1, z, .d (sgD rows), .d (LL ts), encL ds, .d x, .d (.int n), .d (.list ((ds ++ ws).map Tr.enc)), .un, .un] := by
    have l : ds.length + ws.length ≤ 10000000 := by omega
    simp [c1, l]
  have i6 : m_law_i6 [.sc ns, hO h1, z, .d (sgD rows), .d (LL ts), encL ds, .d x, .d (.int n), .d (.list ((ds ++ ws).map Tr.enc)), .un, .un] = .nx [.sc ns, hO h3, z, .d (sgD rows), .d (LL ts), encL ds, .d x, .d (.int n), .d (.list ((ds ++ ws).map Tr.enc)), .un, .un] := by
    simp only [List.map_append] at e1 e2' ⊢
    simp [m_law_i6, e1, e2', pr]
  have i5 : m_law_i5 [.sc ns, hO h3, z, .d (sgD rows), .d (LL ts), encL ds, .d x, .d (.int n), .d (.list ((ds ++ ws).map Tr.enc)), .un, .un] = .nx [.sc ns, hO h3, z, .d (sgD rows), .d (LL ts), encL ds, .d x, .d (.int n), .d (.list ((ds ++ ws).map Tr.enc)), .un, .un] := by
    by_cases c : n + 1 < ts.length
    · have ci : ((n : Int) + 1 < (ts.length : Int)) := by omega
      have a1 : atI (ts.map Tr.enc) (n : Int) = some (ts[n].enc) := by rw [atI_nat]; simp [hn]
      have a2 : atI (ts.map Tr.enc) ((n : Int) + 1) = some (ts[n + 1].enc) := by
        rw [show ((n : Int) + 1) = ((n + 1 : Nat) : Int) by omega, atI_nat]; simp [c]
      have o1 := hok ts[n] (List.getElem_mem _)
      have o2 := hok ts[n + 1] (List.getElem_mem _)
      have ia := is_ahead_ok S o1.1 o2.1 (by omega) (by omega)
      rw [up_at U c] at ia
      have sm := is_same (same_bool 59 true)
      simp [m_law_i5, ci, m_law_i4, a1, a2, ia, sm]
    · have ci : ¬ ((n : Int) + 1 < (ts.length : Int)) := by omega
      simp [m_law_i5, ci]
  rw [m_law_b7, sFg_e, sSeq_e, s7]
  dsimp only
  rw [sSeq_e, s8]
  dsimp only
  rw [sSeq_e, i6]
  dsimp only
  rw [i5]
  simp
theorem law_w8 {rows : List Row} (S : Sg rows) {ts ds : List Tr} (hne : ts ≠ []) (hl : ts.length ≤ 10000000) (hok : ∀ t ∈ ts, t.ok rows ∧ t.size ≤ 4) (U : Up ts) (dl : ds.length = 4) (dok : ∀ t ∈ ds, t.ok rows ∧ t.size ≤ 20) (ns : List Int) : ∀ (xs : List D) (h : List D) (z : Sl), HandOk h → ∃ h' z',
    forL (gN 6) m_law_b7 xs [.sc ns, hO h, z, .d (sgD rows), .d (LL ts), encL ds, .un, .un, .un, .un, .un] = .nx [.sc ns, hO h', z', .d (sgD rows), .d (LL ts), encL ds, .un, .un, .un, .un, .un] ∧ HandOk h' := by
  intro xs
  induction xs with
  | nil => intro h z H; exact ⟨h, z, rfl, H⟩
  | cons x xs ih =>
    intro h z H
    obtain ⟨h1, b, H1⟩ := law_b7 S hne hl hok U dl dok ns h H x z
    obtain ⟨h2, z2, e, H2⟩ := ih h1 .un H1
    refine ⟨h2, z2, ?_, H2⟩
    rw [forL]
    simp only [gN_e, List.set]
    rw [b]
    exact e
theorem law_b10 (ns : List Int) (h : List D) (H : HandOk h) (x : D) : ∃ h', m_law_b10 [.sc ns, hO h, .d x, .un, .un, .un, .un, .un, .un, .un, .un] = .nx [.sc ns, hO h', .un, .un, .un, .un, .un, .un, .un, .un, .un] ∧ HandOk h' := by
  obtain ⟨rows, h1, e1, H1, S, r4⟩ := signature_ok H
  obtain ⟨ts, e2', tne, tl, tok, U⟩ := law_trees_ok S r4
  -- four trees
  obtain ⟨ys, h2, o1, H2, oq, ol⟩ := oComp_hand (g := gN 10) (te := m_law_c9) (vs := [10]) (e := [.sc ns, hO h1, .d x, .d (sgD rows), .d (LL ts), .un, .un, .un, .un, .un, .un])
    (mi := iRg rng1 (aD (eC (.int 4)) aNil)) (e1 := [.sc ns, hO h1, .d x, .d (sgD rows), .d (LL ts), .un, .un, .un, .un, .un, .un]) (ds := (List.range 4).map fun (i : Nat) => .int (0 + (i : Nat)))
    (enc := fun h => [.sc ns, hO h, .d x, .d (sgD rows), .d (LL ts), .un, .un, .un, .un, .un, .un]) (Q := fun y => ∃ t : Tr, y = t.enc ∧ t.ok rows ∧ t.size ≤ 20) H1 rfl (by simp) (fun d _ h H => by
      obtain ⟨t, h', e, H', o, s⟩ := law_tree_ok H S
      exact ⟨[.sc ns, hO h, .d x, .d (sgD rows), .d (LL ts), .un, .un, .un, .un, .un, .d d], t.enc, [.sc ns, hO h', .d x, .d (sgD rows), .d (LL ts), .un, .un, .un, .un, .un, .d d], h', by simp, by simp [m_law_c9, e], by simp, H', t, rfl, o, s⟩) (by simp)
  obtain ⟨ds, rfl, dok⟩ : ∃ ds : List Tr, ys = ds.map Tr.enc ∧ ∀ t ∈ ds, t.ok rows ∧ t.size ≤ 20 := by
    clear o1 ol
    induction ys with
    | nil => exact ⟨[], rfl, fun t ht => by cases ht⟩
    | cons y ys ih =>
      obtain ⟨t, rfl, ht⟩ := oq y List.mem_cons_self
      obtain ⟨ds, rfl, hd⟩ := ih fun z hz => oq z (List.mem_cons_of_mem _ hz)
      exact ⟨t :: ds, rfl, fun u hu => by
        rcases List.mem_cons.mp hu with rfl | hu
        · exact ht
        · exact hd u hu⟩
  have dl : ds.length = 4 := by
    rw [List.length_map, List.length_map, List.length_range] at ol
    exact ol
  have s5 : sSetO 5 o_law_9 [.sc ns, hO h1, .d x, .d (sgD rows), .d (LL ts), .un, .un, .un, .un, .un, .un] = .nx [.sc ns, hO h2, .d x, .d (sgD rows), .d (LL ts), encL ds, .un, .un, .un, .un, .un] := by
    have o9 : o_law_9 [.sc ns, hO h1, .d x, .d (sgD rows), .d (LL ts), .un, .un, .un, .un, .un, .un] = .ok (.lst (ds.map Tr.enc)) [.sc ns, hO h2, .d x, .d (sgD rows), .d (LL ts), .un, .un, .un, .un, .un, .un] := by
      unfold o_law_9
      rw [o1]
      simp
    simp [o9]
  obtain ⟨h3, z3, w, H3⟩ := law_w8 S tne tl tok U dl dok ns ((List.range 6).map fun (i : Nat) => .int (0 + (i : Nat))) h2 (.d x) H2
  have w8 : m_law_w8 [.sc ns, hO h2, .d x, .d (sgD rows), .d (LL ts), encL ds, .un, .un, .un, .un, .un] = .nx [.sc ns, hO h3, z3, .d (sgD rows), .d (LL ts), encL ds, .un, .un, .un, .un, .un] := by
    rw [m_law_w8, sFor_e, xS_e]
    have it : iRg rng1 (aD (eC (.int 6)) aNil) [.sc ns, hO h2, .d x, .d (sgD rows), .d (LL ts), encL ds, .un, .un, .un, .un, .un] = .ok ((List.range 6).map fun (i : Nat) => .int (0 + (i : Nat))) [.sc ns, hO h2, .d x, .d (sgD rows), .d (LL ts), encL ds, .un, .un, .un, .un, .un] := rfl
    rw [it]
    exact w
  -- three more
  have tp : 0 < ts.length := List.length_pos_iff.mpr tne
  obtain ⟨ys, h4, o3, H4, q3, l3⟩ := oComp_hand (g := gN 10) (te := m_law_c3) (vs := [10]) (e := [.sc ns, hO h3, z3, .d (sgD rows), .d (LL ts), encL ds, .un, .un, .un, .un, .un])
    (mi := iRg rng1 (aD (eC (.int 3)) aNil)) (e1 := [.sc ns, hO h3, z3, .d (sgD rows), .d (LL ts), encL ds, .un, .un, .un, .un, .un]) (ds := (List.range 3).map fun (i : Nat) => .int (0 + (i : Nat)))
    (enc := fun h => [.sc ns, hO h, z3, .d (sgD rows), .d (LL ts), encL ds, .un, .un, .un, .un, .un]) (Q := fun y => ∃ t : Tr, y = t.enc ∧ t.ok rows ∧ t.size ≤ 20) H3 rfl (by simp) (fun d _ h H => by
      obtain ⟨y, h', e, H', m⟩ := some_ok H (xs := ts.map Tr.enc) (t := LL ts) (by rw [List.length_map]; exact tp) (by rw [List.length_map]; omega) (.inl rfl)
      obtain ⟨t, ht, rfl⟩ := List.mem_map.mp m
      have o := tok t ht
      exact ⟨[.sc ns, hO h, z3, .d (sgD rows), .d (LL ts), encL ds, .un, .un, .un, .un, .d d], t.enc, [.sc ns, hO h', z3, .d (sgD rows), .d (LL ts), encL ds, .un, .un, .un, .un, .d d], h', by simp, by simp [m_law_c3, e], by simp, H', t, rfl, o.1, by omega⟩) (by simp)
  obtain ⟨qs, rfl, qok⟩ : ∃ qs : List Tr, ys = qs.map Tr.enc ∧ ∀ t ∈ qs, t.ok rows ∧ t.size ≤ 20 := by
    clear o3 l3
    induction ys with
    | nil => exact ⟨[], rfl, fun t ht => by cases ht⟩
    | cons y ys ih =>
      obtain ⟨t, rfl, ht⟩ := q3 y List.mem_cons_self
      obtain ⟨ds, rfl, hd⟩ := ih fun z hz => q3 z (List.mem_cons_of_mem _ hz)
      exact ⟨t :: ds, rfl, fun u hu => by
        rcases List.mem_cons.mp hu with rfl | hu
        · exact ht
        · exact hd u hu⟩
  have ql : qs.length = 3 := by
    rw [List.length_map, List.length_map, List.length_range] at l3
    exact l3
  have oq3 : o_law_3 [.sc ns, hO h3, z3, .d (sgD rows), .d (LL ts), encL ds, .un, .un, .un, .un, .un] = .ok (.lst (qs.map Tr.enc)) [.sc ns, hO h4, z3, .d (sgD rows), .d (LL ts), encL ds, .un, .un, .un, .un, .un] := by
    unfold o_law_3
    rw [o3]
    simp
  have c1 : cut (ds.map Tr.enc) none (some 1) = (ds.take 1).map Tr.enc := by
    unfold cut
    rw [show (1 : Int) = ((1 : Nat) : Int) from rfl, HT.sIx_nat, HT.sIx_none, List.length_map, List.drop_zero, Nat.sub_zero, Nat.min_eq_left (by omega), List.map_take]
  have s9 : sSet 9 (eO (o2 gCat (qF (o2 gCat (qR 5) (qF o_law_3))) (qF (oSl gSlX (qR 5) (ML.ret none) (ptI (eC (.int 1))))))) [.sc ns, hO h3, z3, .d (sgD rows), .d (LL ts), encL ds, .un, .un, .un, .un, .un] = .nx [.sc ns, hO h4, z3, .d (sgD rows), .d (LL ts), encL ds, .un, .un, .un, .d (.list (ds.map Tr.enc ++ (qs.map Tr.enc ++ (ds.take 1).map Tr.enc))), .un] := by
    have l1 : ds.length + qs.length ≤ 10000000 := by omega
    have l2 : ds.length + qs.length + min 1 ds.length ≤ 10000000 := by omega
    simp only [o2_e, bind_e, qR_e, qF_e, okR_e, oq3, eO_e, sSet_e, xS_e, oSl_e]
    generalize hT : (ds.take 1).map Tr.enc = T at c1
    have lT : T.length ≤ 1 := by rw [← hT, List.length_map, List.length_take]; omega
    have l3 : ds.length + qs.length + T.length ≤ 10000000 := by omega
    simp [oq3, c1, l1, l3]
  obtain ⟨t, rest, hds⟩ : ∃ t rest, ds = t :: rest := by
    cases ds with
    | nil => cases dl
    | cons t rest => exact ⟨t, rest, rfl⟩
  have tok1 := dok t (by rw [hds]; exact List.mem_cons_self)
  obtain ⟨h5, r1, H5⟩ := row_ok H4 S (t := t) (ts := rest ++ qs ++ [t]) (fun x hx => by
    rcases List.mem_cons.mp hx with rfl | hx
    · exact tok1
    · rcases List.mem_append.mp hx with hx | hx
      · rcases List.mem_append.mp hx with hx | hx
        · exact dok x (by rw [hds]; exact List.mem_cons_of_mem _ hx)
        · exact qok x hx
      · rw [List.mem_singleton.mp hx]; exact tok1) (by
    rw [hds, List.length_cons] at dl
    rw [List.length_append, List.length_append, List.length_singleton]; omega)
  have he : (t :: (rest ++ qs ++ [t])).map Tr.enc = ds.map Tr.enc ++ (qs.map Tr.enc ++ (ds.take 1).map Tr.enc) := by
    rw [hds]; simp
  rw [he] at r1
  obtain ⟨h6, r2, H6⟩ := row_ok H5 S (t := t) (ts := rest) (fun x hx => dok x (by rw [hds]; exact hx)) (by
    rw [hds, List.length_cons] at dl; omega)
  rw [← hds] at r2
  obtain ⟨h7, rf, H7⟩ := refused_ok H6 S tok1.1 tok1.2
  refine ⟨h7, ?_, H7⟩
  generalize ds.map Tr.enc ++ (qs.map Tr.enc ++ (ds.take 1).map Tr.enc) = U9 at s9 r1
  have i2 : m_law_i2 [.sc ns, hO h4, z3, .d (sgD rows), .d (LL ts), encL ds, .un, .un, .un, .d (.list U9), .un] = .nx [.sc ns, hO h6, z3, .d (sgD rows), .d (LL ts), .d (LL ds), .un, .un, .un, .d (.list U9), .un] := by
    simp [m_law_i2, r1, r2]
  have i1 : m_law_i1 [.sc ns, hO h6, z3, .d (sgD rows), .d (LL ts), .d (LL ds), .un, .un, .un, .d (.list U9), .un] = .nx [.sc ns, hO h7, z3, .d (sgD rows), .d (LL ts), .d (LL ds), .un, .un, .un, .d (.list U9), .un] := by
    have a0 : atI (ds.map Tr.enc) 0 = some t.enc := by rw [hds]; exact at0
    simp [m_law_i1, a0, rf]
  have s3 : sSet 3 (eRv (callM F__law_signature (aR 1 (aD (eC (.int 4)) aNil)))) [.sc ns, hO h, .d x, .un, .un, .un, .un, .un, .un, .un, .un] = .nx [.sc ns, hO h1, .d x, .d (sgD rows), .un, .un, .un, .un, .un, .un, .un] := by
    simp [e1]
  have s4 : sSet 4 (eRv (callM F__law_trees (aD (eV 3) (aD (eC (.int 4)) aNil)))) [.sc ns, hO h1, .d x, .d (sgD rows), .un, .un, .un, .un, .un, .un, .un] = .nx [.sc ns, hO h1, .d x, .d (sgD rows), .d (LL ts), .un, .un, .un, .un, .un, .un] := by
    simp [e2']
  rw [m_law_b10, sFg_e, sSeq_e, s3]
  dsimp only
  rw [sSeq_e, s4]
  dsimp only
  rw [sSeq_e, s5]
  dsimp only
  rw [sSeq_e, w8]
  dsimp only
  rw [sSeq_e, s9]
  dsimp only
  rw [sSeq_e, i2]
  dsimp only
  rw [i1]
  simp
theorem law_w11 (ns : List Int) : ∀ (xs : List D) (h : List D), HandOk h → ∃ h', forL (gN 2) m_law_b10 xs [.sc ns, hO h, .un, .un, .un, .un, .un, .un, .un, .un, .un] = .nx [.sc ns, hO h', .un, .un, .un, .un, .un, .un, .un, .un, .un] := by
  intro xs
  induction xs with
  | nil => intro h H; exact ⟨h, rfl⟩
  | cons x xs ih =>
    intro h H
    obtain ⟨h1, b, H1⟩ := law_b10 ns h H x
    obtain ⟨h2, e⟩ := ih h1 H1
    refine ⟨h2, ?_⟩
    rw [forL]
    simp only [gN_e, List.set]
    rw [b]
    exact e
theorem math (ns : List Int) (hl : ns.length ≤ 63) : ∃ outs, F_law [.sc ns] = .ok (.d (.bool true)) outs := by
  obtain ⟨h, e, H⟩ := hand_ok ns (by omega)
  obtain ⟨h', w⟩ := law_w11 ns ((List.range 4).map fun (i : Nat) => .int (0 + (i : Nat))) h H
  have w11 : m_law_w11 [.sc ns, hO h, .un, .un, .un, .un, .un, .un, .un, .un, .un] = .nx [.sc ns, hO h', .un, .un, .un, .un, .un, .un, .un, .un, .un] := by
    rw [m_law_w11, sFor_e, xS_e]
    have it : iRg rng1 (aD (eC (.int 4)) aNil) [.sc ns, hO h, .un, .un, .un, .un, .un, .un, .un, .un, .un] = .ok ((List.range 4).map fun (i : Nat) => .int (0 + (i : Nat))) [.sc ns, hO h, .un, .un, .un, .un, .un, .un, .un, .un, .un] := rfl
    rw [it]
    exact w
  exact ⟨[.un], by simp [F_law, runBody, m_law, e, w11]⟩
end K03
end

section
set_option Elab.async false
set_option linter.all false
set_option maxRecDepth 100000
set_option maxHeartbeats 0
open PySem PySem.W PySem.Calls PyProof.Rows
theorem PySem.Challenge.cw_shaperoads_k03_whole_order_of_trees_holds : PySem.Challenge.rw_shaperoads_k03_whole_order_of_trees.Holds := by
  w_on; o_law
  refine HandSHeadRun.head_any (r := OpenLaw.row PySem.Challenge.rw_shaperoads_k03_whole_order_of_trees) (q := view (OpenLaw.row PySem.Challenge.rw_shaperoads_k03_whole_order_of_trees).prog [37]) (H := K03.hk) (ob := K03.ob) (M := 20000) (loose := K03.loose) (d := HandSHeadRun.topDef (OpenLaw.row PySem.Challenge.rw_shaperoads_k03_whole_order_of_trees).prog 37) (kwd := []) K03.ob_eq
    (by kernel_rfl) (fun s => by kernel_rfl) K03.run (by kernel_rfl) (by kernel_rfl) (by kernel_rfl) (by rfl) (by first | assumption | decide +kernel) (by decide +kernel) ⟨rfl, rfl, rfl, rfl, rfl, by decide +kernel⟩ ?hw ?hc
  case hw => w_witness2
  case hc =>
    refine ML.walk_N (l := PySem.Challenge.rw_shaperoads_k03_whole_order_of_trees) (n := 63) (k := 63) (x := "script") rfl (by decide) (by kernel_rfl) ⟨rfl, by decide, by decide⟩ ?F
    intro w mg fa h Y G hmg0
    obtain ⟨K, KX, c⟩ := Y
    have hmg : mg ("law" : PySem.Str) = some (.ref fa) := by
      have e : (HandSHeadRun.topDef (OpenLaw.row PySem.Challenge.rw_shaperoads_k03_whole_order_of_trees).prog 37).name = ("law" : PySem.Str) := by kernel_rfl
      rw [← e]
      exact hmg0
    exact ⟨K, KX, ML.law_end (ca := K03.cA K) (tf := K03.tf) KX c (fun q hq => ⟨("_law_are_refused", none), List.mem_cons_self, by rw [List.mem_singleton.mp hq]⟩) (K03.facts (P := (PySem.Challenge.rw_shaperoads_k03_whole_order_of_trees).prog) (w := w) KX G hmg c) (fun ns hl => K03.math ns hl)⟩
end
