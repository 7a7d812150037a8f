import PyProof.Rows.All
import Wide.All
import OpenK.AllK
import Wide.FinOn
import PyProof.EqAt
import PyProof.EqKinds
import PyProof.TupleCall
import HandS.ForMost
import HandS.Exc
import HandS.TryOnly
import HandS.ExcOwn
import HandS.WordsExc
import HandS.Lambda
import HandS.Wide
import HandS.WideMore
import HandS.TupAny
import HandS.Style
import HandS.IsInst
import KE.KDictPairs
import KE.SortData
import KE.DataCmp
import KE.DataMinMax
import HandS.Sort
import HandS.SortRule
import HandS.ExcIs
import HandS.TryMany
import HandS.CallRecv
import HandS.StrMore
import HandS.RevTup
import HandS.SortInts
import HandS.Dict
import HandS.Rev
import PyProof.StrBlock2
import HandS.ExcInit
import HandS.Defaults
import HandS.Head0
import HandS.Head1
import HandS.Head2
import HandS.HeadEnd
import HandS.HeadHook1
import HandS.HeadHook2
import HandS.EndTab
import HandS.HeadHook4
import PyProof.ReprReads
import HandS.Zip
import HandS.Conv
import PyProof.ListStr
import KE.GoesMore
import PyProof.EnumMake
import PyProof.Draws
import HandS.Zip0
import KE.GoesZip
import KE.KDictZip
import HandS.ExcValue
import HandS.Deep
import KE.DataFind
import HandS.TupMul
import PySem.Challenge.RW_shaperoads_k74_whole_changes_between_tre
section
set_option Elab.async false
set_option linter.all false
set_option maxRecDepth 100000
set_option maxHeartbeats 2000000
/-! # New tuples whose one object is known -/
namespace MK
open PySem PySem.Spec PyProof.Rows L2
/-- the object of a new tuple -/
abbrev tupO (its : List Value) : Obj := { cls := .type "tuple", data := .seq its.toArray }
/-- for a new tuple at any free place: known to its object, that has no dict -/
def NewT (xs : List V) (H : Hp) (Q : VK) : Prop := ∀ (p : Addr) (o : Obj), o.cls = .type "tuple" → o.dict = none → H p = none → Q (.ref p) (upd H p (.frz o (.tup xs)))
section
variable {X : Cx} {pins : List (Addr × Obj)} {σ : L2.St} {H : Hp} {s : Shared}
theorem layT {xs : List V} {its : List Value} {Q : VK} {t' : Nat} (I : Inv X pins σ H s) (z : xs.length ≤ sizeLine) (r : Vals xs its) (q : NewT xs H Q) : EP X pins σ Q (.ref s.heap.objs.size) { s with heap := s.heap.push (tupO its), toks := t' } :=
  ⟨.ref s.heap.objs.size, _, I.laid (t' := t') (o := .frz (tupO its) (.tup xs)) (fun _ _ e => Heap.get?_push_of_some _ e) (Nat.le_refl _) ⟨Heap.get?_push_size _ rfl, z, its, r, IsTup.new _ _⟩, rfl, q _ (tupO its) rfl rfl (I.hok.fresh (Nat.le_refl _))⟩
def tTupZ (t : TA) : TE := fun σ H Q => t σ H fun xs H1 => xs.length ≤ sizeLine ∧ NewT xs H1 Q
theorem pe_tupZ {es : List Expr} {t : TA} {k : Nat} {pos : Pos} (h : PA X es t) : PE X (.Tuple es k pos) (tTupZ t) := ⟨fun pins s σ H Q I hq =>
  wpAny_Tuple_spliced (thn (h.run pos pins s σ H _ I hq) fun us s1 ⟨xs, H1, I1, r, z, q⟩ => ⟨r.length ▸ z, layT I1 z r q⟩)⟩
/-- tuple(xs) -/
theorem cr_tupOfZ : CallR X (.type "tuple") (fun xs H Q => ∃ p ys, xs = [.ref p] ∧ ((SqL X.K H p ys ∧ NewT ys H Q) ∨ (SqT X.K H p ys ∧ Q (.ref p) H))) := fun pins s σ H xs us Q I r ⟨p, ys, e, h⟩ => by
  subst e
  obtain ⟨u, rfl, rx⟩ := vals1 r
  cases rx
  rcases h with ⟨hq, q⟩ | ⟨hq, q⟩
  · obtain ⟨its, r', pl, hz⟩ := I.list hq
    have hl := r'.length
    exact call_tuple_list pl.isList (fun h' kp => layT (s := { s with heap := h' }) (t' := s.toks) (I.kept (t' := s.toks) kp) hz r' q) (by rw [List.size_toArray]; omega)
  · obtain ⟨its, r', pl, hz⟩ := I.tuple hq
    exact call_tuple_same pl ⟨.ref p, _, I, rfl, q⟩
/-- t[lo:hi] -/
def rSlZ (K : PySem.W.Frag) : V → Option Int → Option Int → Hp → VK → Prop := fun x lo hi H Q => ∃ a xs, x = .ref a ∧ SqT K H a xs ∧
  (HT.sIx xs.length 0 lo = 0 ∧ HT.sIx xs.length xs.length hi = xs.length → Q (.ref a) H) ∧ (¬ (HT.sIx xs.length 0 lo = 0 ∧ HT.sIx xs.length xs.length hi = xs.length) → NewT (cutV xs lo hi) H Q)
theorem sl_tupZ : SlR X (rSlZ X.K) := fun pins s σ H x v vl vu lo hi sl Q I rx hs pl pu ⟨a, xs, e, hx, q1, q2⟩ => by
  subst e
  cases rx
  obtain ⟨its, r, ht, hz⟩ := I.tuple hx
  have hl : its.toArray.size = xs.length := by rw [List.size_toArray]; exact r.length.symm
  refine ⟨_, _, PyProof.Rows.slot_tuple_getitem.lookup, ht.typeIs, ?_⟩
  by_cases hw : HT.sIx xs.length 0 lo = 0 ∧ HT.sIx xs.length xs.length hi = xs.length
  · exact getItem_tuple_whole ht hs pl pu (hl ▸ hw) ⟨.ref a, _, I, rfl, q1 hw⟩
  · refine HT.getItem_tuple_cut ht hs pl pu (hl ▸ hw) ?_ (hl ▸ hz)
    rw [hl]
    exact layT (t' := s.toks) I (Nat.le_trans (cutV_length xs lo hi) hz) ((r.drop _).take _) (q2 hw)
/-- t + u -/
def rCatZ (K : PySem.W.Frag) : R2 := fun x y H Q => ∃ a b xs ys, x = .ref a ∧ y = .ref b ∧ SqT K H a xs ∧ SqT K H b ys ∧ xs.length + ys.length ≤ sizeLine ∧
  (xs = [] → Q (.ref b) H) ∧ (xs ≠ [] → ys = [] → Q (.ref a) H) ∧ (xs ≠ [] → ys ≠ [] → NewT (xs ++ ys) H Q)
theorem op_catZ : OpR X (binaryOp .Add) (rCatZ X.K) := fun pins s σ H x y v u Q I rx ry ⟨a, b, xs, ys, e1, e2, ha, hb, hz, q0, q1, q2⟩ => by
  subst e1 e2
  cases rx
  cases ry
  obtain ⟨its, r1, p1, z1⟩ := I.tuple ha
  obtain ⟨its2, r2, p2, z2⟩ := I.tuple hb
  by_cases hx : xs = []
  · subst hx
    cases r1
    exact cat_tup0 p1 p2 ⟨.ref b, _, I, rfl, q0 rfl⟩
  · exact HT.cat_tup p1 p2 (fun z => hx (r1.nil_iff.mp z)) (fun z => ⟨.ref a, _, I, rfl, q1 hx (r2.nil_iff.mp z)⟩) (fun z => layT (t' := s.toks) I (by rw [List.length_append]; exact hz) (r1.append r2) (q2 hx fun w => z (r2.nil_iff.mpr w))) (by rw [← r1.length, ← r2.length]; exact hz)
end
end MK
end

section
set_option Elab.async false
set_option linter.all false
set_option maxRecDepth 100000
set_option maxHeartbeats 2000000
/-! # dict(t) of a tuple of pairs -/
namespace MK
open PySem PySem.Spec PyProof.Rows L2
/-- the tuple at a has an object without a dict -/
def StrK (K : PySem.W.Frag) (H : Hp) (a : Addr) : Prop := (∃ o u, H a = some (.frz o u) ∧ o.dict = none) ∨ ∃ o, K.lookup a = some o ∧ o.dict = none
section
variable {X : Cx} {pins : List (Addr × Obj)} {σ : L2.St} {H : Hp} {s : Shared}
theorem plainTup {a : Addr} {xs : List V} (I : Inv X pins σ H s) (h : SqT X.K H a xs) (st : StrK X.K H a) : ∃ its : List Value, Vals xs its ∧ PlainSeq "tuple" s.heap a its.toArray ∧ xs.length ≤ sizeLine := by
  obtain ⟨its, r, ⟨o, ho, hc, n, hd⟩, hz⟩ := I.tuple h
  refine ⟨its, r, ⟨o, n, ho, hc, ?_, hd⟩, hz⟩
  rcases st with ⟨o2, u, e, d⟩ | ⟨o2, e, d⟩
  · obtain ⟨e2, _⟩ := I.hok a _ e
    rw [ho] at e2; cases e2; exact d
  · have e2 := I.kIn a o2 e
    rw [ho] at e2; cases e2; exact d
theorem cr_dictT (hcalm : X.calm = true) : CallR X (.type "dict") (fun xs H Q => ∃ (a : Addr) (ps : List Addr) (kvs : List (Key × V)), xs = [.ref a] ∧ SqT X.K H a (ps.map V.ref) ∧ StrK X.K H a ∧
    Paired (fun p kv => SqT X.K H p [kV kv.1, kv.2]) ps kvs ∧ ∀ p, H p = none → Q (.ref p) (upd H p (.dK (mergeK [] kvs)))) := fun pins s σ H xs us Q I r ⟨a, ps, kvs, ex, hq, st, hp, q⟩ => by
  subst ex
  obtain ⟨u, rfl, rx⟩ := vals1 r
  cases rx
  obtain ⟨its, rv, pl, hz⟩ := plainTup I hq st
  obtain rfl := refs_at rv
  obtain ⟨prs, rel, hl, hpr⟩ := pairs_of I hp
  rw [List.length_map] at hz
  -- the values of the pairs
  have kk : ∃ kvl : List (Value × Value), kvl.length = prs.length ∧ ∀ (j : Nat) (k v : Value), kvl[j]? = some (k, v) → ∃ (b : Addr) (q' : Key × Value), prs[j]? = some q' ∧ q'.2 = v ∧ ps[j]? = some b ∧ IsTup s.heap b #[k, v] ∧ keyIs q'.1 k = true := by
    have key : ∀ (prs : List (Key × Value)) (ps : List Addr), (∀ (j : Nat) (q : Key × Value), prs[j]? = some q → ∃ (b : Addr) (u : Value), ps[j]? = some b ∧ IsTup s.heap b #[u, q.2] ∧ keyIs q.1 u = true) →
        ∃ kvl : List (Value × Value), kvl.length = prs.length ∧ ∀ (j : Nat) (k v : Value), kvl[j]? = some (k, v) → ∃ (b : Addr) (q' : Key × Value), prs[j]? = some q' ∧ q'.2 = v ∧ ps[j]? = some b ∧ IsTup s.heap b #[k, v] ∧ keyIs q'.1 k = true := by
      intro prs
      induction prs with
      | nil => exact fun ps h => ⟨[], rfl, fun j k v e => by cases e⟩
      | cons q r ih =>
        intro ps h
        obtain ⟨b, u, e1, e2, e3⟩ := h 0 q rfl
        cases ps with
        | nil => cases e1
        | cons p0 ps =>
          obtain ⟨kvl, l, hk⟩ := ih ps fun j q' e => by
            obtain ⟨b, u, a1, a2, a3⟩ := h (j + 1) q' e
            exact ⟨b, u, a1, a2, a3⟩
          refine ⟨(u, q.2) :: kvl, by rw [List.length_cons, List.length_cons, l], fun j k v e => ?_⟩
          cases j with
          | zero => cases e; exact ⟨b, q, rfl, rfl, e1, e2, e3⟩
          | succ j => exact hk j k v e
    exact key prs ps hpr
  obtain ⟨kvl, kl, hk⟩ := kk
  have at_ : ∀ {j : Nat} {b : Addr}, ps[j]? = some b → ps.getD j 0 = b := fun {j b} e => by rw [List.getD_eq_getElem?_getD, e]; rfl
  refine PySem.call_dict_pairs (knd := mixKind X.prog X.w) (kvs := prs) (PairArg.tuple a (ps.map Value.ref).toArray (fun j => ps.getD j 0) kvl) (I.ok.hd hcalm) ⟨pl, ?_, fun j k v e => ?_⟩ ⟨kl.symm, fun j k v e => ?_⟩ (by omega) fun h' tk hd' k => ?_
  · rw [List.size_toArray, List.length_map]; omega
  · obtain ⟨b, q', e1, rfl, e3, e4, e5⟩ := hk j k v e
    dsimp only
    rw [at_ e3]
    exact ⟨by simp [e3], .inl e4⟩
  · obtain ⟨b, q', e1, rfl, e3, e4, e5⟩ := hk j k v e
    exact ⟨q'.1, e1, e5⟩
  · have hm : (s.heap.objs.size == sysModules) = false := beq_eq_false_iff_ne.mpr (Nat.ne_of_gt I.big)
    have hlen : (mergeK [] kvs).length ≤ sizeLine := by
      have z := length_mergeK kvs []
      have z2 := rel.length
      rw [List.length_nil, Nat.zero_add] at z
      omega
    exact ⟨.ref s.heap.objs.size, _, I.laid (t' := tk) (o := .dK (mergeK [] kvs)) (fun b o e => k b o (by simp) e) (Nat.le_refl _) ⟨hlen, hm, merged [] prs, KV.merge rel .nil, hd'⟩, rfl, q _ (I.hok.fresh (Nat.le_refl _))⟩
end
end MK
namespace MK
open PySem PySem.Spec PyProof.Rows L2 AutoSeq1
theorem ext_tup (dst src : Addr) (xs ys : Array Value) (m k : Nat) (dd : Option Addr) (sl : Array (Option Value)) (far : ¬(!xs.isEmpty && Builtin.List.listTooLong (xs.size + ys.size)) = true) (zx : xs.size ≤ sizeLine) (zy : xs.size + ys.size ≤ sizeLine + 1) :
    Meets (Builtin.«list.extend» ⟨[.ref dst, .ref src], []⟩) (fun _ R st => st.heap.get? dst = some { cls := .type "list", dict := none, data := .seq xs m, slots := #[] } ∧
      st.heap.get? src = some { cls := .type "tuple", dict := dd, data := .seq ys k, slots := sl } ∧
      R (.ok (.ret Value.none)) { st with heap := st.heap.update dst (Obj.mapSeq fun z => z ++ ys), toks := st.toks }) :=
  .of_wp fun prog w A R st q => by
    obtain ⟨h0, g0, d0, t0, o0⟩ := st
    obtain ⟨e1, e2, q⟩ := q
    have u1 := idx_int
    have u2 := AutoSeq1.sub_tuple_tuple
    have u3 := AutoSeq1.sub_list_list
    have u4 := AutoSeq1.sub_tuple_list
    have u5 := AutoSeq1.sub_list_tuple
    have both : (xs ++ ys).size ≤ sizeLine + 1 := by rw [Array.size_append]; exact zy
    wp_walk using (wpAny_updateSeq e1 rfl (hz := zx) (_hz' := both)), wpAny_loadPart' e1, wpAny_loadPart' e2
    exact ⟨_, rfl, q⟩
end MK
end

section
set_option Elab.async false
set_option linter.all false
set_option maxRecDepth 100000
set_option maxHeartbeats 2000000
/-! # The order of data: <, sorted, min -/
namespace MK
open PySem PySem.Spec PyProof.Rows L2 PySem.W
/-- the greatest depth of data that are compared -/
abbrev DEEP : Nat := 60
section
variable {X : Cx} {pins : List (Addr × Obj)} {σ : L2.St} {H : Hp} {s : Shared}
def rLtD (K : PySem.W.Frag) (f : PyData → PyData → Bool) : R2 := fun x y H Q => ∃ d e, Dp K H x d ∧ Dp K H y e ∧ alike d e = true ∧ d ≠ .none ∧ d.depth ≤ DEEP ∧ Q (.bl (f d e)) H
theorem op_ltD (hu : X.A.units + 64 < cLine) : OpR X (compareOp .Lt) (rLtD X.K fun d e => dataLt d e) := fun pins s σ H x y v u Q I rx ry ⟨d, e, h1, h2, al, nn, dp, q⟩ => by
  obtain ⟨as, r1⟩ := Dp.reads I d x v h1 rx
  obtain ⟨bs, r2⟩ := Dp.reads I e y u h2 ry
  exact lt_data r1 r2 al nn (by have := Nat.min_le_left d.depth e.depth; have z : d.depth ≤ 60 := dp; omega) ⟨.bl _, H, I, rfl, q⟩
theorem op_gtD (hu : X.A.units + 64 < cLine) : OpR X (compareOp .Gt) (rLtD X.K fun d e => dataLt e d) := fun pins s σ H x y v u Q I rx ry ⟨d, e, h1, h2, al, nn, dp, q⟩ => by
  obtain ⟨as, r1⟩ := Dp.reads I d x v h1 rx
  obtain ⟨bs, r2⟩ := Dp.reads I e y u h2 ry
  exact gt_data r1 r2 al nn (by have := Nat.min_le_left d.depth e.depth; have z : d.depth ≤ 60 := dp; omega) ⟨.bl _, H, I, rfl, q⟩
/-- the order of data, as mergeSort takes it -/
def leD (a b : PyData) : Bool := !dataLt b a
def rSortD (K : PySem.W.Frag) : List V → Hp → VK → Prop := fun vs H Q => ∃ (a : Addr) (bs : List (PyData × V)), vs = [.ref a] ∧ SqL K H a (bs.map (·.2)) ∧ (∀ b ∈ bs, Dp K H b.2 b.1) ∧ AllAlike (bs.map (·.1)) ∧ Sortable (bs.map (·.1)) ∧ (∀ b ∈ bs, b.1.depth ≤ DEEP) ∧
  ∀ p, H p = none → Q (.ref p) (upd H p (.lst ((bs.mergeSort fun x y => leD x.1 y.1).map (·.2))))
theorem each_of {bs : List (PyData × V)} : ∀ {its : List Value}, Vals (bs.map (·.2)) its → EachIs (fun u (b : PyData × V) => RelV b.2 u) its bs := by
  induction bs with
  | nil => intro its r; cases r; exact .nil
  | cons b bs ih => intro its r; cases r with | cons h t => exact .cons h (ih t)
theorem each_vals {its : List Value} {bs : List (PyData × V)} (h : EachIs (fun u (b : PyData × V) => RelV b.2 u) its bs) : Vals (bs.map (·.2)) its := by
  induction h with
  | nil => exact .nil
  | cons h t ih => exact .cons h ih
theorem each_reads {bs : List (PyData × V)} (I : Inv X pins σ H s) : ∀ {its : List Value}, (∀ b ∈ bs, Dp X.K H b.2 b.1) → EachIs (fun u (b : PyData × V) => RelV b.2 u) its bs → EachIs (fun u (b : PyData × V) => ∃ as, Reads s.heap u b.1 as) its bs := by
  intro its hd h
  induction h with
  | nil => exact .nil
  | cons r t ih => exact .cons (Dp.reads I _ _ _ (hd _ List.mem_cons_self) r) (ih fun b hb => hd b (List.mem_cons_of_mem _ hb))
theorem cr_sortD (hu : X.A.units + 64 < cLine) : CallR X (.builtin "sorted") (rSortD X.K) := fun pins s σ H vs us Q I r ⟨a, bs, e, hs, hd, al, so, dp, q⟩ => by
  subst e
  obtain ⟨u, rfl, ru⟩ := vals1 r
  obtain rfl : u = Value.ref a := ru
  obtain ⟨its, rv, hl, hz⟩ := I.list hs
  have ev := each_of rv
  rw [List.length_map] at hz
  refine sorted_data (R := fun u (b : PyData × V) => RelV b.2 u) (enc := fun b => b.1) hl.isList ev (each_reads I hd ev) al so hz (fun b hb => by have z : b.1.depth ≤ 60 := dp b hb; show X.A.units + 2 + b.1.depth < cLine; omega) fun out lo eo => ?_
  obtain ⟨n, at_⟩ := sortedAll_at s.heap its out.toArray
  have eo' : EachIs (fun u (b : PyData × V) => RelV b.2 u) out (bs.mergeSort fun x y => leD x.1 y.1) := eo
  refine ⟨.ref (s.heap.objs.size + 1), _, I.laid (t' := s.toks) (o := .lst ((bs.mergeSort fun x y => leD x.1 y.1).map (·.2))) (fun b o h => sortedAll_old h) (Nat.le_succ _) ⟨?_, out, n, each_vals eo', at_⟩, rfl, q _ (I.hok.fresh (Nat.le_succ _))⟩
  rw [List.length_map, List.length_mergeSort]
  exact hz
def rMinD (K : PySem.W.Frag) : List V → Hp → VK → Prop := fun vs H Q => ∃ (a : Addr) (x : PyData) (xs : List PyData) (us : List V), vs = [.ref a] ∧ SqL K H a us ∧ DpAll K H us (x :: xs) ∧ AlikeAll (x :: xs) ∧ PyData.depthAll (x :: xs) ≤ DEEP ∧
  ∀ (i : Nat) (v : V) (d : PyData), us[i]? = some v → (x :: xs)[i]? = some d → d = minD x xs → Q v H
theorem cr_minD (hc : X.calm = true) (hu : X.A.units + 64 < cLine) : CallR X (.builtin "min") (rMinD X.K) := fun pins s σ H vs us Q I r ⟨a, x, xs, ws, e, hs, hd, al, dp, q⟩ => by
  subst e
  obtain ⟨u, rfl, ru⟩ := vals1 r
  obtain rfl : u = Value.ref a := ru
  obtain ⟨its, rv, hl, hz⟩ := I.list hs
  obtain ⟨as, ra⟩ := Dp.readsAll I _ _ _ hd rv
  refine min_list_data (I.ok.hd hc) hl.isList (vs := its.toArray) (by simpa using ra) al (by have z : PyData.depthAll (x :: xs) ≤ 60 := dp; omega) fun i v h' tk bs hi hr kp => ?_
  have hi' : its[i]? = some v := by simpa using hi
  have hil : i < its.length := (List.getElem?_eq_some_iff.mp hi').1
  have l1 := rv.length
  obtain ⟨w, hw⟩ : ∃ w, ws[i]? = some w := ⟨ws[i]'(by omega), List.getElem?_eq_getElem (by omega)⟩
  obtain ⟨v2, hv2, rw2⟩ := rv.get hw
  have ev : v2 = v := by rw [hi'] at hv2; exact (Option.some.inj hv2).symm
  subst ev
  obtain ⟨cs, rd, hlt, mem, _⟩ := readsAll_at ra i v2 hi'
  have hget : (x :: xs)[i]? = some ((x :: xs).getD i .none) := by rw [List.getD_eq_getElem?_getD, List.getElem?_eq_getElem hlt]; rfl
  have mm : minD x xs ∈ x :: xs := by
    have key : ∀ (ys : List PyData) (z : PyData), ys.foldl (fun a y => if dataLt y a then y else a) z ∈ z :: ys := by
      intro ys
      induction ys with
      | nil => intro z; exact List.mem_cons_self
      | cons y ys ih =>
        intro z
        rw [List.foldl_cons]
        split
        · exact List.mem_cons_of_mem _ (ih y)
        · rcases List.mem_cons.mp (ih z) with h | h
          · rw [h]; exact List.mem_cons_self
          · exact List.mem_cons_of_mem _ (List.mem_cons_of_mem _ h)
    exact key xs x
  have same : (x :: xs).getD i .none = minD x xs := alike_unique _ _ v2 _ _ (al.1 _ mem _ mm) (Reads.keeps kp rd) hr
  exact ⟨w, H, I.kept (t' := tk) kp, rw2, q i w _ hw hget same⟩
end
end MK
end

section
set_option Elab.async false
set_option linter.all false
set_option maxRecDepth 100000
set_option maxHeartbeats 2000000
/-! # The data that stand in a heap, a frame's slots, what a step keeps -/
namespace ML
open PySem L2

abbrev D := PyData

/-- what an object that may change holds -/
inductive Ob where
  | lst (xs : List D)
  | dct (kvs : List (Key × D))
  | ins (c : Str) (fs : List (Str × D))

/-- a slot: not stored yet, a thing that never changes, an object of the frame's own (or a caller's: loc false), the script, an error that is handled -/
inductive Sl where
  | un
  | d (x : D)
  | o (loc : Bool) (k : Ob)
  | sc (ns : List Int)
  | xc

/-- where the classes of the program stand; the tables of code objects that the frames' lambdas use -/
structure CA where
  cls : Str → Addr
  tb : List (Addr × Str) := []
instance : CoeFun CA (fun _ => Str → Addr) := ⟨CA.cls⟩
instance : Coe (Str → Addr) CA := ⟨fun f => ⟨f, []⟩⟩

/-- a tuple at a: laid, or of the written part -/
def TupW (K : PySem.W.Frag) (ow : Addr → Prop) (H : Hp) (a : Addr) (xs : List V) : Prop :=
  (H a = some (.tup xs) ∧ ¬ ow a) ∨ (∃ o, H a = some (.frz o (.tup xs)) ∧ ¬ ow a) ∨
    ∃ (o : Obj) (its : Array Value) (n : Nat), K.lookup a = some o ∧ o.cls = .type "tuple" ∧ o.data = .seq its n ∧ its.size ≤ sizeLine ∧ Vals xs its.toList

/-- a pair of a text and a number; a row of such: a tuple of them has an object without a dict, so that dict() can take it -/
@[simp] def sigP : D → Bool
  | .tuple [.str _, .int _] => true
  | _ => false
def sigD (ds : List D) : Bool := !ds.isEmpty && ds.all sigP
def StrT (K : PySem.W.Frag) (ow : Addr → Prop) (H : Hp) (a : Addr) : Prop := (∃ o xs, H a = some (.frz o (.tup xs)) ∧ o.dict = none ∧ ¬ ow a) ∨ ∃ o, K.lookup a = some o ∧ o.dict = none
structure TupAt (K : PySem.W.Frag) (ow : Addr → Prop) (H : Hp) (ds : List D) (a : Addr) (xs : List V) : Prop where
  at_ : TupW K ow H a xs
  sg : sigD ds = true → StrT K ow H a

/-- the script at a: as the law was called with it, or of the written part -/
def ScAt (K : PySem.W.Frag) (ow : Addr → Prop) (H : Hp) (a : Addr) (ns : List Int) : Prop :=
  (∃ o, H a = some (.frz o (.lst (ns.map V.int))) ∧ ¬ ow a) ∨ (H a = some (.lst (ns.map V.int)) ∧ ¬ ow a) ∨
    ∃ (o : Obj) (its : Array Value) (n : Nat), K.lookup a = some o ∧ o.cls = .type "list" ∧ o.dict = none ∧ o.data = .seq its n ∧ its.size ≤ sizeLine ∧ Vals (ns.map V.int) its.toList

@[simp] def kD : Key → D
  | .inl i => .int i
  | .inr x => .str x

mutual
/-- the value v is the thing d -/
def Rp (K : PySem.W.Frag) (ow : Addr → Prop) (H : Hp) : D → V → Prop
  | .none, v => v = .non
  | .bool b, v => v = .bl b
  | .int i, v => v = .int i
  | .str x, v => v = .str x
  | .list ds, v => ∃ a xs, v = .ref a ∧ H a = some (.lst xs) ∧ ¬ ow a ∧ RpA K ow H ds xs
  | .tuple ds, v => ∃ a xs, v = .ref a ∧ TupAt K ow H ds a xs ∧ RpA K ow H ds xs
  | .dict kvs, v => ∃ a us, v = .ref a ∧ H a = some (.dK us) ∧ ¬ ow a ∧ RpK K ow H kvs us
def RpA (K : PySem.W.Frag) (ow : Addr → Prop) (H : Hp) : List D → List V → Prop
  | [], xs => xs = []
  | d :: ds, xs => ∃ v vs, xs = v :: vs ∧ Rp K ow H d v ∧ RpA K ow H ds vs
def RpK (K : PySem.W.Frag) (ow : Addr → Prop) (H : Hp) : List (D × D) → List (Key × V) → Prop
  | [], us => us = []
  | kd :: r, us => ∃ k v us', us = (k, v) :: us' ∧ kd.1 = kD k ∧ Rp K ow H kd.2 v ∧ RpK K ow H r us'
end

/-- what is kept from one moment to another: all that nobody owns -/
def NT (o : HO) : Prop := ∀ ps : Array Value, o ≠ .tbl ps
def Stp (ow : Addr → Prop) (H : Hp) (ow' : Addr → Prop) (H' : Hp) : Prop := ∀ a o, H a = some o → ¬ ow a → NT o → H' a = some o ∧ ¬ ow' a
theorem nt_tup {xs : List V} : NT (.tup xs) := fun _ z => by cases z
theorem nt_lst {xs : List V} : NT (.lst xs) := fun _ z => by cases z
theorem nt_dK {us : List (Key × V)} : NT (.dK us) := fun _ z => by cases z
theorem nt_frz {o : Obj} {u : HO} : NT (.frz o u) := fun _ z => by cases z
theorem nt_code {c : Addr} {q : Str} : NT (LamX.CodeO c q) := fun ps z => LamX.codeO_ne ps z
theorem Stp.refl {ow : Addr → Prop} {H : Hp} : Stp ow H ow H := fun _ _ h n _ => ⟨h, n⟩
theorem Stp.trans {ow ow1 ow2 : Addr → Prop} {H H1 H2 : Hp} (a : Stp ow H ow1 H1) (b : Stp ow1 H1 ow2 H2) : Stp ow H ow2 H2 := fun x o h n t => let ⟨h1, n1⟩ := a x o h n t; b x o h1 n1 t

section
variable {K : PySem.W.Frag} {ow ow' : Addr → Prop} {H H' : Hp}
theorem ScAt.stp {a : Addr} {ns : List Int} (s : Stp ow H ow' H') (h : ScAt K ow H a ns) : ScAt K ow' H' a ns := by
  rcases h with ⟨o, h, n⟩ | ⟨h, n⟩ | h
  · exact .inl ⟨o, s a _ h n nt_frz⟩
  · exact .inr (.inl (s a _ h n nt_lst))
  · exact .inr (.inr h)
theorem ScAt.sq {a : Addr} {ns : List Int} (h : ScAt K ow H a ns) : SqL K H a (ns.map V.int) := by
  rcases h with ⟨o, h, n⟩ | ⟨h, n⟩ | h
  · exact .inl (.inr ⟨o, h⟩)
  · exact .inl (.inl h)
  · exact .inr h
theorem StrT.stp {a : Addr} (s : Stp ow H ow' H') (h : StrT K ow H a) : StrT K ow' H' a := by
  rcases h with ⟨o, xs, h, d, n⟩ | h
  · obtain ⟨h', n'⟩ := s a _ h n nt_frz
    exact .inl ⟨o, xs, h', d, n'⟩
  · exact .inr h
theorem TupAt.stp {ds : List D} {a : Addr} {xs : List V} (s : Stp ow H ow' H') (h : TupAt K ow H ds a xs) : TupAt K ow' H' ds a xs := by
  refine ⟨?_, fun z => (h.sg z).stp s⟩
  rcases h.at_ with ⟨h, n⟩ | ⟨o, h, n⟩ | h
  · exact .inl (s a _ h n nt_tup)
  · exact .inr (.inl ⟨o, s a _ h n nt_frz⟩)
  · exact .inr (.inr h)
theorem TupAt.sq {ds : List D} {a : Addr} {xs : List V} (h : TupAt K ow H ds a xs) : SqT K H a xs := by
  rcases h.at_ with ⟨h, n⟩ | ⟨o, h, n⟩ | h
  · exact .inl (.inl h)
  · exact .inl (.inr ⟨o, h⟩)
  · exact .inr h
theorem TupAt.frz {ds : List D} {a : Addr} {xs : List V} {o : Obj} (h : H a = some (.frz o (.tup xs))) (d : o.dict = none) (n : ¬ ow a) : TupAt K ow H ds a xs := ⟨.inr (.inl ⟨o, h, n⟩), fun _ => .inl ⟨o, xs, h, d, n⟩⟩
theorem TupAt.weak {ds : List D} {a : Addr} {xs : List V} (h : H a = some (.tup xs)) (n : ¬ ow a) (d : sigD ds = false) : TupAt K ow H ds a xs := ⟨.inl ⟨h, n⟩, fun z => by rw [d] at z; cases z⟩
mutual
theorem Rp.stp (s : Stp ow H ow' H') : ∀ (d : D) (v : V), Rp K ow H d v → Rp K ow' H' d v
  | .none, v, h => h
  | .bool b, v, h => h
  | .int i, v, h => h
  | .str x, v, h => h
  | .list ds, v, h => by
    unfold Rp at h ⊢
    obtain ⟨a, xs, e, h1, n, h2⟩ := h
    obtain ⟨h1', n'⟩ := s a _ h1 n nt_lst
    exact ⟨a, xs, e, h1', n', RpA.stp s ds xs h2⟩
  | .tuple ds, v, h => by
    unfold Rp at h ⊢
    obtain ⟨a, xs, e, h1, h2⟩ := h
    exact ⟨a, xs, e, h1.stp s, RpA.stp s ds xs h2⟩
  | .dict kvs, v, h => by
    unfold Rp at h ⊢
    obtain ⟨a, us, e, h1, n, h2⟩ := h
    obtain ⟨h1', n'⟩ := s a _ h1 n nt_dK
    exact ⟨a, us, e, h1', n', RpK.stp s kvs us h2⟩
theorem RpA.stp (s : Stp ow H ow' H') : ∀ (ds : List D) (xs : List V), RpA K ow H ds xs → RpA K ow' H' ds xs
  | [], xs, h => h
  | d :: ds, xs, h => by
    unfold RpA at h ⊢
    obtain ⟨v, vs, e, h1, h2⟩ := h
    exact ⟨v, vs, e, Rp.stp s d v h1, RpA.stp s ds vs h2⟩
theorem RpK.stp (s : Stp ow H ow' H') : ∀ (ds : List (D × D)) (us : List (Key × V)), RpK K ow H ds us → RpK K ow' H' ds us
  | [], us, h => h
  | kd :: ds, us, h => by
    unfold RpK at h ⊢
    obtain ⟨k, v, us', e, ek, h1, h2⟩ := h
    exact ⟨k, v, us', e, ek, Rp.stp s kd.2 v h1, RpK.stp s ds us' h2⟩
end
end

/-- dict entries by their keys -/
def RpE (K : PySem.W.Frag) (ow : Addr → Prop) (H : Hp) (kvs : List (Key × D)) (us : List (Key × V)) : Prop :=
  Paired (fun (p : Key × D) (q : Key × V) => p.1 = q.1 ∧ Rp K ow H p.2 q.2) kvs us
def RpF (K : PySem.W.Frag) (ow : Addr → Prop) (H : Hp) (fs : List (Str × D)) (us : List (Str × V)) : Prop :=
  Paired (fun (p : Str × D) (q : Str × V) => p.1 = q.1 ∧ Rp K ow H p.2 q.2) fs us
/-- the object at p holds k -/
def OwnR (K : PySem.W.Frag) (ca : CA) (ow : Addr → Prop) (H : Hp) (p : Addr) : Ob → Prop
  | .lst xs => ∃ vs, H p = some (.lst vs) ∧ RpA K ow H xs vs
  | .dct kvs => ∃ us, H p = some (.dK us) ∧ RpE K ow H kvs us
  | .ins c fs => ∃ dx us, H p = some (.ins (ca c) dx us) ∧ RpF K ow H fs us
section
variable {K : PySem.W.Frag} {ca : CA} {ow ow' : Addr → Prop} {H H' : Hp}
theorem RpE.stp {kvs : List (Key × D)} {us : List (Key × V)} (s : Stp ow H ow' H') (h : RpE K ow H kvs us) : RpE K ow' H' kvs us := Paired.mapP h fun _ _ z => ⟨z.1, z.2.stp s⟩
theorem RpF.stp {kvs : List (Str × D)} {us : List (Str × V)} (s : Stp ow H ow' H') (h : RpF K ow H kvs us) : RpF K ow' H' kvs us := Paired.mapP h fun _ _ z => ⟨z.1, z.2.stp s⟩
/-- its own object apart -/
theorem OwnR.stp {p : Addr} {k : Ob} (s : Stp ow H ow' H') (e : H' p = H p) (h : OwnR K ca ow H p k) : OwnR K ca ow' H' p k := by
  cases k with
  | lst xs => obtain ⟨vs, h1, h2⟩ := h; exact ⟨vs, e.trans h1, h2.stp s⟩
  | dct kvs => obtain ⟨vs, h1, h2⟩ := h; exact ⟨vs, e.trans h1, h2.stp s⟩
  | ins c fs => obtain ⟨dx, vs, h1, h2⟩ := h; exact ⟨dx, vs, e.trans h1, h2.stp s⟩
theorem OwnR.there {p : Addr} {k : Ob} (h : OwnR K ca ow H p k) : ∃ o, H p = some o := by
  cases k with
  | lst xs => obtain ⟨vs, h1, h2⟩ := h; exact ⟨_, h1⟩
  | dct kvs => obtain ⟨vs, h1, h2⟩ := h; exact ⟨_, h1⟩
  | ins c fs => obtain ⟨dx, vs, h1, h2⟩ := h; exact ⟨_, h1⟩
end

/-- the table at P: all that it tells are code objects of the name q -/
def TbR (ow : Addr → Prop) (H : Hp) (P : Addr) (q : Str) : Prop := ∃ ps : Array Value, H P = some (.tbl ps) ∧ TriplesOk ps.toList ∧ ∀ (pos : Pos) (cv : Value), codeAmong pos ps.toList = some cv → ∃ c, cv = .ref c ∧ H c = some (LamX.CodeO c q) ∧ ¬ ow c
theorem TbR.stp {ow ow' : Addr → Prop} {H H' : Hp} {P : Addr} {q : Str} (s : Stp ow H ow' H') (e : H' P = H P) (h : TbR ow H P q) : TbR ow' H' P q := by
  obtain ⟨ps, h1, h2, h3⟩ := h
  refine ⟨ps, e.trans h1, h2, fun pos cv hc => ?_⟩
  obtain ⟨c, e1, e2, n⟩ := h3 pos cv hc
  obtain ⟨e3, n'⟩ := s c _ e2 n nt_code
  exact ⟨c, e1, e3, n'⟩
theorem TbR.tbl {ow : Addr → Prop} {H : Hp} {P : Addr} {q : Str} (h : TbR ow H P q) : ∃ ps, H P = some (.tbl ps) := by
  obtain ⟨ps, h1, _⟩ := h
  exact ⟨ps, h1⟩
theorem OwnR.noTbl {K : PySem.W.Frag} {ca : CA} {ow : Addr → Prop} {H : Hp} {p : Addr} {k : Ob} {ps : Array Value} (h : OwnR K ca ow H p k) : H p ≠ some (.tbl ps) := by
  intro e
  cases k with
  | lst xs => obtain ⟨vs, h1, h2⟩ := h; rw [e] at h1; cases h1
  | dct kvs => obtain ⟨vs, h1, h2⟩ := h; rw [e] at h1; cases h1
  | ins c fs => obtain ⟨dx, vs, h1, h2⟩ := h; rw [e] at h1; cases h1

/-- a table of code objects -/
def IsT (o : Option HO) : Prop := ∃ ps : Array Value, o = some (.tbl ps)
theorem OwnR.noT {K : PySem.W.Frag} {ca : CA} {ow : Addr → Prop} {H : Hp} {p : Addr} {k : Ob} (h : OwnR K ca ow H p k) : ¬ IsT (H p) := fun ⟨_, e⟩ => h.noTbl e
theorem noT_lst {H : Hp} {p : Addr} {vs : List V} (h : H p = some (.lst vs)) : ¬ IsT (H p) := fun ⟨_, e⟩ => by rw [h] at e; cases e
/-- what may be owned, but tables -/
def MutO (o : Option HO) : Prop := (∃ xs, o = some (.lst xs)) ∨ (∃ us, o = some (.dK us)) ∨ ∃ c d us, o = some (.ins c d us)
theorem OwnR.mutO {K : PySem.W.Frag} {ca : CA} {ow : Addr → Prop} {H : Hp} {p : Addr} {k : Ob} (h : OwnR K ca ow H p k) : MutO (H p) := by
  cases k with
  | lst xs => obtain ⟨vs, h1, h2⟩ := h; exact .inl ⟨_, h1⟩
  | dct kvs => obtain ⟨us, h1, h2⟩ := h; exact .inr (.inl ⟨_, h1⟩)
  | ins c fs => obtain ⟨dx, us, h1, h2⟩ := h; exact .inr (.inr ⟨_, _, _, h1⟩)
theorem MutO.nt {o : HO} (h : MutO (some o)) : NT o := fun ps z => by
  subst z
  rcases h with ⟨_, h⟩ | ⟨_, h⟩ | ⟨_, _, _, h⟩ <;> cases h
theorem MutO.noCode {c : Addr} {q : Str} (h : MutO (some (LamX.CodeO c q))) : False := by
  unfold LamX.CodeO at h
  rcases h with ⟨_, h⟩ | ⟨_, h⟩ | ⟨_, _, _, h⟩ <;> cases h
theorem MutO.there {o : Option HO} (h : MutO o) : ∃ u, o = some u := by
  rcases h with ⟨_, h⟩ | ⟨_, h⟩ | ⟨_, _, _, h⟩ <;> exact ⟨_, h⟩
def Knd (ca : CA) (ow : Addr → Prop) (H : Hp) : Prop := ∀ a, ow a → (∃ q ∈ ca.tb, q.1 = a) ∨ MutO (H a)
/-- a frame: the heap at its entry, what its callers own, which of these it may change, its arguments, the error that is handled -/
structure Fr where
  H0 : Hp
  ow0 : Addr → Prop
  io : Addr → Prop
  vs : List V
  xa : Addr := 0

/-- a slot's value -/
def SlR (K : PySem.W.Frag) (ca : CA) (F : Fr) (ow : Addr → Prop) (H : Hp) (i : Nat) : Sl → Option V → Prop
  | .un, _ => True
  | .d x, v => ∃ u, v = some u ∧ Rp K ow H x u
  | .o true k, v => ∃ p, v = some (.ref p) ∧ ow p ∧ OwnR K ca ow H p k ∧ F.H0 p = none ∧ ¬ F.ow0 p
  | .o false k, v => ∃ p, v = some (.ref p) ∧ ow p ∧ OwnR K ca ow H p k ∧ F.io p ∧ F.vs[i]? = some (.ref p)
  | .sc ns, v => ∃ a, v = some (.ref a) ∧ ScAt K ow H a ns
  | .xc, v => v = some (.ref F.xa)

structure Rel (K : PySem.W.Frag) (ca : CA) (F : Fr) (ow : Addr → Prop) (env : List Sl) (σ : St) (H : Hp) : Prop where
  len : env.length = σ.length
  sl : ∀ (i : Nat) (s : Sl) (v : Option V), env[i]? = some s → σ[i]? = some v → SlR K ca F ow H i s v
  dis : ∀ (i j : Nat) (p : Addr) (l l' : Bool) (k k' : Ob), env[i]? = some (.o l k) → env[j]? = some (.o l' k') → σ[i]? = some (some (.ref p)) → σ[j]? = some (some (.ref p)) → i = j
  keep : ∀ a o, F.H0 a = some o → ¬ F.io a → NT o → H a = some o
  dom : ∀ a, H a = none → F.H0 a = none
  sub : ∀ a, F.ow0 a → ow a
  trk : ∀ a, ow a → ∃ o, H a = some o
  knd : Knd ca ow H
  tab : ∀ q ∈ ca.tb, ow q.1 ∧ F.io q.1 ∧ (∃ o, F.H0 q.1 = some o) ∧ TbR ow H q.1 q.2

section
variable {K : PySem.W.Frag} {ca : CA} {F : Fr} {ow ow' : Addr → Prop} {H H' : Hp} {env : List Sl} {σ : St}
theorem SlR.at (R : Rel K ca F ow env σ H) {i : Nat} {s : Sl} (h : env[i]? = some s) : ∃ v, σ[i]? = some v ∧ SlR K ca F ow H i s v := by
  have hi : i < σ.length := by rw [← R.len]; exact (List.getElem?_eq_some_iff.mp h).1
  exact ⟨σ[i], List.getElem?_eq_getElem hi, R.sl i s _ h (List.getElem?_eq_getElem hi)⟩
theorem Rel.nT (R : Rel K ca F ow env σ H) {a : Addr} (n : ¬ IsT (H a)) : ¬ ∃ q ∈ ca.tb, q.1 = a := fun ⟨q, hq, e⟩ => by
  obtain ⟨ps, h⟩ := (R.tab q hq).2.2.2.tbl
  exact n ⟨ps, by rw [← e]; exact h⟩
theorem Rel.data (R : Rel K ca F ow env σ H) {i : Nat} {x : D} (h : env[i]? = some (.d x)) : ∃ v, σ[i]? = some (some v) ∧ Rp K ow H x v := by
  obtain ⟨v, e, u, rfl, r⟩ := SlR.at R h
  exact ⟨u, e, r⟩
theorem Rel.own (R : Rel K ca F ow env σ H) {i : Nat} {l : Bool} {k : Ob} (h : env[i]? = some (.o l k)) :
    ∃ p, σ[i]? = some (some (.ref p)) ∧ ow p ∧ OwnR K ca ow H p k := by
  obtain ⟨v, e, r⟩ := SlR.at R h
  cases l with
  | true => obtain ⟨p, rfl, h1, h2, _⟩ := r; exact ⟨p, e, h1, h2⟩
  | false => obtain ⟨p, rfl, h1, h2, _⟩ := r; exact ⟨p, e, h1, h2⟩
/-- the heap grows: a new object at p -/
def Gr (H H' : Hp) : Prop := ∀ a o, H a = some o → H' a = some o
theorem Gr.refl {H : Hp} : Gr H H := fun _ _ h => h
theorem Gr.trans {H H1 H2 : Hp} (a : Gr H H1) (b : Gr H1 H2) : Gr H H2 := fun x o h => b x o (a x o h)
theorem Gr.new {p : Addr} {o : HO} (h : H p = none) : Gr H (upd H p o) := fun a u e => by
  rw [upd_ne (ne_of_none e h)]; exact e
theorem Gr.none (g : Gr H H') {a : Addr} (h : H' a = none) : H a = none := by
  cases e : H a with
  | none => rfl
  | some o => rw [g a o e] at h; cases h
theorem Gr.stp (g : Gr H H') : Stp ow H ow H' := fun a o h n _ => ⟨g a o h, n⟩
theorem MutO.gr {a : Addr} (g : Gr H H') (h : MutO (H a)) : MutO (H' a) := by
  rcases h with ⟨xs, h⟩ | ⟨us, h⟩ | ⟨c, d, us, h⟩
  · exact .inl ⟨_, g _ _ h⟩
  · exact .inr (.inl ⟨_, g _ _ h⟩)
  · exact .inr (.inr ⟨_, _, _, g _ _ h⟩)
theorem OwnR.gr {p : Addr} {k : Ob} (g : Gr H H') (h : OwnR K ca ow H p k) : OwnR K ca ow H' p k := by
  obtain ⟨o, e⟩ := h.there
  exact h.stp g.stp (by rw [g p o e, e])
theorem Rel.gr (R : Rel K ca F ow env σ H) (g : Gr H H') : Rel K ca F ow env σ H' where
  len := R.len
  sl := fun i s v h1 h2 => by
    have q := R.sl i s v h1 h2
    cases s with
    | un => exact q
    | d x => obtain ⟨u, e, r⟩ := q; exact ⟨u, e, r.stp g.stp⟩
    | o l k =>
      cases l with
      | true => obtain ⟨p, e, a, b, c⟩ := q; exact ⟨p, e, a, b.gr g, c⟩
      | false => obtain ⟨p, e, a, b, c⟩ := q; exact ⟨p, e, a, b.gr g, c⟩
    | sc ns => obtain ⟨a, e, h⟩ := q; exact ⟨a, e, h.stp g.stp⟩
    | xc => exact q
  dis := R.dis
  keep := fun a o h n t => g a o (R.keep a o h n t)
  dom := fun a h => R.dom a (g.none h)
  sub := R.sub
  trk := fun a h => let ⟨o, e⟩ := R.trk a h; ⟨o, g a o e⟩
  knd := fun a h => (R.knd a h).imp id fun z => z.gr g
  tab := fun q hq => let ⟨a, b, c, d⟩ := R.tab q hq; ⟨a, b, c, d.stp g.stp (by obtain ⟨ps, e⟩ := d.tbl; rw [g _ _ e, e])⟩
theorem Rel.free (R : Rel K ca F ow env σ H) {p : Addr} (h : H p = none) : ¬ ow p := fun z => by
  obtain ⟨o, e⟩ := R.trk p z
  rw [h] at e; cases e

/-- a slot of data is stored -/
theorem Rel.set (R : Rel K ca F ow env σ H) {i : Nat} {x : D} {v : V} (r : Rp K ow H x v) : Rel K ca F ow (env.set i (.d x)) (σ.set i (some v)) H where
  len := by rw [List.length_set, List.length_set]; exact R.len
  sl := fun j s u h1 h2 => by
    by_cases e : i = j
    · subst e
      by_cases hl : i < env.length
      · rw [List.getElem?_set_self hl] at h1
        rw [List.getElem?_set_self (by rw [← R.len]; exact hl)] at h2
        cases h1; cases h2
        exact ⟨v, rfl, r⟩
      · rw [List.getElem?_eq_none (by simpa using hl)] at h1; cases h1
    · rw [List.getElem?_set_ne e] at h1 h2
      exact R.sl j s u h1 h2
  dis := fun j j' p l l' k k' h1 h2 h3 h4 => by
    have ne : ∀ {j l k}, (env.set i (.d x))[j]? = some (Sl.o l k) → i ≠ j := fun {j l k} h e => by
      subst e
      by_cases hl : i < env.length
      · rw [List.getElem?_set_self hl] at h; cases h
      · rw [List.getElem?_eq_none (by simpa using hl)] at h; cases h
    have n1 := ne h1
    have n2 := ne h2
    rw [List.getElem?_set_ne n1] at h1 h3
    rw [List.getElem?_set_ne n2] at h2 h4
    exact R.dis j j' p l l' k k' h1 h2 h3 h4
  keep := R.keep
  dom := R.dom
  sub := R.sub
  trk := R.trk
  knd := R.knd
  tab := R.tab
/-- a slot is forgotten -/
theorem Rel.drop (R : Rel K ca F ow env σ H) {i : Nat} {v : Option V} : Rel K ca F ow (env.set i .un) (σ.set i v) H where
  len := by rw [List.length_set, List.length_set]; exact R.len
  sl := fun j s u h1 h2 => by
    by_cases e : i = j
    · subst e
      by_cases hl : i < env.length
      · rw [List.getElem?_set_self hl] at h1
        cases h1
        exact True.intro
      · rw [List.getElem?_eq_none (by simpa using hl)] at h1; cases h1
    · rw [List.getElem?_set_ne e] at h1 h2
      exact R.sl j s u h1 h2
  dis := fun j j' p l l' k k' h1 h2 h3 h4 => by
    have ne : ∀ {j l k}, (env.set i .un)[j]? = some (Sl.o l k) → i ≠ j := fun {j l k} h e => by
      subst e
      by_cases hl : i < env.length
      · rw [List.getElem?_set_self hl] at h; cases h
      · rw [List.getElem?_eq_none (by simpa using hl)] at h; cases h
    have n1 := ne h1
    have n2 := ne h2
    rw [List.getElem?_set_ne n1] at h1 h3
    rw [List.getElem?_set_ne n2] at h2 h4
    exact R.dis j j' p l l' k k' h1 h2 h3 h4
  keep := R.keep
  dom := R.dom
  sub := R.sub
  trk := R.trk
  knd := R.knd
  tab := R.tab
/-- an object that nobody's slot holds yet: free of the slots -/
def Loose (F : Fr) (ow : Addr → Prop) (env : List Sl) (σ : St) (p : Addr) : Prop :=
  ow p ∧ F.H0 p = none ∧ ¬ F.ow0 p ∧ ∀ (i : Nat) (l : Bool) (k : Ob), env[i]? = some (.o l k) → σ[i]? ≠ some (some (.ref p))
theorem Rel.setO (R : Rel K ca F ow env σ H) {i : Nat} {k : Ob} {p : Addr} (L : Loose F ow env σ p) (r : OwnR K ca ow H p k) : Rel K ca F ow (env.set i (.o true k)) (σ.set i (some (.ref p))) H where
  len := by rw [List.length_set, List.length_set]; exact R.len
  sl := fun j s u h1 h2 => by
    by_cases e : i = j
    · subst e
      by_cases hl : i < env.length
      · rw [List.getElem?_set_self hl] at h1
        rw [List.getElem?_set_self (by rw [← R.len]; exact hl)] at h2
        cases h1; cases h2
        exact ⟨p, rfl, L.1, r, L.2.1, L.2.2.1⟩
      · rw [List.getElem?_eq_none (by simpa using hl)] at h1; cases h1
    · rw [List.getElem?_set_ne e] at h1 h2
      exact R.sl j s u h1 h2
  dis := fun j j' q l l' k1 k2 h1 h2 h3 h4 => by
    have at_ : ∀ {j l k' q}, (env.set i (.o true k))[j]? = some (Sl.o l k') → (σ.set i (some (.ref p)))[j]? = some (some (.ref q)) →
        (i = j ∧ q = p) ∨ (i ≠ j ∧ env[j]? = some (Sl.o l k') ∧ σ[j]? = some (some (.ref q)) ∧ q ≠ p) := fun {j l k' q} a b => by
      by_cases e : i = j
      · subst e
        have hl : i < env.length := by
          have := (List.getElem?_eq_some_iff.mp a).1
          rwa [List.length_set] at this
        rw [List.getElem?_set_self (by rw [← R.len]; exact hl)] at b
        cases b
        exact .inl ⟨rfl, rfl⟩
      · rw [List.getElem?_set_ne e] at a b
        exact .inr ⟨e, a, b, fun z => L.2.2.2 j l k' a (by rw [← z]; exact b)⟩
    rcases at_ h1 h3 with ⟨e1, q1⟩ | ⟨n1, a1, b1, q1⟩
    · rcases at_ h2 h4 with ⟨e2, q2⟩ | ⟨n2, a2, b2, q2⟩
      · exact e1.symm.trans e2
      · exact absurd q1 q2
    · rcases at_ h2 h4 with ⟨e2, q2⟩ | ⟨n2, a2, b2, q2⟩
      · exact absurd q2 q1
      · exact R.dis j j' q l l' k1 k2 a1 a2 b1 b2
  keep := R.keep
  dom := R.dom
  sub := R.sub
  trk := R.trk
  knd := R.knd
  tab := R.tab

/-- one address less is owned -/
abbrev less (ow : Addr → Prop) (p : Addr) : Addr → Prop := fun a => ow a ∧ a ≠ p
abbrev more (ow : Addr → Prop) (p : Addr) : Addr → Prop := fun a => ow a ∨ a = p
theorem stp_less {p : Addr} : Stp ow H (less ow p) H := fun a o h n _ => ⟨h, fun z => n z.1⟩
theorem stp_more {p : Addr} {o : HO} (h : H p = none) : Stp ow H (more ow p) (upd H p o) := fun a u e n _ =>
  ⟨by rw [upd_ne (ne_of_none e h)]; exact e, fun z => by
    rcases z with z | z
    · exact n z
    · rw [z, h] at e; cases e⟩
/-- a new object of one's own -/
theorem Rel.more (R : Rel K ca F ow env σ H) {p : Addr} {o : HO} (h : H p = none) (mu : MutO (some o) := by first | exact .inl ⟨_, rfl⟩ | exact .inr (.inl ⟨_, rfl⟩) | exact .inr (.inr ⟨_, _, _, rfl⟩)) : Rel K ca F (more ow p) env σ (upd H p o) ∧ Loose F (ML.more ow p) env σ p := by
  have hp : ∀ {a : Addr} {u : HO}, H a = some u → upd H p o a = some u := fun {a u} e => by rw [upd_ne (ne_of_none e h)]; exact e
  have st : Stp ow H (ML.more ow p) (upd H p o) := stp_more h
  have no : ∀ (i : Nat) (l : Bool) (k : Ob), env[i]? = some (.o l k) → σ[i]? ≠ some (some (.ref p)) := fun i l k e z => by
    obtain ⟨q, eq, wq, rq⟩ := R.own e
    rw [eq] at z
    cases z
    obtain ⟨u, hu⟩ := rq.there
    rw [h] at hu; cases hu
  refine ⟨⟨R.len, fun i s v h1 h2 => ?_, R.dis, fun a u e n t => hp (R.keep a u e n t), fun a e => ?_, fun a z => .inl (R.sub a z), fun a z => ?_, fun a z => ?_, fun q hq => let ⟨a, b, c, d⟩ := R.tab q hq; ⟨.inl a, b, c, d.stp st (by obtain ⟨ps, e⟩ := d.tbl; rw [hp e, e])⟩⟩, .inr rfl, R.dom p h, fun z => R.free h (R.sub p z), no⟩
  · have q := R.sl i s v h1 h2
    cases s with
    | un => exact q
    | d x => obtain ⟨u, e, r⟩ := q; exact ⟨u, e, r.stp st⟩
    | o l k =>
      cases l with
      | true =>
        obtain ⟨q, e, a, b, c⟩ := q
        obtain ⟨u, hu⟩ := b.there
        exact ⟨q, e, .inl a, b.stp st (by rw [hp hu, hu]), c⟩
      | false =>
        obtain ⟨q, e, a, b, c⟩ := q
        obtain ⟨u, hu⟩ := b.there
        exact ⟨q, e, .inl a, b.stp st (by rw [hp hu, hu]), c⟩
    | sc ns => obtain ⟨a, e, h3⟩ := q; exact ⟨a, e, h3.stp st⟩
    | xc => exact q
  · refine R.dom a ?_
    cases e2 : H a with
    | none => rfl
    | some u => rw [hp e2] at e; cases e
  · rcases z with z | z
    · obtain ⟨u, hu⟩ := R.trk a z
      exact ⟨u, hp hu⟩
    · rw [z]; exact ⟨o, upd_same⟩
  · rcases z with z | z
    · refine (R.knd a z).imp id fun k => ?_
      obtain ⟨u, hu⟩ := R.trk a z
      rw [hp hu, ← hu]; exact k
    · rw [z, upd_same]; exact .inr mu
/-- what nobody's slot holds is let go: it never changes any more -/
theorem Rel.loose (R : Rel K ca F ow env σ H) {p : Addr} (L : Loose F ow env σ p) : Rel K ca F (less ow p) env σ H where
  len := R.len
  sl := fun i s v h1 h2 => by
    have q := R.sl i s v h1 h2
    cases s with
    | un => exact q
    | d x => obtain ⟨u, e, r⟩ := q; exact ⟨u, e, r.stp stp_less⟩
    | o l k =>
      cases l with
      | true =>
        obtain ⟨q, e, a, b, c⟩ := q
        exact ⟨q, e, ⟨a, fun z => L.2.2.2 i true k h1 (by rw [h2, e, z])⟩, b.stp stp_less rfl, c⟩
      | false =>
        obtain ⟨q, e, a, b, c⟩ := q
        exact ⟨q, e, ⟨a, fun z => L.2.2.2 i false k h1 (by rw [h2, e, z])⟩, b.stp stp_less rfl, c⟩
    | sc ns => obtain ⟨a, e, h⟩ := q; exact ⟨a, e, h.stp stp_less⟩
    | xc => exact q
  dis := R.dis
  keep := R.keep
  dom := R.dom
  sub := fun a z => ⟨R.sub a z, fun e => L.2.2.1 (e ▸ z)⟩
  trk := fun a z => R.trk a z.1
  knd := fun a z => R.knd a z.1
  tab := fun q hq => let ⟨a, b, c, d⟩ := R.tab q hq; ⟨⟨a, fun e => by obtain ⟨o, h⟩ := c; rw [e, L.2.1] at h; cases h⟩, b, c, d.stp stp_less rfl⟩
/-- a slot lets its object go; it is loose then -/
theorem Rel.let_ (R : Rel K ca F ow env σ H) {i : Nat} {k : Ob} (h : env[i]? = some (.o true k)) : ∃ p, σ[i]? = some (some (.ref p)) ∧ OwnR K ca ow H p k ∧ Rel K ca F ow (env.set i .un) σ H ∧ Loose F ow (env.set i .un) σ p := by
  obtain ⟨v, e, p, rfl, w, r, h0, n0⟩ := SlR.at R h
  have R1 : Rel K ca F ow (env.set i .un) (σ.set i (some (.ref p))) H := R.drop
  have es : σ.set i (some (.ref p)) = σ := by
    apply List.ext_getElem?
    intro j
    by_cases ej : i = j
    · subst ej
      rw [List.getElem?_set_self (List.getElem?_eq_some_iff.mp e).1, e]
    · rw [List.getElem?_set_ne ej]
  rw [es] at R1
  refine ⟨p, e, r, R1, w, h0, n0, fun j l k' h1 h2 => ?_⟩
  by_cases ej : i = j
  · subst ej
    rw [List.getElem?_set_self (List.getElem?_eq_some_iff.mp h).1] at h1
    cases h1
  · rw [List.getElem?_set_ne ej] at h1
    exact ej (R.dis i j p _ _ _ _ h h1 e h2)
/-- .. a list's: it is data from then on -/
theorem Rel.freeze (R : Rel K ca F ow env σ H) {i : Nat} {xs : List D} (h : env[i]? = some (.o true (.lst xs))) :
    ∃ p, σ[i]? = some (some (.ref p)) ∧ Rp K (less ow p) H (.list xs) (.ref p) ∧ Rel K ca F (less ow p) (env.set i (.d (.list xs))) σ H := by
  obtain ⟨p, e, ⟨vs, hp, ra⟩, R1, L⟩ := R.let_ h
  have rp : Rp K (less ow p) H (.list xs) (.ref p) := by
    unfold Rp
    exact ⟨p, vs, rfl, hp, fun z => z.2 rfl, ra.stp stp_less⟩
  have R2 := (R1.loose L).set (i := i) rp
  have es : σ.set i (some (.ref p)) = σ := by
    apply List.ext_getElem?
    intro j
    by_cases ej : i = j
    · subst ej
      rw [List.getElem?_set_self (List.getElem?_eq_some_iff.mp e).1, e]
    · rw [List.getElem?_set_ne ej]
  rw [es, List.set_set] at R2
  exact ⟨p, e, rp, R2⟩
theorem stp_mut {p : Addr} {o : HO} (w : ow p) : Stp ow H ow (upd H p o) := fun a u e n _ => by
  have hne : a ≠ p := fun z => n (by rw [z]; exact w)
  exact ⟨by rw [upd_ne hne]; exact e, n⟩
/-- the object of a slot changes -/
theorem Rel.mut (R : Rel K ca F ow env σ H) {i : Nat} {l : Bool} {k k' : Ob} {p : Addr} {o : HO} (h : env[i]? = some (.o l k)) (e : σ[i]? = some (some (.ref p))) (new : OwnR K ca ow (upd H p o) p k') :
    Rel K ca F ow (env.set i (.o l k')) σ (upd H p o) := by
  have wp : ow p := by
    obtain ⟨q, eq, w, _⟩ := R.own h
    rw [e] at eq; cases eq
    exact w
  have st : Stp ow H ow (upd H p o) := stp_mut wp
  have hl : i < env.length := (List.getElem?_eq_some_iff.mp h).1
  refine ⟨by rw [List.length_set]; exact R.len, fun j s v h1 h2 => ?_, fun j j' q l1 l2 k1 k2 h1 h2 h3 h4 => ?_, fun a u ha n t => ?_, fun a ha => ?_, R.sub, fun a z => ?_, fun a z => ?_, fun q hq => ?_⟩
  · by_cases ej : i = j
    · subst ej
      rw [List.getElem?_set_self hl] at h1
      cases h1
      rw [e] at h2
      cases h2
      have q := R.sl i _ _ h e
      cases l with
      | true => obtain ⟨p', e', a, b, c⟩ := q; cases e'; exact ⟨p, rfl, a, new, c⟩
      | false => obtain ⟨p', e', a, b, c⟩ := q; cases e'; exact ⟨p, rfl, a, new, c⟩
    · rw [List.getElem?_set_ne ej] at h1
      have q := R.sl j s v h1 h2
      cases s with
      | un => exact q
      | d x => obtain ⟨u, e1, r⟩ := q; exact ⟨u, e1, r.stp st⟩
      | o l1 k1 =>
        have ne : ∀ q, v = some (.ref q) → q ≠ p := fun q ev z => ej (R.dis i j p _ _ _ _ h h1 e (by rw [h2, ev, z]))
        cases l1 with
        | true => obtain ⟨q, e1, a, b, c⟩ := q; exact ⟨q, e1, a, b.stp st (upd_ne (ne q e1)), c⟩
        | false => obtain ⟨q, e1, a, b, c⟩ := q; exact ⟨q, e1, a, b.stp st (upd_ne (ne q e1)), c⟩
      | sc ns => obtain ⟨a, e1, h3⟩ := q; exact ⟨a, e1, h3.stp st⟩
      | xc => exact q
  · have back : ∀ {j : Nat} {l1 : Bool} {k1 : Ob}, (env.set i (.o l k'))[j]? = some (.o l1 k1) → ∃ l2 k2, env[j]? = some (.o l2 k2) := fun {j l1 k1} a => by
      by_cases ej : i = j
      · subst ej; exact ⟨_, _, h⟩
      · rw [List.getElem?_set_ne ej] at a; exact ⟨_, _, a⟩
    obtain ⟨_, _, a1⟩ := back h1
    obtain ⟨_, _, a2⟩ := back h2
    exact R.dis j j' q _ _ _ _ a1 a2 h3 h4
  · have hne : a ≠ p := fun z => by
      subst z
      have q := R.sl i _ _ h e
      cases l with
      | true => obtain ⟨p', e', _, _, c, _⟩ := q; cases e'; rw [c] at ha; cases ha
      | false => obtain ⟨p', e', _, _, c, _⟩ := q; cases e'; exact n c
    rw [upd_ne hne]; exact R.keep a u ha n t
  · by_cases z : a = p
    · rw [z, upd_same] at ha; cases ha
    · rw [upd_ne z] at ha; exact R.dom a ha
  · by_cases ea : a = p
    · rw [ea]; exact ⟨o, upd_same⟩
    · rw [upd_ne ea]; exact R.trk a z
  · by_cases ea : a = p
    · subst ea; exact .inr new.mutO
    · rw [upd_ne ea]; exact R.knd a z
  · obtain ⟨a, b, c, d⟩ := R.tab q hq
    refine ⟨a, b, c, d.stp st (upd_ne fun z => ?_)⟩
    obtain ⟨ps, hps⟩ := d.tbl
    obtain ⟨p', ep, _, r⟩ := R.own h
    rw [e] at ep; cases ep
    exact r.noTbl (by rw [← z]; exact hps)
/-- a general step that leaves the slots' values: a slot stands as it did, or its object holds something else -/
theorem Rel.step (R : Rel K ca F ow env σ H) {e' : List Sl} (len : e'.length = env.length)
    (slots : ∀ (i : Nat) (s' : Sl), e'[i]? = some s' → (env[i]? = some s' ∧ ∀ (l : Bool) (k : Ob) (p : Addr), s' = .o l k → σ[i]? = some (some (.ref p)) → H' p = H p) ∨ (∃ (l : Bool) (k k' : Ob) (p : Addr), env[i]? = some (.o l k) ∧ s' = .o l k' ∧ σ[i]? = some (some (.ref p)) ∧ OwnR K ca ow' H' p k'))
    (st : Stp ow H ow' H') (sub : ∀ a, ow a → ow' a) (trk : ∀ a, ow' a → ∃ o, H' a = some o) (knd : Knd ca ow' H') (keep : ∀ a o, F.H0 a = some o → ¬ F.io a → NT o → H' a = some o) (dom : ∀ a, H' a = none → H a = none) (tab : ∀ q ∈ ca.tb, TbR ow' H' q.1 q.2) : Rel K ca F ow' e' σ H' where
  len := len.trans R.len
  sl := fun i s v h1 h2 => by
    rcases slots i s h1 with ⟨he, hn⟩ | ⟨l, k, k', p, he, rfl, hp, r⟩
    · have q := R.sl i s v he h2
      cases s with
      | un => exact q
      | d x => obtain ⟨u, e, r⟩ := q; exact ⟨u, e, r.stp st⟩
      | o l k =>
        cases l with
        | true => obtain ⟨p, rfl, a, b, c⟩ := q; exact ⟨p, rfl, sub p a, b.stp st (hn _ _ p rfl h2), c⟩
        | false => obtain ⟨p, rfl, a, b, c⟩ := q; exact ⟨p, rfl, sub p a, b.stp st (hn _ _ p rfl h2), c⟩
      | sc ns => obtain ⟨a, rfl, h⟩ := q; exact ⟨a, rfl, h.stp st⟩
      | xc => exact q
    · rw [hp] at h2
      cases h2
      have q := R.sl i _ _ he hp
      cases l with
      | true => obtain ⟨p', e, a, b, c⟩ := q; cases e; exact ⟨p, rfl, sub p a, r, c⟩
      | false => obtain ⟨p', e, a, b, c⟩ := q; cases e; exact ⟨p, rfl, sub p a, r, c⟩
  dis := fun i j p l l' k k' h1 h2 h3 h4 => by
    have back : ∀ {j : Nat} {l1 : Bool} {k1 : Ob}, e'[j]? = some (.o l1 k1) → ∃ l2 k2, env[j]? = some (.o l2 k2) := fun {j l1 k1} a => by
      rcases slots j _ a with ⟨he, _⟩ | ⟨l, k, k', p, he, _⟩
      · exact ⟨_, _, he⟩
      · exact ⟨_, _, he⟩
    obtain ⟨_, _, a1⟩ := back h1
    obtain ⟨_, _, a2⟩ := back h2
    exact R.dis i j p _ _ _ _ a1 a2 h3 h4
  keep := keep
  dom := fun a h => R.dom a (dom a h)
  sub := fun a h => sub a (R.sub a h)
  trk := trk
  knd := knd
  tab := fun q hq => let ⟨a, b, c, _⟩ := R.tab q hq; ⟨sub _ a, b, c, tab q hq⟩
end
end ML
end

section
set_option Elab.async false
set_option linter.all false
set_option maxRecDepth 100000
set_option maxHeartbeats 2000000
/-! # The judgements: an expression, a test, arguments, a fresh object, a statement, against a plain function of the slots -/
namespace ML
open PySem L2

/-- what comes of an expression: its value and the slots behind it; an error of an own class; or nothing is told -/
inductive R (α : Type) where
  | ok (a : α) (e : List Sl)
  | ex (c : Str) (e : List Sl)
  | bad
abbrev M (α : Type) := List Sl → R α
def ret {α : Type} (a : α) : M α := fun e => .ok a e
def bind {α β : Type} (m : M α) (f : α → M β) : M β := fun e => match m e with
  | .ok a e' => f a e'
  | .ex c e' => .ex c e'
  | .bad => .bad
/-- a partial step -/
def lift {α : Type} (o : Option α) : M α := fun e => match o with
  | some a => .ok a e
  | none => .bad

def Held (env : List Sl) (σ : St) (p : Addr) : Prop := ∃ (i : Nat) (l : Bool) (k : Ob), env[i]? = some (.o l k) ∧ σ[i]? = some (some (.ref p))

/-- what an expression leaves as it was -/
structure Go (σ : St) (ow : Addr → Prop) (env : List Sl) (H : Hp) (ow' : Addr → Prop) (e : List Sl) (H' : Hp) : Prop where
  stp : Stp ow H ow' H'
  lo : ∀ p, ow p → ¬ IsT (H p) → ¬ Held env σ p → ow' p ∧ H' p = H p ∧ ¬ Held e σ p
  dom : ∀ a, H' a = none → H a = none

section
variable {K : PySem.W.Frag} {ca : CA} {F : Fr} {ow ow' ow1 ow2 : Addr → Prop} {H H' H1 H2 : Hp} {env e e' e1 e2 : List Sl} {σ : St}
theorem Go.refl : Go σ ow env H ow env H := ⟨Stp.refl, fun _ a _ b => ⟨a, rfl, b⟩, fun _ h => h⟩
theorem Go.trans (a : Go σ ow env H ow1 e1 H1) (b : Go σ ow1 e1 H1 ow2 e2 H2) : Go σ ow env H ow2 e2 H2 where
  stp := a.stp.trans b.stp
  lo := fun p w nt n => by
    obtain ⟨w1, h1, n1⟩ := a.lo p w nt n
    obtain ⟨w2, h2, n2⟩ := b.lo p w1 (by rw [h1]; exact nt) n1
    exact ⟨w2, h2.trans h1, n2⟩
  dom := fun x h => a.dom x (b.dom x h)
theorem Loose.held {p : Addr} (L : Loose F ow env σ p) : ¬ Held env σ p := fun ⟨i, l, k, h1, h2⟩ => L.2.2.2 i l k h1 h2
theorem loose_of {p : Addr} (w : ow p) (h0 : F.H0 p = none) (n : ¬ F.ow0 p) (h : ¬ Held env σ p) : Loose F ow env σ p := ⟨w, h0, n, fun i l k a b => h ⟨i, l, k, a, b⟩⟩
theorem Loose.go {p : Addr} (L : Loose F ow env σ p) (g : Go σ ow env H ow' e H') (nt : ¬ IsT (H p)) : Loose F ow' e σ p ∧ H' p = H p := by
  obtain ⟨w, h, n⟩ := g.lo p L.1 nt L.held
  exact ⟨loose_of w L.2.1 L.2.2.1 n, h⟩
theorem Go.gr (R : Rel K ca F ow env σ H) (g : Gr H H') : Go σ ow env H ow env H' := ⟨g.stp, fun p w _ n => ⟨w, by
  obtain ⟨o, h⟩ := R.trk p w
  rw [g p o h, h], n⟩, fun _ h => g.none h⟩
theorem Go.more (R : Rel K ca F ow env σ H) {p : Addr} {o : HO} (h : H p = none) : Go σ ow env H (ML.more ow p) env (upd H p o) where
  stp := stp_more h
  lo := fun q w _ n => ⟨.inl w, by
    obtain ⟨u, hu⟩ := R.trk q w
    exact upd_ne (fun z => by rw [z, h] at hu; cases hu), n⟩
  dom := fun a ha => by
    by_cases z : a = p
    · rw [z]; exact h
    · rw [upd_ne z] at ha; exact ha
theorem Go.loose {p : Addr} (L : Loose F ow env σ p) : Stp ow H (less ow p) H := stp_less
end

/-- an error's wish, of a class of the program -/
abbrev WSat (ca : CA) (W : WX) (c : Str) (σ : St) (H : Hp) : Prop := W (.ref (ca c)) none σ H

section
variable {α β γ δ : Type}
abbrev PP (α β : Type) := α → β → Hp → (Addr → Prop) → Hp → List Sl → St → Prop
def GoG (K : PySem.W.Frag) (ca : CA) (F : Fr) (W : WX) (P : PP α β) (Hs : Hp) (ow : Addr → Prop) (env : List Sl) (H : Hp) (σ : St) (Q : β → Hp → Prop) : R α → Prop
  | .ok a e => ∀ b ow' H', Go σ ow env H ow' e H' → Rel K ca F ow' e σ H' → P a b Hs ow' H' e σ → Q b H'
  | .ex c e => ∀ ow' H', Go σ ow env H ow' e H' → Rel K ca F ow' e σ H' → WSat ca W c σ H'
  | .bad => False
def tG (K : PySem.W.Frag) (ca : CA) (F : Fr) (W : WX) (P : PP α β) (m : M α) : St → Hp → (β → Hp → Prop) → Prop := fun σ H Q =>
  ∃ ow env, Rel K ca F ow env σ H ∧ GoG K ca F W P H ow env H σ Q (m env)

variable {K : PySem.W.Frag} {ca : CA} {F : Fr} {W : WX} {P : PP α β} {P' : PP γ δ} {ow ow1 : Addr → Prop} {env e1 : List Sl} {Hs H H1 : Hp} {σ : St} {Q' : δ → Hp → Prop} {C : β → Hp → Prop}
theorem GoG.mono (g : Go σ ow env H ow1 e1 H1) {r : R γ} (h : GoG K ca F W P' Hs ow env H σ Q' r) : GoG K ca F W P' Hs ow1 e1 H1 σ Q' r := by
  cases r with
  | ok a e => exact fun b ow' H' g' R p => h b ow' H' (g.trans g') R p
  | ex c e => exact fun ow' H' s R => h ow' H' (g.trans s) R
  | bad => exact h
/-- m, then f -/
theorem go_bind {m : M α} {f : α → M γ} (R : Rel K ca F ow env σ H) (h : GoG K ca F W P' Hs ow env H σ Q' (bind m f env))
    (k : ∀ a e b ow1 H1, Go σ ow env H ow1 e H1 → Rel K ca F ow1 e σ H1 → P a b H ow1 H1 e σ → GoG K ca F W P' Hs ow1 e H1 σ Q' (f a e) → C b H1) : tG K ca F W P m σ H C := by
  refine ⟨ow, env, R, ?_⟩
  unfold bind at h
  cases hm : m env with
  | ok a e =>
    rw [hm] at h
    exact fun b ow1 H1 g R1 p => k a e b ow1 H1 g R1 p (h.mono g)
  | ex c e => rw [hm] at h; exact h
  | bad => rw [hm] at h; exact h
theorem go_last {m : M α} (R : Rel K ca F ow env σ H) (h : GoG K ca F W P H ow env H σ C (m env)) : tG K ca F W P m σ H C := ⟨ow, env, R, h⟩
end

/-! ### values, tests, arguments, fresh objects -/
/-- an argument: data, the object of a slot, a fresh object -/
inductive AV where
  | d (x : D)
  | ref (i : Nat)
  | fr (k : Ob)

def PD (K : PySem.W.Frag) : PP D V := fun d v _ ow H _ _ => Rp K ow H d v
def PB : PP Bool Bool := fun a b _ _ _ _ _ => b = a
/-- a fresh object -/
def PO_ (K : PySem.W.Frag) (ca : CA) (F : Fr) : PP Ob V := fun k v H0 ow H e σ => ∃ p, v = .ref p ∧ H0 p = none ∧ OwnR K ca ow H p k ∧ Loose F ow e σ p
def AvR (K : PySem.W.Frag) (ca : CA) (F : Fr) (ow : Addr → Prop) (H : Hp) (e : List Sl) (σ : St) : AV → V → Prop
  | .d x, v => Rp K ow H x v
  | .ref i, v => σ[i]? = some (some v)
  | .fr k, v => ∃ p, v = .ref p ∧ OwnR K ca ow H p k ∧ Loose F ow e σ p
def isFr : AV → Bool
  | .fr _ => true
  | _ => false
/-- no fresh one stands at p -/
def FrNot (p : Addr) : List AV → List V → Prop
  | a :: r, v :: us => (isFr a = true → v ≠ .ref p) ∧ FrNot p r us
  | _, _ => True
/-- arguments from the left: fresh ones stand apart -/
def AvA (K : PySem.W.Frag) (ca : CA) (F : Fr) (H0 : Hp) (ow : Addr → Prop) (H : Hp) (e : List Sl) (σ : St) : List AV → List V → Prop
  | [], vs => vs = []
  | a :: r, vs => ∃ v us, vs = v :: us ∧ AvR K ca F ow H e σ a v ∧ (isFr a = true → ∀ p, v = .ref p → H0 p = none ∧ FrNot p r us) ∧ AvA K ca F H0 ow H e σ r us
def PA_ (K : PySem.W.Frag) (ca : CA) (F : Fr) : PP (List AV) (List V) := fun a b H0 ow H e σ => AvA K ca F H0 ow H e σ a b

theorem AvA.back {K : PySem.W.Frag} {ca : CA} {F : Fr} {H H1 : Hp} {ow : Addr → Prop} {H' : Hp} {e : List Sl} {σ : St} (d : ∀ x, H1 x = none → H x = none) : ∀ {as : List AV} {vs : List V}, AvA K ca F H1 ow H' e σ as vs → AvA K ca F H ow H' e σ as vs
  | [], _, h => h
  | _ :: _, _, h => by
    unfold AvA at h ⊢
    obtain ⟨v, us, e1, r, n, t⟩ := h
    exact ⟨v, us, e1, r, fun z p q => ⟨d p (n z p q).1, (n z p q).2⟩, AvA.back d t⟩
theorem AvA.frNot {K : PySem.W.Frag} {ca : CA} {F : Fr} {H1 : Hp} {ow : Addr → Prop} {H' : Hp} {e : List Sl} {σ : St} {p : Addr} {o : HO} (hp : H1 p = some o) : ∀ {as : List AV} {vs : List V}, AvA K ca F H1 ow H' e σ as vs → FrNot p as vs
  | [], _, _ => by unfold FrNot; trivial
  | _ :: _, _, h => by
    unfold AvA at h
    obtain ⟨v, us, rfl, r, n, t⟩ := h
    unfold FrNot
    refine And.intro (fun z q => ?_) (AvA.frNot hp t)
    have q2 := (n z p q).1
    rw [hp] at q2
    cases q2

abbrev tE (K : PySem.W.Frag) (ca : CA) (F : Fr) (W : WX) (m : M D) : TE := tG K ca F W (PD K) m
abbrev tT (K : PySem.W.Frag) (ca : CA) (F : Fr) (W : WX) (m : M Bool) : TT := tG K ca F W PB m
abbrev tO (K : PySem.W.Frag) (ca : CA) (F : Fr) (W : WX) (m : M Ob) : TE := tG K ca F W (PO_ K ca F) m
abbrev tA (K : PySem.W.Frag) (ca : CA) (F : Fr) (W : WX) (m : M (List AV)) : TA := tG K ca F W (PA_ K ca F) m

theorem PE.imp {X : Cx} {e : Expr} {t t' : TE} (h : PE X e t) (k : ∀ σ H Q, t' σ H Q → t σ H Q) : PE X e t' := ⟨fun pins s σ H Q I q => h.run pins s σ H Q I (k _ _ _ q)⟩
theorem PT.imp {X : Cx} {e : Expr} {t t' : TT} (h : PT X e t) (k : ∀ σ H Q, t' σ H Q → t σ H Q) : PT X e t' := ⟨fun pins s σ H Q I q => h.run pins s σ H Q I (k _ _ _ q)⟩
theorem PW.imp {X : Cx} {e : Expr} {t t' : TT} (h : PW X e t) (k : ∀ σ H Q, t' σ H Q → t σ H Q) : PW X e t' := ⟨fun wh pins s σ H Q I q => h.run wh pins s σ H Q I (k _ _ _ q)⟩
theorem PA.imp {X : Cx} {es : List Expr} {t t' : TA} (h : PA X es t) (k : ∀ σ H Q, t' σ H Q → t σ H Q) : PA X es t' := ⟨fun pos pins s σ H Q I q => h.run pos pins s σ H Q I (k _ _ _ q)⟩
theorem PS.imp {X : Cx} {st : Stmt} {t t' : TS} (h : PS X st t) (k : ∀ D σ H, t' D σ H → t D σ H) : PS X st t' := ⟨fun pins s σ H D I q => h.run pins s σ H D I (k _ _ _ q)⟩
theorem PSs.imp {X : Cx} {st : List Stmt} {t t' : TS} (h : PSs X st t) (k : ∀ D σ H, t' D σ H → t D σ H) : PSs X st t' := ⟨fun pins s σ H D I q => h.run pins s σ H D I (k _ _ _ q)⟩

/-- what leaves is taken; the error that is handled is the frame's -/
structure Tk (X : Cx) (F : Fr) (W : WX) : Prop where
  t : Takes X W
  h : ∀ a, X.A.handled = some (.ref a) → F.xa = a
/-- an expression's value is data -/
def ME (ca : CA) (X : Cx) (e : Expr) (m : M D) : Prop := ∀ F W, Tk X F W → PE X e (tE X.K ca F W m)
/-- .. is a fresh object -/
def MO (ca : CA) (X : Cx) (e : Expr) (m : M Ob) : Prop := ∀ F W, Tk X F W → PE X e (tO X.K ca F W m)
def MT (ca : CA) (X : Cx) (e : Expr) (m : M Bool) : Prop := ∀ F W, Tk X F W → PT X e (tT X.K ca F W m)
def MW (ca : CA) (X : Cx) (e : Expr) (m : M Bool) : Prop := ∀ F W, Tk X F W → PW X e (tT X.K ca F W m)
def MA (ca : CA) (X : Cx) (es : List Expr) (m : M (List AV)) : Prop := ∀ F W, Tk X F W → PA X es (tA X.K ca F W m)

section
variable {ca : CA} {X : Cx} {pos : Pos}
/-! ### constants and names -/
def eC (d : D) : M D := ret d
theorem go_pure {K : PySem.W.Frag} {ca : CA} {F : Fr} {W : WX} {d : D} {v : V} {σ : St} {H : Hp} {Q : VK} (h : tE K ca F W (eC d) σ H Q) (r : ∀ ow, Rp K ow H d v) : Q v H := by
  obtain ⟨ow, env, R, g⟩ := h
  exact g v ow H Go.refl R (r ow)
theorem me_int {i j} : ME ca X (.Constant (.int i) j pos) (eC (.int i)) := fun F W _ => PE.imp pe_int fun σ H Q h => go_pure h fun _ => by unfold Rp; rfl
theorem me_bl {b j} : ME ca X (.Constant (.bool b) j pos) (eC (.bool b)) := fun F W _ => PE.imp pe_bl fun σ H Q h => go_pure h fun _ => by unfold Rp; rfl
theorem me_non {j} : ME ca X (.Constant .none j pos) (eC .none) := fun F W _ => PE.imp pe_non fun σ H Q h => go_pure h fun _ => by unfold Rp; rfl
theorem me_str {x j} : ME ca X (.Constant (.str x) j pos) (eC (.str x)) := fun F W _ => PE.imp pe_str fun σ H Q h => go_pure h fun _ => by unfold Rp; rfl
/-- a name is read: data; an own list is data from then on -/
def eV (i : Nat) : M D := fun e => match e[i]? with
  | some (.d x) => .ok x e
  | some (.o true (.lst xs)) => .ok (.list xs) (e.set i (.d (.list xs)))
  | _ => .bad
theorem held_set {env : List Sl} {σ : St} {i : Nat} {x : D} {p : Addr} (h : Held (env.set i (.d x)) σ p) : Held env σ p := by
  obtain ⟨j, l, k, h1, h2⟩ := h
  by_cases e : i = j
  · subst e
    by_cases hl : i < env.length
    · rw [List.getElem?_set_self hl] at h1; cases h1
    · rw [List.getElem?_eq_none (by simpa using hl)] at h1; cases h1
  · rw [List.getElem?_set_ne e] at h1
    exact ⟨j, l, k, h1, h2⟩
theorem me_var (i : Nat) {x : Str} (hN : X.N[i]? = some x := by rfl) (hv : Vis X.env.scope x := by first | exact Or.inl rfl | exact Or.inr (Or.inl rfl) | exact Or.inr (Or.inr rfl)) (hd : (x == ("__debug__" : Str)) = false := by decide)
    (hcd : (x == ("__classdict__" : Str)) = false := by decide) : ME ca X (.Name x pos) (eV i) := fun F W _ => PE.imp (pe_var hN hv hd hcd) fun σ H Q h => by
  obtain ⟨ow, env, R, g⟩ := h
  unfold eV at g
  split at g
  · rename_i x e
    obtain ⟨v, h1, h2⟩ := R.data e
    exact ⟨v, h1, g v ow H Go.refl R h2⟩
  · rename_i xs e
    obtain ⟨p, h1, h2, h3⟩ := R.freeze e
    refine ⟨.ref p, h1, g (.ref p) (less ow p) H ⟨stp_less, fun q w _ n => ⟨⟨w, fun z => n ⟨i, true, .lst xs, e, by rw [h1, z]⟩⟩, rfl, fun z => n (held_set z)⟩, fun _ h => h⟩ h3 h2⟩
  · exact g.elim
/-- .. kept as it is: for what looks at it at once -/
def eR (i : Nat) : M AV := ret (.ref i)

/-! ### arguments -/
def aNil : M (List AV) := ret []
def aD (m : M D) (r : M (List AV)) : M (List AV) := bind m fun x => bind r fun xs => ret (.d x :: xs)
/-- the slot is stored -/
def okR (i : Nat) : M Unit := fun e => match e[i]? with
  | some .un => .bad
  | some _ => .ok () e
  | none => .bad
def aR (i : Nat) (r : M (List AV)) : M (List AV) := bind (okR i) fun _ => bind r fun xs => ret (.ref i :: xs)
def aF (m : M Ob) (r : M (List AV)) : M (List AV) := bind m fun k => bind r fun xs => ret (.fr k :: xs)
theorem ma_nil : MA ca X [] aNil := fun F W _ => PA.imp pa_nil fun σ H Q h => by
  obtain ⟨ow, env, R, g⟩ := h
  exact g [] ow H Go.refl R (by show AvA _ _ _ _ _ _ _ _ [] []; unfold AvA; rfl)
variable {e : Expr} {es : List Expr}
theorem ma_d {m : M D} {r : M (List AV)} (h : ME ca X e m) (hr : MA ca X es r) (hs : starEach (e :: es) X.env = (false, eval e X.env) :: starEach es X.env := by rfl) : MA ca X (e :: es) (aD m r) := fun F W tk => PA.imp (pa_cons (h F W tk) (hr F W tk) hs) fun σ H Q ⟨ow, env, R, g⟩ => by
  refine go_bind R g fun x e1 v ow1 H1 g1 R1 p1 q1 => go_bind R1 q1 fun xs e2 vs ow2 H2 g2 R2 p2 q2 => ?_
  refine q2 _ ow2 H2 Go.refl R2 ?_
  show AvA _ _ _ _ _ _ _ _ (_ :: _) _
  unfold AvA
  exact ⟨v, vs, rfl, Rp.stp g2.stp _ _ p1, fun z => (by cases z), AvA.back (fun a h => g1.dom a h) p2⟩
theorem Rel.at (R : Rel K ca F ow env σ H) {i : Nat} {s : Sl} (h : env[i]? = some s) (n : s ≠ .un) : ∃ v, σ[i]? = some (some v) := by
  obtain ⟨v, e, r⟩ := SlR.at R h
  cases s with
  | un => exact absurd rfl n
  | d x => obtain ⟨u, rfl, _⟩ := r; exact ⟨u, e⟩
  | o l k => cases l <;> (obtain ⟨p, rfl, _⟩ := r; exact ⟨_, e⟩)
  | sc ns => obtain ⟨a, rfl, _⟩ := r; exact ⟨_, e⟩
  | xc => subst r; exact ⟨_, e⟩
theorem ma_r (i : Nat) {x : Str} {p : Pos} {r : M (List AV)} (hr : MA ca X es r) (hN : X.N[i]? = some x := by rfl) (hv : Vis X.env.scope x := by first | exact Or.inl rfl | exact Or.inr (Or.inl rfl) | exact Or.inr (Or.inr rfl)) (hd : (x == ("__debug__" : Str)) = false := by decide)
    (hcd : (x == ("__classdict__" : Str)) = false := by decide) (hs : starEach (.Name x p :: es) X.env = (false, eval (.Name x p) X.env) :: starEach es X.env := by rfl) : MA ca X (.Name x p :: es) (aR i r) := fun F W tk => PA.imp (pa_cons (pe_var hN hv hd hcd) (hr F W tk) hs) fun σ H Q ⟨ow, env, R, g⟩ => by
  have hz : ∃ v, σ[i]? = some (some v) ∧ GoG X.K ca F W (PA_ X.K ca F) H ow env H σ Q (bind r (fun xs => ret (.ref i :: xs)) env) := by
    unfold aR at g
    cases ho : env[i]? with
    | none =>
      have z : bind (okR i) (fun _ => bind r fun xs => ret (.ref i :: xs)) env = .bad := by simp only [bind, okR, ho]
      rw [z] at g; exact g.elim
    | some s =>
      by_cases hs : s = .un
      · have z : bind (okR i) (fun _ => bind r fun xs => ret (.ref i :: xs)) env = .bad := by subst hs; simp only [bind, okR, ho]
        rw [z] at g; exact g.elim
      · obtain ⟨v, hv⟩ := Rel.at R ho hs
        have z : bind (okR i) (fun _ => bind r fun xs => ret (.ref i :: xs)) env = bind r (fun xs => ret (.ref i :: xs)) env := by
          cases s with
          | un => exact absurd rfl hs
          | d x => simp only [bind, okR, ho]
          | o l k => simp only [bind, okR, ho]
          | sc ns => simp only [bind, okR, ho]
          | xc => simp only [bind, okR, ho]
        rw [z] at g
        exact ⟨v, hv, g⟩
  obtain ⟨v, hv, g⟩ := hz
  refine ⟨v, hv, go_bind R g fun xs e2 vs ow2 H2 g2 R2 p2 q2 => q2 _ ow2 H2 Go.refl R2 ?_⟩
  show AvA _ _ _ _ _ _ _ _ (_ :: _) _
  unfold AvA
  exact ⟨v, vs, rfl, hv, fun z => (by cases z), p2⟩
theorem ma_f {m : M Ob} {r : M (List AV)} (h : MO ca X e m) (hr : MA ca X es r) (hs : starEach (e :: es) X.env = (false, eval e X.env) :: starEach es X.env := by rfl) : MA ca X (e :: es) (aF m r) := fun F W tk => PA.imp (pa_cons (h F W tk) (hr F W tk) hs) fun σ H Q ⟨ow, env, R, g⟩ => by
  refine go_bind R g fun k e1 v ow1 H1 g1 R1 p1 q1 => go_bind R1 q1 fun xs e2 vs ow2 H2 g2 R2 p2 q2 => ?_
  refine q2 _ ow2 H2 Go.refl R2 ?_
  show AvA _ _ _ _ _ _ _ _ (_ :: _) _
  unfold AvA
  obtain ⟨p, rfl, n, r1, L⟩ := p1
  obtain ⟨L2, e2'⟩ := L.go g2 r1.noT
  obtain ⟨u, hu⟩ := r1.there
  exact ⟨_, vs, rfl, ⟨p, rfl, r1.stp g2.stp e2', L2⟩, fun _ q eq => by cases eq; exact ⟨n, AvA.frNot hu p2⟩, AvA.back (fun a h => g1.dom a h) p2⟩
end
end ML
end

section
set_option Elab.async false
set_option linter.all false
set_option maxRecDepth 100000
set_option maxHeartbeats 2000000
/-! # Operators, comparisons, tests, displays, subscripts, built-in functions: by what their operands hold -/
namespace ML
open PySem L2

/-- what a value holds: data, an object's content, the script -/
def SvR (K : PySem.W.Frag) (ca : CA) (ow : Addr → Prop) (H : Hp) : Sl → V → Prop
  | .un, _ => False
  | .d x, v => Rp K ow H x v
  | .o _ k, v => ∃ p, v = .ref p ∧ ow p ∧ OwnR K ca ow H p k
  | .sc ns, v => ∃ a, v = .ref a ∧ ScAt K ow H a ns
  | .xc, _ => False
@[simp] def clean : Sl → Sl
  | .xc => .un
  | s => s
@[simp] def content (e : List Sl) : AV → Sl
  | .d x => .d x
  | .ref i => clean (e.getD i .un)
  | .fr k => .o true k
@[simp] def contents (e : List Sl) (as : List AV) : List Sl := as.map (content e)
def SvA (K : PySem.W.Frag) (ca : CA) (ow : Addr → Prop) (H : Hp) : List Sl → List V → Prop
  | [], vs => vs = []
  | s :: r, vs => ∃ v us, vs = v :: us ∧ (s ≠ .un → SvR K ca ow H s v) ∧ SvA K ca ow H r us
abbrev Trk (ow : Addr → Prop) (H : Hp) : Prop := ∀ a, ow a → ∃ o, H a = some o

section
variable {K : PySem.W.Frag} {ca : CA} {F : Fr} {ow ow' : Addr → Prop} {H H' Hs : Hp} {env e e' : List Sl} {σ : St}
theorem AvR.go {a : AV} {v : V} (g : Go σ ow e H ow' e' H') (h : AvR K ca F ow H e σ a v) : AvR K ca F ow' H' e' σ a v := by
  cases a with
  | d x => exact Rp.stp g.stp _ _ h
  | ref i => exact h
  | fr k =>
    obtain ⟨p, rfl, r, L⟩ := h
    obtain ⟨L2, eq⟩ := L.go g r.noT
    exact ⟨p, rfl, r.stp g.stp eq, L2⟩
theorem AvR.sv {a : AV} {v : V} (R : Rel K ca F ow e σ H) (h : AvR K ca F ow H e σ a v) (n : content e a ≠ .un) : SvR K ca ow H (content e a) v := by
  cases a with
  | d x => exact h
  | fr k => obtain ⟨p, rfl, r, L⟩ := h; exact ⟨p, rfl, L.1, r⟩
  | ref i =>
    have hs : content e (.ref i) = clean (e.getD i .un) := rfl
    rw [hs] at n ⊢
    cases he : e[i]? with
    | none => rw [List.getD_eq_getElem?_getD, he] at n; exact absurd rfl n
    | some s =>
      have es : e.getD i .un = s := by rw [List.getD_eq_getElem?_getD, he]; rfl
      rw [es] at n ⊢
      have hv : σ[i]? = some (some v) := h
      have q := R.sl i s (some v) he hv
      cases s with
      | un => exact absurd rfl n
      | d x => obtain ⟨u, eu, r⟩ := q; cases eu; exact r
      | o l k =>
        cases l with
        | true => obtain ⟨p, eu, w, r, _⟩ := q; cases eu; exact ⟨p, rfl, w, r⟩
        | false => obtain ⟨p, eu, w, r, _⟩ := q; cases eu; exact ⟨p, rfl, w, r⟩
      | sc ns => obtain ⟨a, eu, r⟩ := q; cases eu; exact ⟨a, rfl, r⟩
      | xc => exact absurd rfl n
theorem AvA.sv (R : Rel K ca F ow e σ H) : ∀ {as : List AV} {vs : List V}, AvA K ca F Hs ow H e σ as vs → SvA K ca ow H (contents e as) vs
  | [], _, h => h
  | a :: r, _, h => by
    unfold AvA at h
    obtain ⟨v, us, rfl, ra, _, t⟩ := h
    show SvA K ca ow H (content e a :: contents e r) _
    unfold SvA
    exact ⟨v, us, rfl, fun n => ra.sv R n, AvA.sv R t⟩
end

/-- one operand: data, a slot's object as it stands, a fresh object -/
def PQ (K : PySem.W.Frag) (ca : CA) (F : Fr) : PP AV V := fun a v H0 ow H e σ => AvR K ca F ow H e σ a v ∧ (isFr a = true → ∀ p, v = .ref p → H0 p = none)
abbrev tQ (K : PySem.W.Frag) (ca : CA) (F : Fr) (W : WX) (m : M AV) : TE := tG K ca F W (PQ K ca F) m
def MQ (ca : CA) (X : Cx) (e : Expr) (m : M AV) : Prop := ∀ F W, Tk X F W → PE X e (tQ X.K ca F W m)
def qD (m : M D) : M AV := bind m fun x => ret (.d x)
def qR (i : Nat) : M AV := bind (okR i) fun _ => ret (.ref i)
def qF (m : M Ob) : M AV := bind m fun k => ret (.fr k)

section
variable {ca : CA} {X : Cx} {pos : Pos} {e a b c : Expr} {es : List Expr}
theorem mq_d {m : M D} (h : ME ca X e m) : MQ ca X e (qD m) := fun F W tk => PE.imp (h F W tk) fun σ H Q ⟨ow, env, R, g⟩ =>
  go_bind R g fun x e1 v ow1 H1 g1 R1 p1 q1 => q1 v ow1 H1 Go.refl R1 ⟨p1, fun z => by cases z⟩
theorem mq_f {m : M Ob} (h : MO ca X e m) : MQ ca X e (qF m) := fun F W tk => PE.imp (h F W tk) fun σ H Q ⟨ow, env, R, g⟩ =>
  go_bind R g fun x e1 v ow1 H1 g1 R1 ⟨p, ev, n, r, L⟩ q1 => q1 v ow1 H1 Go.refl R1 ⟨⟨p, ev, r, L⟩, fun _ q eq => by rw [ev] at eq; cases eq; exact n⟩
theorem okR_go {K : PySem.W.Frag} {F : Fr} {W : WX} {β γ : Type} {P : PP γ β} {Hs H : Hp} {ow : Addr → Prop} {env : List Sl} {σ : St} {Q : β → Hp → Prop} {i : Nat} {f : Unit → M γ} (R : Rel K ca F ow env σ H) (g : GoG K ca F W P Hs ow env H σ Q (bind (okR i) f env)) :
    ∃ v, σ[i]? = some (some v) ∧ GoG K ca F W P Hs ow env H σ Q (f () env) := by
  cases ho : env[i]? with
  | none =>
    have z : bind (okR i) f env = .bad := by simp only [bind, okR, ho]
    rw [z] at g; exact g.elim
  | some s =>
    by_cases hs : s = .un
    · have z : bind (okR i) f env = .bad := by subst hs; simp only [bind, okR, ho]
      rw [z] at g; exact g.elim
    · obtain ⟨v, hv⟩ := Rel.at R ho hs
      have z : bind (okR i) f env = f () env := by
        cases s with
        | un => exact absurd rfl hs
        | d x => simp only [bind, okR, ho]
        | o l k => simp only [bind, okR, ho]
        | sc ns => simp only [bind, okR, ho]
        | xc => simp only [bind, okR, ho]
      rw [z] at g
      exact ⟨v, hv, g⟩
theorem mq_r (i : Nat) {x : Str} (hN : X.N[i]? = some x := by rfl) (hv : Vis X.env.scope x := by first | exact Or.inl rfl | exact Or.inr (Or.inl rfl) | exact Or.inr (Or.inr rfl)) (hd : (x == ("__debug__" : Str)) = false := by decide)
    (hcd : (x == ("__classdict__" : Str)) = false := by decide) : MQ ca X (.Name x pos) (qR i) := fun F W tk => PE.imp (pe_var hN hv hd hcd) fun σ H Q ⟨ow, env, R, g⟩ => by
  obtain ⟨v, hv, g⟩ := okR_go R g
  exact ⟨v, hv, g v ow H Go.refl R ⟨hv, fun z => by cases z⟩⟩
/-- a fresh list is data, from now on -/
@[simp] def obD : Ob → Option D
  | .lst xs => some (.list xs)
  | .dct kvs => some (.dict (kvs.map fun p => (kD p.1, p.2)))
  | .ins _ _ => none
def eO (m : M Ob) : M D := bind m fun k => lift (obD k)
theorem rpK_of {K : PySem.W.Frag} {ow : Addr → Prop} {H : Hp} : ∀ {kvs : List (Key × D)} {us : List (Key × V)}, RpE K ow H kvs us → RpK K ow H (kvs.map fun p => (kD p.1, p.2)) us
  | _, _, .nil => by unfold RpK; rfl
  | _, _, .cons h t => by
    show RpK K ow H (_ :: _) _
    unfold RpK
    exact ⟨_, _, _, rfl, congrArg kD h.1, h.2, rpK_of t⟩
theorem Loose.data {K : PySem.W.Frag} {F : Fr} {ow : Addr → Prop} {H : Hp} {env : List Sl} {σ : St} {p : Addr} {k : Ob} {d : D} (L : Loose F ow env σ p) (r : OwnR K ca ow H p k) (h : obD k = some d) : Rp K (less ow p) H d (.ref p) := by
  cases k with
  | lst xs =>
    cases h
    obtain ⟨vs, h1, h2⟩ := r
    unfold Rp
    exact ⟨p, vs, rfl, h1, fun z => z.2 rfl, h2.stp stp_less⟩
  | dct kvs =>
    cases h
    obtain ⟨us, h1, h2⟩ := r
    unfold Rp
    exact ⟨p, us, rfl, h1, fun z => z.2 rfl, rpK_of (h2.stp stp_less)⟩
  | ins c fs => cases h
theorem me_o {m : M Ob} (h : MO ca X e m) : ME ca X e (eO m) := fun F W tk => PE.imp (h F W tk) fun σ H Q ⟨ow, env, R, g⟩ => by
  refine ⟨ow, env, R, ?_⟩
  unfold eO bind at g
  cases hm : m env with
  | ok k e =>
    rw [hm] at g
    rintro v ow1 H1 g1 R1 ⟨p, rfl, n, r, L⟩
    cases hk : obD k with
    | none => simp only [lift, hk] at g; exact g.elim
    | some d =>
      simp only [lift, hk] at g
      refine g (.ref p) (less ow1 p) H1 ⟨g1.stp.trans stp_less, fun q w nt nh => ?_, g1.dom⟩ (R1.loose L) (L.data r hk)
      obtain ⟨w1, h1, n1⟩ := g1.lo q w nt nh
      refine ⟨⟨w1, fun z => ?_⟩, h1, n1⟩
      obtain ⟨u, hu⟩ := R.trk q w
      rw [z, n] at hu
      cases hu
  | ex c e => rw [hm] at g; exact g
  | bad => rw [hm] at g; exact g

/-! ### operators by contents -/
/-- an operator's answer is data -/
def OpS (K : PySem.W.Frag) (ca : CA) (r : R2) (g : Sl → Sl → Option D) : Prop :=
  ∀ s t z ow H v1 v2 Q, g s t = some z → (s ≠ .un → SvR K ca ow H s v1) → (t ≠ .un → SvR K ca ow H t v2) → Trk ow H → (∀ v H', Gr H H' → Rp K ow H' z v → Q v H') → r v1 v2 H Q
/-- .. is a new list -/
def OpF (K : PySem.W.Frag) (ca : CA) (r : R2) (g : Sl → Sl → Option (List D)) : Prop :=
  ∀ s t z ow H v1 v2 Q, g s t = some z → (s ≠ .un → SvR K ca ow H s v1) → (t ≠ .un → SvR K ca ow H t v2) → Trk ow H → (∀ p vs, H p = none → RpA K ow H z vs → Q (.ref p) (upd H p (.lst vs))) → r v1 v2 H Q
def e2 (g : Sl → Sl → Option D) (ma mb : M AV) : M D := bind ma fun a => bind mb fun b => fun e => lift (g (content e a) (content e b)) e
def o2 (g : Sl → Sl → Option (List D)) (ma mb : M AV) : M Ob := bind ma fun a => bind mb fun b => fun e => lift ((g (content e a) (content e b)).map Ob.lst) e
section
variable {K : PySem.W.Frag} {F : Fr} {W : WX} {ow : Addr → Prop} {env : List Sl} {Hs H : Hp} {σ : St} {Q : VK}
theorem go_val {z : D} {v : V} {H' : Hp} (R : Rel K ca F ow env σ H) (g : GoG K ca F W (PD K) Hs ow env H σ Q (.ok z env)) (gr : Gr H H') (r : Rp K ow H' z v) : Q v H' := g v ow H' (Go.gr R gr) (R.gr gr) r
theorem go_new {xs : List D} {vs : List V} {p : Addr} (R : Rel K ca F ow env σ H) (g : GoG K ca F W (PO_ K ca F) Hs ow env H σ Q (.ok (.lst xs) env)) (back : ∀ x, H x = none → Hs x = none) (h : H p = none) (r : RpA K ow H xs vs) : Q (.ref p) (upd H p (.lst vs)) := by
  obtain ⟨R1, L⟩ := R.more (o := .lst vs) h
  exact g (.ref p) _ _ (Go.more R h) R1 ⟨p, rfl, back p h, ⟨vs, upd_same, r.stp (stp_more h)⟩, L⟩
theorem lift_go {α β : Type} {P : PP α β} {Q : β → Hp → Prop} {o : Option α} (g : GoG K ca F W P Hs ow env H σ Q (lift o env)) : ∃ z, o = some z ∧ GoG K ca F W P Hs ow env H σ Q (.ok z env) := by
  cases o with
  | none => exact g.elim
  | some z => exact ⟨z, rfl, g⟩
end
theorem two_go {K : PySem.W.Frag} {F : Fr} {W : WX} {ma mb : M AV} {f : AV → AV → M D} {σ : St} {H : Hp} {Q : VK} {r : V → V → Hp → VK → Prop} (h : tE K ca F W (bind ma fun a => bind mb fun b => f a b) σ H Q)
    (k : ∀ x y v1 v2 ow e H1 Hs, Rel K ca F ow e σ H1 → AvR K ca F ow H1 e σ x v1 → AvR K ca F ow H1 e σ y v2 → GoG K ca F W (PD K) Hs ow e H1 σ Q (f x y e) → r v1 v2 H1 Q) :
    tQ K ca F W ma σ H fun x H1 => tQ K ca F W mb σ H1 fun y H2 => r x y H2 Q := by
  obtain ⟨ow, env, R, g⟩ := h
  exact go_bind R g fun x e1 v1 ow1 H1 g1 R1 p1 q1 => go_bind R1 q1 fun y e2 v2 ow2 H2 g2 R2 p2 q2 => k x y v1 v2 ow2 e2 H2 H R2 (p1.1.go g2) p2.1 q2
theorem me_op {op : Operator} {r : R2} {g : Sl → Sl → Option D} {ma mb : M AV} (ho : OpR X (binaryOp op) r) (hs : OpS X.K ca r g) (ha : MQ ca X a ma) (hb : MQ ca X b mb) : ME ca X (.BinOp a op b pos) (e2 g ma mb) := fun F W tk =>
  PE.imp (pe_op ho (ha F W tk) (hb F W tk)) fun σ H Q h => two_go h fun x y v1 v2 ow e H1 Hs R p1 p2 q => by
    obtain ⟨z, ez, q⟩ := lift_go q
    exact hs _ _ z ow H1 v1 v2 Q ez (fun n => p1.sv R n) (fun n => p2.sv R n) R.trk fun v H' gr rp => go_val R q gr rp
theorem mo_op {op : Operator} {r : R2} {g : Sl → Sl → Option (List D)} {ma mb : M AV} (ho : OpR X (binaryOp op) r) (hs : OpF X.K ca r g) (ha : MQ ca X a ma) (hb : MQ ca X b mb) : MO ca X (.BinOp a op b pos) (o2 g ma mb) := fun F W tk =>
  PE.imp (pe_op ho (ha F W tk) (hb F W tk)) fun σ H Q ⟨ow, env, R, gg⟩ =>
    go_bind R gg fun x e1 v1 ow1 H1 g1 R1 p1 q1 => go_bind R1 q1 fun y e2 v2 ow2 H2 g2 R2 p2 q2 => by
      obtain ⟨z, ez, q⟩ := lift_go q2
      obtain ⟨xs, exs, rfl⟩ := Option.map_eq_some_iff.mp ez
      exact hs _ _ xs ow2 H2 v1 v2 _ exs (fun n => (p1.1.go g2).sv R2 n) (fun n => p2.1.sv R2 n) R2.trk fun p vs hp rp => go_new R2 q (fun x h => g1.dom x (g2.dom x h)) hp rp
/-- a comparison -/
theorem me_cmp {op : CmpOp} {r : R2} {g : Sl → Sl → Option D} {ma mb : M AV} (ho : OpR X (compareOp op) r) (hs : OpS X.K ca r g) (ha : MQ ca X a ma) (hb : MQ ca X b mb) (hm : behindInMarks op b = false := by first | exact nomark _ | with_unfolding_all rfl) : ME ca X (.Compare a [op] [b] pos) (e2 g ma mb) := fun F W tk =>
  PE.imp (pe_cmpR ho (ha F W tk) (hb F W tk) hm) fun σ H Q h => two_go h fun x y v1 v2 ow e H1 Hs R p1 p2 q => by
    obtain ⟨z, ez, q⟩ := lift_go q
    exact hs _ _ z ow H1 v1 v2 Q ez (fun n => p1.sv R n) (fun n => p2.sv R n) R.trk fun v H' gr rp => go_val R q gr rp
/-- data as a truth value -/
@[simp] def dB : D → Option Bool
  | .bool b => some b
  | _ => none
def b2 (g : Sl → Sl → Option D) (ma mb : M AV) : M Bool := bind ma fun a => bind mb fun b => fun e => lift ((g (content e a) (content e b)).bind dB) e
theorem dB_some {d : D} {b : Bool} (h : dB d = some b) : d = .bool b := by
  cases d <;> first | cases h | skip
  rfl
theorem mt_cmp {op : CmpOp} {r : R2} {g : Sl → Sl → Option D} {ma mb : M AV} (ho : OpR X (compareOp op) r) (hs : OpS X.K ca r g) (ha : MQ ca X a ma) (hb : MQ ca X b mb) (hm : behindInMarks op b = false := by first | exact nomark _ | with_unfolding_all rfl) : MT ca X (.Compare a [op] [b] pos) (b2 g ma mb) := fun F W tk =>
  PT.imp (pt_cmpR ho (ha F W tk) (hb F W tk) hm) fun σ H Q ⟨ow, env, R, gg⟩ =>
    go_bind R gg fun x e1 v1 ow1 H1 g1 R1 p1 q1 => go_bind R1 q1 fun y e2 v2 ow2 H2 g2 R2 p2 q2 => by
      obtain ⟨z, ez, q⟩ := lift_go q2
      obtain ⟨d, ed, ez⟩ := Option.bind_eq_some_iff.mp ez
      have ed' := dB_some ez
      subst ed'
      refine hs _ _ _ ow2 H2 v1 v2 _ ed (fun n => (p1.1.go g2).sv R2 n) (fun n => p2.1.sv R2 n) R2.trk fun v H' gr rp => ?_
      unfold Rp at rp
      exact ⟨z, rp, q z ow2 H' (Go.gr R2 gr) (R2.gr gr) rfl⟩
def tB_ (m : M D) : M Bool := bind m fun x => lift (dB x)
/-- an expression that gives True or False, as a test -/
theorem mt_val {m : M D} (h : ME ca X e m) (he : ∀ whole, isTrue e X.env whole = (do let v ← whole; standAt e.pos; holding [v] (truthy v)) := by intro _; rfl) : MT ca X e (tB_ m) := fun F W tk =>
  PT.imp (pt_val (h F W tk) he) fun σ H Q ⟨ow, env, R, g⟩ => go_bind R g fun x e1 v1 ow1 H1 g1 R1 p1 q1 => by
    obtain ⟨z, ez, q⟩ := lift_go q1
    have ed := dB_some ez
    subst ed
    have p1' : Rp X.K ow1 H1 (.bool z) v1 := p1
    unfold Rp at p1'
    exact ⟨z, p1', q z ow1 H1 Go.refl R1 rfl⟩
def tNot_ (m : M Bool) : M Bool := bind m fun b => ret (!b)
theorem mt_not {m : M Bool} (h : MT ca X a m) : MT ca X (.UnaryOp .Not a pos) (tNot_ m) := fun F W tk =>
  PT.imp (pt_not (h F W tk)) fun σ H Q ⟨ow, env, R, g⟩ => go_bind R g fun x e1 v1 ow1 H1 g1 R1 p1 q1 => by
    have p1' : v1 = x := p1
    subst p1'
    exact q1 _ ow1 H1 Go.refl R1 rfl
def tAnd_ (m n : M Bool) : M Bool := bind m fun b => if b = true then n else ret false
def tOr_ (m n : M Bool) : M Bool := bind m fun b => if b = true then ret true else n
variable {rest : List Expr}
theorem mw_mt {m : M Bool} (h : MW ca X a m) : MT ca X a m := fun F W tk => (h F W tk).pt
theorem mw_and1 {m : M Bool} (h : MT ca X a m) : MW ca X (.BoolOp .And [a] pos) m := fun F W tk => pw_and1 (h F W tk)
theorem mw_or1 {m : M Bool} (h : MT ca X a m) : MW ca X (.BoolOp .Or [a] pos) m := fun F W tk => pw_or1 (h F W tk)
theorem mw_and {m n : M Bool} (h : MT ca X a m) (h2 : MW ca X (.BoolOp .And (b :: rest) pos) n) : MW ca X (.BoolOp .And (a :: b :: rest) pos) (tAnd_ m n) := fun F W tk =>
  PW.imp (pw_and (h F W tk) (h2 F W tk)) fun σ H Q ⟨ow, env, R, g⟩ => go_bind R g fun x e1 v1 ow1 H1 g1 R1 p1 q1 => by
    have p1' : v1 = x := p1
    subst p1'
    cases v1 with
    | true => rw [if_pos rfl] at q1 ⊢; exact ⟨ow1, e1, R1, q1⟩
    | false => rw [if_neg Bool.false_ne_true] at q1 ⊢; exact q1 _ ow1 H1 Go.refl R1 rfl
theorem mw_or {m n : M Bool} (h : MT ca X a m) (h2 : MW ca X (.BoolOp .Or (b :: rest) pos) n) : MW ca X (.BoolOp .Or (a :: b :: rest) pos) (tOr_ m n) := fun F W tk =>
  PW.imp (pw_or (h F W tk) (h2 F W tk)) fun σ H Q ⟨ow, env, R, g⟩ => go_bind R g fun x e1 v1 ow1 H1 g1 R1 p1 q1 => by
    have p1' : v1 = x := p1
    subst p1'
    cases v1 with
    | false => rw [if_neg Bool.false_ne_true] at q1 ⊢; exact ⟨ow1, e1, R1, q1⟩
    | true => rw [if_pos rfl] at q1 ⊢; exact q1 _ ow1 H1 Go.refl R1 rfl
end
end ML
end

section
set_option Elab.async false
set_option linter.all false
set_option maxRecDepth 100000
set_option maxHeartbeats 2000000
/-! # Values by and, or, not, if; displays; subscripts; slices; built-in functions; calls -/
namespace ML
open PySem L2
section
variable {ca : CA} {X : Cx} {pos : Pos} {e a b c : Expr} {es rest : List Expr}
def eAnd (m n : M D) : M D := bind m fun x => fun e => match x with
  | .bool true => n e
  | .bool false => .ok (.bool false) e
  | _ => .bad
def eOr (m n : M D) : M D := bind m fun x => fun e => match x with
  | .bool true => .ok (.bool true) e
  | .bool false => n e
  | _ => .bad
def eNot (m : M D) : M D := bind m fun x => lift ((dB x).map fun b => .bool (!b))
def eIf (t : M Bool) (m n : M D) : M D := bind t fun b => if b = true then m else n
def oIf (t : M Bool) (m n : M Ob) : M Ob := bind t fun b => if b = true then m else n
theorem me_one {op} {m : M D} (h : ME ca X a m) : ME ca X (.BoolOp op [a] pos) m := fun F W tk => pe_one (h F W tk)
theorem me_and {m n : M D} (h : ME ca X a m) (h2 : ME ca X (.BoolOp .And (b :: rest) pos) n) : ME ca X (.BoolOp .And (a :: b :: rest) pos) (eAnd m n) := fun F W tk =>
  PE.imp (pe_and (h F W tk) (h2 F W tk)) fun σ H Q ⟨ow, env, R, g⟩ => go_bind R g fun x e1 v1 ow1 H1 g1 R1 p1 q1 => by
    cases x with
    | bool b =>
      have p1' : Rp X.K ow1 H1 (.bool b) v1 := p1
      unfold Rp at p1'
      refine ⟨b, p1', ?_⟩
      cases b with
      | true => rw [if_pos rfl]; exact ⟨ow1, e1, R1, q1⟩
      | false => rw [if_neg Bool.false_ne_true]; exact q1 _ ow1 H1 Go.refl R1 (by show Rp _ _ _ (.bool false) _; unfold Rp; rfl)
    | _ => exact q1.elim
theorem me_or {m n : M D} (h : ME ca X a m) (h2 : ME ca X (.BoolOp .Or (b :: rest) pos) n) : ME ca X (.BoolOp .Or (a :: b :: rest) pos) (eOr m n) := fun F W tk =>
  PE.imp (pe_or (h F W tk) (h2 F W tk)) fun σ H Q ⟨ow, env, R, g⟩ => go_bind R g fun x e1 v1 ow1 H1 g1 R1 p1 q1 => by
    cases x with
    | bool b =>
      have p1' : Rp X.K ow1 H1 (.bool b) v1 := p1
      unfold Rp at p1'
      refine ⟨b, p1', ?_⟩
      cases b with
      | false => rw [if_neg Bool.false_ne_true]; exact ⟨ow1, e1, R1, q1⟩
      | true => rw [if_pos rfl]; exact q1 _ ow1 H1 Go.refl R1 (by show Rp _ _ _ (.bool true) _; unfold Rp; rfl)
    | _ => exact q1.elim
theorem me_not {m : M D} (h : ME ca X a m) : ME ca X (.UnaryOp .Not a pos) (eNot m) := fun F W tk =>
  PE.imp (pe_not (h F W tk)) fun σ H Q ⟨ow, env, R, g⟩ => go_bind R g fun x e1 v1 ow1 H1 g1 R1 p1 q1 => by
    obtain ⟨z, ez, q⟩ := lift_go q1
    obtain ⟨b, eb, rfl⟩ := Option.map_eq_some_iff.mp ez
    have ed := dB_some eb
    subst ed
    have p1' : Rp X.K ow1 H1 (.bool b) v1 := p1
    unfold Rp at p1'
    exact ⟨b, p1', q _ ow1 H1 Go.refl R1 (by show Rp _ _ _ (.bool (!b)) _; unfold Rp; rfl)⟩
theorem me_if {t : M Bool} {m n : M D} (hc : MT ca X c t) (h : ME ca X a m) (h2 : ME ca X b n) : ME ca X (.IfExp c a b pos) (eIf t m n) := fun F W tk =>
  PE.imp (pe_ifExp (hc F W tk) (h F W tk) (h2 F W tk)) fun σ H Q ⟨ow, env, R, g⟩ => go_bind R g fun x e1 v1 ow1 H1 g1 R1 p1 q1 => by
    have p1' : v1 = x := p1
    subst p1'
    cases v1 with
    | true => rw [if_pos rfl] at q1 ⊢; exact ⟨ow1, e1, R1, q1⟩
    | false => rw [if_neg Bool.false_ne_true] at q1 ⊢; exact ⟨ow1, e1, R1, q1⟩
theorem GoG.start {K : PySem.W.Frag} {F : Fr} {W : WX} {ow : Addr → Prop} {env : List Sl} {Hs H1 H : Hp} {σ : St} {Q : VK} {r : R Ob} (d : ∀ x, H1 x = none → Hs x = none) (g : GoG K ca F W (PO_ K ca F) Hs ow env H σ Q r) : GoG K ca F W (PO_ K ca F) H1 ow env H σ Q r := by
  cases r with
  | ok k e => exact fun b ow' H' g' R' ⟨p, ev, n, r⟩ => g b ow' H' g' R' ⟨p, ev, d p n, r⟩
  | ex c e => exact g
  | bad => exact g
theorem mo_if {t : M Bool} {m n : M Ob} (hc : MT ca X c t) (h : MO ca X a m) (h2 : MO ca X b n) : MO ca X (.IfExp c a b pos) (oIf t m n) := fun F W tk =>
  PE.imp (pe_ifExp (hc F W tk) (h F W tk) (h2 F W tk)) fun σ H Q ⟨ow, env, R, g⟩ => go_bind R g fun x e1 v1 ow1 H1 g1 R1 p1 q1 => by
    have p1' : v1 = x := p1
    subst p1'
    cases v1 with
    | true => rw [if_pos rfl] at q1 ⊢; exact ⟨ow1, e1, R1, q1.start fun x h => g1.dom x h⟩
    | false => rw [if_neg Bool.false_ne_true] at q1 ⊢; exact ⟨ow1, e1, R1, q1.start fun x h => g1.dom x h⟩
/-! ### displays -/
/-- all arguments are data -/
@[simp] def datas : List AV → Option (List D)
  | [] => some []
  | .d x :: r => (datas r).map fun xs => x :: xs
  | _ :: _ => none
theorem AvA.datas {K : PySem.W.Frag} {F : Fr} {Hs H : Hp} {ow : Addr → Prop} {e : List Sl} {σ : St} : ∀ {as : List AV} {vs : List V} {xs : List D}, AvA K ca F Hs ow H e σ as vs → datas as = some xs → RpA K ow H xs vs
  | [], _, _, h, e => by
    cases e
    unfold AvA at h
    unfold RpA
    exact h
  | .d x :: r, _, _, h, e => by
    unfold ML.datas at e
    obtain ⟨ys, ey, rfl⟩ := Option.map_eq_some_iff.mp e
    unfold AvA at h
    obtain ⟨v, us, rfl, ra, _, t⟩ := h
    unfold RpA
    exact ⟨v, us, rfl, ra, AvA.datas t ey⟩
  | .ref i :: r, _, _, h, e => by cases e
  | .fr k :: r, _, _, h, e => by cases e
theorem RpA.length {K : PySem.W.Frag} {ow : Addr → Prop} {H : Hp} : ∀ {xs : List D} {vs : List V}, RpA K ow H xs vs → xs.length = vs.length
  | [], _, h => by unfold RpA at h; rw [h]; rfl
  | _ :: _, _, h => by
    unfold RpA at h
    obtain ⟨v, us, rfl, _, t⟩ := h
    rw [List.length_cons, List.length_cons, t.length]
/-- below the length that memory lets -/
abbrev LIM : Nat := 10000000
theorem lim_line {n : Nat} (h : n ≤ LIM) : n ≤ sizeLine := Nat.le_trans h (by rw [sizeLine_eq]; decide)
theorem lim_lt {n : Nat} (h : n < LIM) : n < sizeLine := Nat.lt_of_lt_of_le h (by rw [sizeLine_eq]; decide)
def eTup (m : M (List AV)) : M D := bind m fun as => lift ((datas as).bind fun xs => if xs.length ≤ LIM then some (.tuple xs) else none)
def oLst (m : M (List AV)) : M Ob := bind m fun as => lift ((datas as).bind fun xs => if xs.length ≤ LIM then some (.lst xs) else none)
theorem ite_some {α : Type} {c : Prop} [Decidable c] {x z : α} (h : (if c then some x else none) = some z) : c ∧ x = z := by
  by_cases q : c
  · rw [if_pos q] at h; exact ⟨q, Option.some.inj h⟩
  · rw [if_neg q] at h; cases h
theorem me_tup {x1} {m : M (List AV)} (h : MA ca X es m) : ME ca X (.Tuple es x1 pos) (eTup m) := fun F W tk =>
  PE.imp (MK.pe_tupZ (h F W tk)) fun σ H Q ⟨ow, env, R, g⟩ => go_bind R g fun as e1 vs ow1 H1 g1 R1 p1 q1 => by
    obtain ⟨z, ez, q⟩ := lift_go q1
    obtain ⟨xs, ex, ez⟩ := Option.bind_eq_some_iff.mp ez
    obtain ⟨hl, rfl⟩ := ite_some ez
    have rp := AvA.datas p1 ex
    refine ⟨lim_line (by rw [← rp.length]; exact hl), fun p o hc hd hp => go_val R1 q (Gr.new hp) ?_⟩
    unfold Rp
    exact ⟨p, vs, rfl, .frz upd_same hd (R1.free hp), rp.stp (Gr.new hp).stp⟩
theorem mo_lst {m : M (List AV)} (h : MA ca X es m) : MO ca X (.List es pos) (oLst m) := fun F W tk =>
  PE.imp (pe_lst (h F W tk)) fun σ H Q ⟨ow, env, R, g⟩ => go_bind R g fun as e1 vs ow1 H1 g1 R1 p1 q1 => by
    obtain ⟨z, ez, q⟩ := lift_go q1
    obtain ⟨xs, ex, ez⟩ := Option.bind_eq_some_iff.mp ez
    obtain ⟨hl, rfl⟩ := ite_some ez
    have rp := AvA.datas p1 ex
    exact ⟨lim_line (by rw [← rp.length]; exact hl), fun p hp => go_new R1 q (fun x h => g1.dom x h) hp rp⟩
/-! ### built-in functions and types -/
def BltS (K : PySem.W.Frag) (ca : CA) (r : List V → Hp → VK → Prop) (g : List Sl → Option D) : Prop :=
  ∀ ss z ow H vs Q, g ss = some z → SvA K ca ow H ss vs → Trk ow H → (∀ v H', Gr H H' → Rp K ow H' z v → Q v H') → r vs H Q
def BltF (K : PySem.W.Frag) (ca : CA) (r : List V → Hp → VK → Prop) (g : List Sl → Option (List D)) : Prop :=
  ∀ ss z ow H vs Q, g ss = some z → SvA K ca ow H ss vs → Trk ow H → (∀ p us, H p = none → RpA K ow H z us → Q (.ref p) (upd H p (.lst us))) → r vs H Q
def eBlt (g : List Sl → Option D) (m : M (List AV)) : M D := bind m fun as => fun e => lift (g (contents e as)) e
def oBlt (g : List Sl → Option (List D)) (m : M (List AV)) : M Ob := bind m fun as => fun e => lift ((g (contents e as)).map Ob.lst) e
theorem me_blt {id : String} {x : Str} {p : Pos} {r : List V → Hp → VK → Prop} {g : List Sl → Option D} {m : M (List AV)} (hc : CallR X (.builtin id) r) (hs : BltS X.K ca r g) (ha : MA ca X (e :: es) m) (hm : X.mg x = none) (hv : bootBuiltins x = some (.builtin id)) (hg : Gl X x := by rfl)
    (hn : x ≠ "__name__" := by decide) (hdb : (x == ("__debug__" : Str)) = false := by decide)
    (he : starEach (e :: es) X.env = (false, eval e X.env) :: starEach es X.env := by rfl) (hpl : (backTo pos (starEach es X.env)).any (·.1) = false := by rfl) : ME ca X (.Call (.Name x p) (e :: es) [] pos) (eBlt g m) := fun F W tk =>
  PE.imp (pe_callB hc hg hm hv (ha F W tk) hn hdb he hpl) fun σ H Q ⟨ow, env, R, gg⟩ => go_bind R gg fun as e1 vs ow1 H1 g1 R1 p1 q1 => by
    obtain ⟨z, ez, q⟩ := lift_go q1
    exact hs _ z ow1 H1 vs Q ez (AvA.sv R1 p1) R1.trk fun v H' gr rp => go_val R1 q gr rp
theorem me_bltT {T : String} {x : Str} {p : Pos} {r : List V → Hp → VK → Prop} {g : List Sl → Option D} {m : M (List AV)} (hc : CallR X (.type T) r) (hs : BltS X.K ca r g) (ha : MA ca X (e :: es) m) (hm : X.mg x = none) (hv : bootBuiltins x = some (.type T)) (hg : Gl X x := by rfl)
    (hn : x ≠ "__name__" := by decide) (hdb : (x == ("__debug__" : Str)) = false := by decide)
    (he : starEach (e :: es) X.env = (false, eval e X.env) :: starEach es X.env := by rfl) (hpl : (backTo pos (starEach es X.env)).any (·.1) = false := by rfl) : ME ca X (.Call (.Name x p) (e :: es) [] pos) (eBlt g m) := fun F W tk =>
  PE.imp (pe_callTy hc hg hm hv (ha F W tk) hn hdb he hpl) fun σ H Q ⟨ow, env, R, gg⟩ => go_bind R gg fun as e1 vs ow1 H1 g1 R1 p1 q1 => by
    obtain ⟨z, ez, q⟩ := lift_go q1
    exact hs _ z ow1 H1 vs Q ez (AvA.sv R1 p1) R1.trk fun v H' gr rp => go_val R1 q gr rp
theorem mo_blt {id : String} {x : Str} {p : Pos} {r : List V → Hp → VK → Prop} {g : List Sl → Option (List D)} {m : M (List AV)} (hc : CallR X (.builtin id) r) (hs : BltF X.K ca r g) (ha : MA ca X (e :: es) m) (hm : X.mg x = none) (hv : bootBuiltins x = some (.builtin id)) (hg : Gl X x := by rfl)
    (hn : x ≠ "__name__" := by decide) (hdb : (x == ("__debug__" : Str)) = false := by decide)
    (he : starEach (e :: es) X.env = (false, eval e X.env) :: starEach es X.env := by rfl) (hpl : (backTo pos (starEach es X.env)).any (·.1) = false := by rfl) : MO ca X (.Call (.Name x p) (e :: es) [] pos) (oBlt g m) := fun F W tk =>
  PE.imp (pe_callB hc hg hm hv (ha F W tk) hn hdb he hpl) fun σ H Q ⟨ow, env, R, gg⟩ => go_bind R gg fun as e1 vs ow1 H1 g1 R1 p1 q1 => by
    obtain ⟨z, ez, q⟩ := lift_go q1
    obtain ⟨xs, exs, rfl⟩ := Option.map_eq_some_iff.mp ez
    exact hs _ xs ow1 H1 vs Q exs (AvA.sv R1 p1) R1.trk fun p us hp rp => go_new R1 q (fun x h => g1.dom x h) hp rp
theorem mo_bltT {T : String} {x : Str} {p : Pos} {r : List V → Hp → VK → Prop} {g : List Sl → Option (List D)} {m : M (List AV)} (hc : CallR X (.type T) r) (hs : BltF X.K ca r g) (ha : MA ca X (e :: es) m) (hm : X.mg x = none) (hv : bootBuiltins x = some (.type T)) (hg : Gl X x := by rfl)
    (hn : x ≠ "__name__" := by decide) (hdb : (x == ("__debug__" : Str)) = false := by decide)
    (he : starEach (e :: es) X.env = (false, eval e X.env) :: starEach es X.env := by rfl) (hpl : (backTo pos (starEach es X.env)).any (·.1) = false := by rfl) : MO ca X (.Call (.Name x p) (e :: es) [] pos) (oBlt g m) := fun F W tk =>
  PE.imp (pe_callTy hc hg hm hv (ha F W tk) hn hdb he hpl) fun σ H Q ⟨ow, env, R, gg⟩ => go_bind R gg fun as e1 vs ow1 H1 g1 R1 p1 q1 => by
    obtain ⟨z, ez, q⟩ := lift_go q1
    obtain ⟨xs, exs, rfl⟩ := Option.map_eq_some_iff.mp ez
    exact hs _ xs ow1 H1 vs Q exs (AvA.sv R1 p1) R1.trk fun p us hp rp => go_new R1 q (fun x h => g1.dom x h) hp rp
/-! ### subscripts -/
theorem me_ix {r : R2} {g : Sl → Sl → Option D} {ma mb : M AV} (hr : IxR X r) (hs : OpS X.K ca r g) (ha : MQ ca X a ma) (hb : MQ ca X b mb) (hp : PlainIx b := by intro _ _; rfl) : ME ca X (.Subscript a b pos) (e2 g ma mb) := fun F W tk =>
  PE.imp (pe_ix hr (ha F W tk) (hb F W tk) hp) fun σ H Q h => two_go h fun x y v1 v2 ow e H1 Hs R p1 p2 q => by
    obtain ⟨z, ez, q⟩ := lift_go q
    exact hs _ _ z ow H1 v1 v2 Q ez (fun n => p1.sv R n) (fun n => p2.sv R n) R.trk fun v H' gr rp => go_val R q gr rp
/-! ### slices -/
def tPt (K : PySem.W.Frag) (ca : CA) (F : Fr) (W : WX) (m : M (Option Int)) : TO := tG K ca F W (fun (a b : Option Int) _ _ _ _ _ => b = a) m
def MPt (ca : CA) (X : Cx) (e : Option Expr) (m : M (Option Int)) : Prop := ∀ F W, Tk X F W → PO X e (tPt X.K ca F W m)
@[simp] def dI : D → Option Int
  | .int i => some i
  | _ => none
def ptI (m : M D) : M (Option Int) := bind m fun x => lift ((dI x).map some)
theorem dI_some {d : D} {i : Int} (h : dI d = some i) : d = .int i := by
  cases d <;> first | cases h | skip
  rfl
theorem PO.imp {e : Option Expr} {t t' : TO} (h : PO X e t) (k : ∀ σ H Q, t' σ H Q → t σ H Q) : PO X e t' := ⟨fun pins s σ H Q I q => h.run pins s σ H Q I (k _ _ _ q)⟩
theorem mpt_none : MPt ca X none (ret none) := fun F W tk => PO.imp po_none fun σ H Q ⟨ow, env, R, g⟩ => g none ow H Go.refl R rfl
theorem mpt_some {m : M D} (h : ME ca X a m) : MPt ca X (some a) (ptI m) := fun F W tk => PO.imp (po_some (h F W tk)) fun σ H Q ⟨ow, env, R, g⟩ => go_bind R g fun x e1 v ow1 H1 g1 R1 p1 q1 => by
  obtain ⟨z, ez, q⟩ := lift_go q1
  obtain ⟨i, ei, rfl⟩ := Option.map_eq_some_iff.mp ez
  have ed := dI_some ei
  subst ed
  have p1' : Rp X.K ow1 H1 (.int i) v := p1
  unfold Rp at p1'
  exact ⟨i, p1', q _ ow1 H1 Go.refl R1 rfl⟩
def SlS (K : PySem.W.Frag) (ca : CA) (r : V → Option Int → Option Int → Hp → VK → Prop) (g : Sl → Option Int → Option Int → Option D) : Prop :=
  ∀ s lo hi z ow H v Q, g s lo hi = some z → (s ≠ .un → SvR K ca ow H s v) → Trk ow H → (∀ v H', Gr H H' → Rp K ow H' z v → Q v H') → r v lo hi H Q
def SlF (K : PySem.W.Frag) (ca : CA) (r : V → Option Int → Option Int → Hp → VK → Prop) (g : Sl → Option Int → Option Int → Option (List D)) : Prop :=
  ∀ s lo hi z ow H v Q, g s lo hi = some z → (s ≠ .un → SvR K ca ow H s v) → Trk ow H → (∀ p us, H p = none → RpA K ow H z us → Q (.ref p) (upd H p (.lst us))) → r v lo hi H Q
def eSl (g : Sl → Option Int → Option Int → Option D) (m : M AV) (ml mh : M (Option Int)) : M D := bind m fun a => bind ml fun lo => bind mh fun hi => fun e => lift (g (content e a) lo hi) e
def oSl (g : Sl → Option Int → Option Int → Option (List D)) (m : M AV) (ml mh : M (Option Int)) : M Ob := bind m fun a => bind ml fun lo => bind mh fun hi => fun e => lift ((g (content e a) lo hi).map Ob.lst) e
theorem me_slice {lo hi : Option Expr} {p2 : Pos} {r : V → Option Int → Option Int → Hp → VK → Prop} {g : Sl → Option Int → Option Int → Option D} {m : M AV} {ml mh : M (Option Int)} (hr : L2.SlR X r) (hs : SlS X.K ca r g) (ha : MQ ca X a m) (hl : MPt ca X lo ml) (hh : MPt ca X hi mh) :
    ME ca X (.Subscript a (.Slice lo hi none p2) pos) (eSl g m ml mh) := fun F W tk => PE.imp (pe_slice hr (ha F W tk) (hl F W tk) (hh F W tk)) fun σ H Q ⟨ow, env, R, gg⟩ =>
  go_bind R gg fun x e1 v ow1 H1 g1 R1 p1 q1 => go_bind R1 q1 fun l e2 l' ow2 H2 g2 R2 el q2 => go_bind R2 q2 fun h e3 h' ow3 H3 g3 R3 eh q3 => by
    subst el
    subst eh
    obtain ⟨z, ez, q⟩ := lift_go q3
    exact hs _ _ _ z ow3 H3 v Q ez (fun n => ((p1.1.go g2).go g3).sv R3 n) R3.trk fun v H' gr rp => go_val R3 q gr rp
theorem mo_slice {lo hi : Option Expr} {p2 : Pos} {r : V → Option Int → Option Int → Hp → VK → Prop} {g : Sl → Option Int → Option Int → Option (List D)} {m : M AV} {ml mh : M (Option Int)} (hr : L2.SlR X r) (hs : SlF X.K ca r g) (ha : MQ ca X a m) (hl : MPt ca X lo ml) (hh : MPt ca X hi mh) :
    MO ca X (.Subscript a (.Slice lo hi none p2) pos) (oSl g m ml mh) := fun F W tk => PE.imp (pe_slice hr (ha F W tk) (hl F W tk) (hh F W tk)) fun σ H Q ⟨ow, env, R, gg⟩ =>
  go_bind R gg fun x e1 v ow1 H1 g1 R1 p1 q1 => go_bind R1 q1 fun l e2 l' ow2 H2 g2 R2 el q2 => go_bind R2 q2 fun h e3 h' ow3 H3 g3 R3 eh q3 => by
    subst el
    subst eh
    obtain ⟨z, ez, q⟩ := lift_go q3
    obtain ⟨xs, exs, rfl⟩ := Option.map_eq_some_iff.mp ez
    exact hs _ _ _ xs ow3 H3 v Q exs (fun n => ((p1.1.go g2).go g3).sv R3 n) R3.trk fun p us hp rp => go_new R3 q (fun x h => g1.dom x (g2.dom x (g3.dom x h))) hp rp
end
end ML
end

section
set_option Elab.async false
set_option linter.all false
set_option maxRecDepth 100000
set_option maxHeartbeats 2000000
/-! # Statements; a def by its body; a call -/
namespace ML
open PySem L2
open PyProof.Rows (envOfC)

/-- what a def hands back: data, or a fresh object -/
inductive RV where
  | d (x : D)
  | o (k : Ob)
/-- what comes of a statement -/
inductive SR where
  | nx (e : List Sl)
  | rt (r : RV) (e : List Sl)
  | bk (e : List Sl)
  | ct (e : List Sl)
  | ex (c : Str) (e : List Sl)
  | bad
abbrev MStm := List Sl → SR

def GoS (K : PySem.W.Frag) (ca : CA) (F : Fr) (W : WX) (ow : Addr → Prop) (H : Hp) (Dn : Ends) : SR → Prop
  | .nx e => ∀ σ' ow' H', Stp ow H ow' H' → Rel K ca F ow' e σ' H' → Dn.nx σ' H'
  | .bk e => ∀ σ' ow' H', Stp ow H ow' H' → Rel K ca F ow' e σ' H' → Dn.bk σ' H'
  | .ct e => ∀ σ' ow' H', Stp ow H ow' H' → Rel K ca F ow' e σ' H' → Dn.ct σ' H'
  | .rt (.d x) e => ∀ v σ' ow' H', Stp ow H ow' H' → Rel K ca F ow' e σ' H' → Rp K ow' H' x v → Dn.rt v H'
  | .rt (.o k) e => ∀ p σ' ow' H', Stp ow H ow' H' → Rel K ca F ow' e σ' H' → OwnR K ca ow' H' p k → Loose F ow' e σ' p → Dn.rt (.ref p) H'
  | .ex c e => ∀ σ' ow' H', Stp ow H ow' H' → Rel K ca F ow' e σ' H' → WSat ca W c σ' H'
  | .bad => False
def tS (K : PySem.W.Frag) (ca : CA) (F : Fr) (W : WX) (m : MStm) : TS := fun Dn σ H => ∃ ow env, Rel K ca F ow env σ H ∧ GoS K ca F W ow H Dn (m env)
def MS (ca : CA) (X : Cx) (st : Stmt) (m : MStm) : Prop := ∀ F W, Tk X F W → PassesOwn (model X.prog X.w) X.A X.env X.xe → PS X st (tS X.K ca F W m)
def MSs (ca : CA) (X : Cx) (st : List Stmt) (m : MStm) : Prop := ∀ F W, Tk X F W → PassesOwn (model X.prog X.w) X.A X.env X.xe → PSs X st (tS X.K ca F W m)

section
variable {K : PySem.W.Frag} {ca : CA} {F : Fr} {W : WX} {ow ow1 : Addr → Prop} {H H1 : Hp} {Dn : Ends} {env : List Sl} {σ : St}
theorem GoS.mono {r : SR} (s : Stp ow H ow1 H1) (h : GoS K ca F W ow H Dn r) : GoS K ca F W ow1 H1 Dn r := by
  cases r with
  | nx e => exact fun σ' ow' H' s' R => h σ' ow' H' (s.trans s') R
  | bk e => exact fun σ' ow' H' s' R => h σ' ow' H' (s.trans s') R
  | ct e => exact fun σ' ow' H' s' R => h σ' ow' H' (s.trans s') R
  | rt r e =>
    cases r with
    | d x => exact fun v σ' ow' H' s' R => h v σ' ow' H' (s.trans s') R
    | o k => exact fun p σ' ow' H' s' R => h p σ' ow' H' (s.trans s') R
  | ex c e => exact fun σ' ow' H' s' R => h σ' ow' H' (s.trans s') R
  | bad => exact h
/-- an expression, then a statement's rest -/
def xS {α : Type} (m : M α) (f : α → MStm) : MStm := fun e => match m e with
  | .ok a e' => f a e'
  | .ex c e' => .ex c e'
  | .bad => .bad
theorem go_stm {α β : Type} {P : PP α β} {m : M α} {f : α → MStm} {C : β → Hp → Prop} (R : Rel K ca F ow env σ H) (h : GoS K ca F W ow H Dn (xS m f env))
    (k : ∀ a e b ow1 H1, Go σ ow env H ow1 e H1 → Rel K ca F ow1 e σ H1 → P a b H ow1 H1 e σ → GoS K ca F W ow1 H1 Dn (f a e) → C b H1) : tG K ca F W P m σ H C := by
  refine ⟨ow, env, R, ?_⟩
  unfold xS at h
  cases hm : m env with
  | ok a e =>
    rw [hm] at h
    exact fun b ow1 H1 g R1 p => k a e b ow1 H1 g R1 p (h.mono g.stp)
  | ex c e => rw [hm] at h; exact fun ow' H' s' R' => h σ ow' H' s'.stp R'
  | bad => rw [hm] at h; exact h
end

section
variable {ca : CA} {X : Cx} {pos : Pos} {e a b c : Expr} {es : List Expr} {st : Stmt} {rest : List Stmt}
/-! ### blocks -/
def sNil : MStm := fun e => .nx e
def sSeq (m n : MStm) : MStm := fun e => match m e with
  | .nx e' => n e'
  | r => r
theorem mss_nil : MSs ca X [] sNil := fun F W tk hp => PSs.imp pss_nil fun Dn σ H ⟨ow, env, R, g⟩ => g σ ow H Stp.refl R
theorem mss_cons {m n : MStm} (h1 : MS ca X st m) (h2 : MSs ca X rest n) : MSs ca X (st :: rest) (sSeq m n) := fun F W tk hp => PSs.imp (pss_cons (h1 F W tk hp) (h2 F W tk hp)) fun Dn σ H ⟨ow, env, R, g⟩ => by
  refine ⟨ow, env, R, ?_⟩
  unfold sSeq at g
  cases hm : m env with
  | nx e =>
    rw [hm] at g
    exact fun σ' ow' H' s' R' => ⟨ow', e, R', GoS.mono s' g⟩
  | bk e => rw [hm] at g; exact g
  | ct e => rw [hm] at g; exact g
  | rt r e => rw [hm] at g; cases r <;> exact g
  | ex c e => rw [hm] at g; exact g
  | bad => rw [hm] at g; exact g
theorem mss_one {m : MStm} (h1 : MS ca X st m) : MSs ca X [st] m := fun F W tk hp => pss_one (h1 F W tk hp)
theorem ms_pass : MS ca X (.Pass pos) sNil := fun F W tk hp => PS.imp ps_pass fun Dn σ H ⟨ow, env, R, g⟩ => g σ ow H Stp.refl R
def sBk : MStm := fun e => .bk e
def sCt : MStm := fun e => .ct e
theorem ms_break : MS ca X (.Break pos) sBk := fun F W tk hp => PS.imp ps_break fun Dn σ H ⟨ow, env, R, g⟩ => g σ ow H Stp.refl R
theorem ms_continue : MS ca X (.Continue pos) sCt := fun F W tk hp => PS.imp ps_continue fun Dn σ H ⟨ow, env, R, g⟩ => g σ ow H Stp.refl R
/-! ### return -/
def sRet (m : M D) : MStm := xS m fun x e => .rt (.d x) e
def sRetO (m : M Ob) : MStm := xS m fun k e => .rt (.o k) e
theorem ms_ret {m : M D} (h : ME ca X e m) : MS ca X (.Return (some e) pos) (sRet m) := fun F W tk hp => PS.imp (ps_ret (h F W tk)) fun Dn σ H ⟨ow, env, R, g⟩ =>
  go_stm R g fun x e1 v ow1 H1 g1 R1 p1 q1 => q1 v σ ow1 H1 Stp.refl R1 p1
theorem ms_retO {m : M Ob} (h : MO ca X e m) : MS ca X (.Return (some e) pos) (sRetO m) := fun F W tk hp => PS.imp (ps_ret (h F W tk)) fun Dn σ H ⟨ow, env, R, g⟩ =>
  go_stm R g fun x e1 v ow1 H1 g1 R1 ⟨p, ev, n, r, L⟩ q1 => by
    rw [ev]
    exact q1 p σ ow1 H1 Stp.refl R1 r L
theorem ms_retN : MS ca X (.Return none pos) (fun e => .rt (.d .none) e) := fun F W tk hp => PS.imp ps_retN fun Dn σ H ⟨ow, env, R, g⟩ => g .non σ ow H Stp.refl R (by unfold Rp; rfl)
/-- return of a name: its own object goes out fresh, data as data -/
def sRetV (i : Nat) : MStm := fun e => match e[i]? with
  | some (.d x) => .rt (.d x) e
  | some (.o true k) => .rt (.o k) (e.set i .un)
  | _ => .bad
theorem ms_retV (i : Nat) {x : Str} {p : Pos} (hN : X.N[i]? = some x := by rfl) (hv : Vis X.env.scope x := by first | exact Or.inl rfl | exact Or.inr (Or.inl rfl) | exact Or.inr (Or.inr rfl)) (hd : (x == ("__debug__" : Str)) = false := by decide)
    (hcd : (x == ("__classdict__" : Str)) = false := by decide) : MS ca X (.Return (some (.Name x p)) pos) (sRetV i) := fun F W tk hp => PS.imp (ps_ret (pe_var hN hv hd hcd)) fun Dn σ H ⟨ow, env, R, g⟩ => by
  unfold sRetV at g
  split at g
  · rename_i x e
    obtain ⟨v, h1, h2⟩ := R.data e
    exact ⟨v, h1, g v σ ow H Stp.refl R h2⟩
  · rename_i k e
    obtain ⟨q, h1, h2, h3, h4⟩ := R.let_ e
    exact ⟨.ref q, h1, g q σ ow H Stp.refl h3 h2 h4⟩
  · exact g.elim
/-! ### if -/
def sIf (t : M Bool) (m n : MStm) : MStm := xS t fun b => if b = true then m else n
theorem ms_if {p q : List Stmt} {t : M Bool} {m n : MStm} (hc : MT ca X c t) (h1 : MSs ca X p m) (h2 : MSs ca X q n) : MS ca X (.If c p q pos) (sIf t m n) := fun F W tk hp => PS.imp (ps_if (hc F W tk) (h1 F W tk hp) (h2 F W tk hp)) fun Dn σ H ⟨ow, env, R, g⟩ =>
  go_stm R g fun x e1 v ow1 H1 g1 R1 p1 q1 => by
    have p1' : v = x := p1
    subst p1'
    cases v with
    | true => rw [if_pos rfl] at q1 ⊢; exact ⟨ow1, e1, R1, q1⟩
    | false => rw [if_neg Bool.false_ne_true] at q1 ⊢; exact ⟨ow1, e1, R1, q1⟩
/-! ### assignment -/
def sSet (i : Nat) (m : M D) : MStm := xS m fun x e => .nx (e.set i (.d x))
def sSetO (i : Nat) (m : M Ob) : MStm := xS m fun k e => .nx (e.set i (.o true k))
theorem ms_set (i : Nat) {x : Str} {p : Pos} {m : M D} (h : ME ca X e m) (hN : X.N.Nodup) (hi : X.N[i]? = some x := by rfl) (hx : Loc X.env.scope x := by first | exact Or.inl rfl | exact Or.inr rfl) (hf : X.fn x = true ∨ X.env.scope.names.lookup x = some .local := by first | exact .inl rfl | exact .inr rfl)
    (hs : swapsWithSole [.Name x p] e pos.line X.env = pure false := by rfl) : MS ca X (.Assign [.Name x p] e pos) (sSet i m) := fun F W tk hp => PS.imp (ps_set (i := i) hN hi hx (h F W tk) hs hf) fun Dn σ H ⟨ow, env, R, g⟩ =>
  go_stm R g fun x e1 v ow1 H1 g1 R1 p1 q1 => q1 (σ.set i (some v)) ow1 H1 Stp.refl (R1.set p1)
theorem ms_setO (i : Nat) {x : Str} {p : Pos} {m : M Ob} (h : MO ca X e m) (hN : X.N.Nodup) (hi : X.N[i]? = some x := by rfl) (hx : Loc X.env.scope x := by first | exact Or.inl rfl | exact Or.inr rfl) (hf : X.fn x = true ∨ X.env.scope.names.lookup x = some .local := by first | exact .inl rfl | exact .inr rfl)
    (hs : swapsWithSole [.Name x p] e pos.line X.env = pure false := by rfl) : MS ca X (.Assign [.Name x p] e pos) (sSetO i m) := fun F W tk hp => PS.imp (ps_set (i := i) hN hi hx (h F W tk) hs hf) fun Dn σ H ⟨ow, env, R, g⟩ =>
  go_stm R g fun x e1 v ow1 H1 g1 R1 ⟨p, ev, n, r, L⟩ q1 => by
    rw [ev]
    exact q1 (σ.set i (some (.ref p))) ow1 H1 Stp.refl (R1.setO L r)
/-- an expression alone -/
def sDrop (m : M D) : MStm := xS m fun _ e => .nx e
theorem ms_expr {m : M D} (h : ME ca X e m) (hs : swapsWith e none pos.line X.env = pure false := by rfl) : MS ca X (.Expr e pos) (sDrop m) := fun F W tk hp => PS.imp (ps_expr (h F W tk) hs) fun Dn σ H ⟨ow, env, R, g⟩ =>
  go_stm R g fun x e1 v ow1 H1 g1 R1 p1 q1 => q1 σ ow1 H1 Stp.refl R1
end

/-! ### a def's promise, by a plain function of its arguments -/
inductive CR where
  | ok (r : RV) (outs : List Sl)
  | ex (c : Str) (outs : List Sl)
  | bad
@[simp] def argOf : Sl → Sl
  | .o _ k => .o false k
  | s => s
structure ArgsOk (K : PySem.W.Frag) (ca : CA) (ow : Addr → Prop) (H : Hp) (args : List Sl) (vs : List V) : Prop where
  len : args.length = vs.length
  sl : ∀ (i : Nat) (s : Sl) (v : V), args[i]? = some s → vs[i]? = some v → SvR K ca ow H s v
  own : ∀ (i : Nat) (k : Ob), args[i]? ≠ some (.o true k)
  dis : ∀ (i j : Nat) (p : Addr) (k k' : Ob), args[i]? = some (.o false k) → args[j]? = some (.o false k') → vs[i]? = some (.ref p) → vs[j]? = some (.ref p) → i = j
  tab : ∀ q ∈ ca.tb, ow q.1 ∧ TbR ow H q.1 q.2
  knd : Knd ca ow H
def IoA (ca : CA) (args : List Sl) (vs : List V) (a : Addr) : Prop := (∃ (i : Nat) (k : Ob), args[i]? = some (.o false k) ∧ vs[i]? = some (.ref a)) ∨ ∃ q ∈ ca.tb, q.1 = a
structure Kept (ca : CA) (H H' : Hp) (args : List Sl) (vs : List V) : Prop where
  keep : ∀ a o, H a = some o → ¬ IoA ca args vs a → NT o → H' a = some o
  dom : ∀ a, H' a = none → H a = none
def OutsOk (K : PySem.W.Frag) (ca : CA) (ow : Addr → Prop) (H' : Hp) (args : List Sl) (vs : List V) (outs : List Sl) : Prop :=
  (∀ (i : Nat) (k : Ob) (p : Addr), args[i]? = some (.o false k) → vs[i]? = some (.ref p) → ∃ k', outs[i]? = some (.o false k') ∧ OwnR K ca ow H' p k') ∧ ∀ q ∈ ca.tb, TbR ow H' q.1 q.2
def GoC (K : PySem.W.Frag) (ca : CA) (ow : Addr → Prop) (H : Hp) (args : List Sl) (vs : List V) (Q : VK) (E : XK) : CR → Prop
  | .ok (.d x) outs => ∀ v H', Kept ca H H' args vs → OutsOk K ca ow H' args vs outs → Rp K ow H' x v → Q v H'
  | .ok (.o k) outs => ∀ p H', Kept ca H H' args vs → H p = none → (∃ o, H' p = some o) → OutsOk K ca (more ow p) H' args vs outs → OwnR K ca (more ow p) H' p k → Q (.ref p) H'
  | .ex c outs => ∀ H', Kept ca H H' args vs → OutsOk K ca ow H' args vs outs → E (.ref (ca c)) none H'
  | .bad => False
def spM (K : PySem.W.Frag) (ca : CA) (n : Nat) (mf : List Sl → CR) : Sp := fun vs H Q E => ∃ ow args, vs.length = n ∧ ArgsOk K ca ow H args vs ∧ Trk ow H ∧ GoC K ca ow H args vs Q E (mf args)
/-- what is passed to be changed still stands in its slot -/
def ioOk (args e : List Sl) : Bool := (List.range args.length).all fun i => match args[i]? with
  | some (.o _ _) => match e[i]? with
    | some (.o false _) => true
    | _ => false
  | _ => true
/-- what the arguments that may change hold behind it -/
@[simp] def outsOf (args e : List Sl) : List Sl := List.zipWith (fun a s => match a with
  | .o _ _ => s
  | _ => .un) args e
def runBody (n N : Nat) (m : MStm) (args : List Sl) : CR := if args.length = n then match m (args ++ List.replicate (N - n) .un) with
    | .nx e => if ioOk args e = true then .ok (.d .none) (outsOf args e) else .bad
    | .rt r e => if ioOk args e = true then .ok r (outsOf args e) else .bad
    | .ex c e => if ioOk args e = true then .ex c (outsOf args e) else .bad
    | _ => .bad
  else .bad
section
variable {K : PySem.W.Frag} {ca : CA} {ow ow' : Addr → Prop} {H H' : Hp} {args e : List Sl} {vs : List V} {σ : St}
theorem anti (h : ∀ a, ow a → ow' a) : Stp ow' H ow H := fun a o e n _ => ⟨e, fun z => n (h a z)⟩
theorem ArgsOk.rel {N : List Str} (A : ArgsOk K ca ow H args vs) (tr : Trk ow H) (hN : vs.length ≤ N.length) : Rel K ca ⟨H, ow, IoA ca args vs, vs, 0⟩ ow (args ++ List.replicate (N.length - vs.length) .un) (L2.start N vs) H where
  len := by unfold L2.start; simp [A.len]
  sl := fun i s v h1 h2 => by
    by_cases hi : i < args.length
    · rw [List.getElem?_append_left hi] at h1
      unfold L2.start at h2
      rw [List.getElem?_append_left (by simpa using (A.len ▸ hi)), List.getElem?_map] at h2
      cases hv : vs[i]? with
      | none => rw [hv] at h2; cases h2
      | some u =>
        rw [hv] at h2
        cases h2
        have q := A.sl i s u h1 hv
        cases s with
        | un => exact q.elim
        | d x => exact ⟨u, rfl, q⟩
        | o l k =>
          cases l with
          | true => exact absurd h1 (A.own i k)
          | false => obtain ⟨p, rfl, w, r⟩ := q; exact ⟨p, rfl, w, r, .inl ⟨i, k, h1, hv⟩, hv⟩
        | sc ns => obtain ⟨a, rfl, r⟩ := q; exact ⟨a, rfl, r⟩
        | xc => exact q.elim
    · rw [List.getElem?_append_right (by omega), List.getElem?_replicate] at h1
      split at h1
      · cases h1; exact True.intro
      · cases h1
  dis := fun i j p l l' k k' h1 h2 h3 h4 => by
    have at_ : ∀ {i : Nat} {l : Bool} {k : Ob} {p : Addr}, (args ++ List.replicate (N.length - vs.length) Sl.un)[i]? = some (Sl.o l k) → (L2.start N vs)[i]? = some (some (V.ref p)) → args[i]? = some (.o false k) ∧ vs[i]? = some (.ref p) := fun {i l k p} a b => by
      by_cases hi : i < args.length
      · rw [List.getElem?_append_left hi] at a
        unfold L2.start at b
        rw [List.getElem?_append_left (by simpa using (A.len ▸ hi)), List.getElem?_map] at b
        cases hv : vs[i]? with
        | none => rw [hv] at b; cases b
        | some u =>
          rw [hv] at b
          cases b
          cases l with
          | true => exact absurd a (A.own i k)
          | false => exact ⟨a, rfl⟩
      · rw [List.getElem?_append_right (by omega), List.getElem?_replicate] at a
        split at a <;> cases a
    obtain ⟨a1, b1⟩ := at_ h1 h3
    obtain ⟨a2, b2⟩ := at_ h2 h4
    exact A.dis i j p k k' a1 a2 b1 b2
  keep := fun _ _ h _ _ => h
  dom := fun _ h => h
  sub := fun _ h => h
  trk := tr
  knd := A.knd
  tab := fun q hq => let ⟨a, b⟩ := A.tab q hq; ⟨a, .inr ⟨q, hq, rfl⟩, tr _ a, b⟩
theorem outs_of {n : Nat} (R : Rel K ca ⟨H, ow, IoA ca args vs, vs, 0⟩ ow' e σ H') (hn : args.length = n) (io : ioOk args e = true) {w : Addr → Prop} (sub : ∀ a, w a → ow' a) : OutsOk K ca w H' args vs (outsOf args e) := by
  refine ⟨fun i k p h1 h2 => ?_, fun q hq => let ⟨_, _, _, d⟩ := R.tab q hq; d.stp (anti sub) rfl⟩
  have hi : i < args.length := (List.getElem?_eq_some_iff.mp h1).1
  have q := (List.all_eq_true.mp io) i (List.mem_range.mpr hi)
  simp only [h1] at q
  split at q
  · rename_i k' he
    obtain ⟨v, ev, p', rfl, w', r, _, hv⟩ := SlR.at R he
    have hp : some (V.ref p') = some (V.ref p) := hv.symm.trans h2
    cases hp
    exact ⟨k', by unfold outsOf; rw [List.getElem?_zipWith, h1, he], r.stp (anti sub) rfl⟩
  · cases q
theorem Rel.kept (R : Rel K ca ⟨H, ow, IoA ca args vs, vs, 0⟩ ow' e σ H') : Kept ca H H' args vs := ⟨R.keep, R.dom⟩
end
section
variable {P : Program} {w : World} {K : PySem.W.Frag} {mg : Str → Option Value} {base : Heap} {ca : CA}
/-- a def keeps the promise of its body's function -/
theorem fnM {x qual : Str} {st : Stmt} {f : Addr} {fd : FuncData} {N ps : List Str} {k : Nat} {m : MStm} (Fn : Fun K x qual st f fd) (S : FnScope N ps (defScope st)) (hl : ps.length ≤ N.length := by decide)
    (hbody : ∀ (cdv : Value) (A : Around) (outer : List Env) (s : Shared) (H : Hp) (E : XK), Room k (A.deeper (envOfC qual (defScope st) s.heap.objs.size f cdv)) → MSs ca (cxOf (L2.CX P w) P w K mg base N qual (defScope st) f cdv A outer s H E) (defBody st) m) :
    FnOk P w K mg base (L2.CX P w) (k + 1) f fd ps (spM K ca ps.length (runBody ps.length N.length m)) := by
  refine Fn.okX S (fun vs H Q E ⟨_, _, h, _⟩ => h) fun cdv A outer s H vs Q E hr ⟨ow, args, hv, AO, tr, g⟩ => ?_
  have hp : PassesOwn (model P w) (cxOf (L2.CX P w) P w K mg base N qual (defScope st) f cdv A outer s H E).A (cxOf (L2.CX P w) P w K mg base N qual (defScope st) f cdv A outer s H E).env (cxOf (L2.CX P w) P w K mg base N qual (defScope st) f cdv A outer s H E).xe := PassesOwn.leaving
  refine ⟨_, hbody cdv A outer s H E hr ⟨H, ow, IoA ca args vs, vs, 0⟩ (fun cls d _ H => E cls d H) ⟨takes_of rfl rfl rfl rfl, fun a h => by have z := hr.hd; rw [show (A.deeper (envOfC qual (defScope st) s.heap.objs.size f cdv)).handled = some (.ref a) from h] at z; cases z⟩ hp, ?_⟩
  have ha : args.length = ps.length := AO.len.trans hv
  refine ⟨ow, _, AO.rel tr (by omega), ?_⟩
  show GoS K ca _ _ ow H _ _
  unfold runBody at g
  rw [if_pos ha] at g
  rw [← hv] at g
  rw [hv] at g ⊢
  cases hm : m (args ++ List.replicate (N.length - ps.length) .un) with
  | nx e =>
    rw [hm] at g
    dsimp only at g
    by_cases io : ioOk args e = true
    · rw [if_pos io] at g
      exact fun σ' ow' H' s' R' => g .non H' R'.kept (outs_of R' ha io R'.sub) (by unfold Rp; rfl)
    · rw [if_neg io] at g; exact g.elim
  | rt r e =>
    rw [hm] at g
    dsimp only at g
    by_cases io : ioOk args e = true
    · rw [if_pos io] at g
      cases r with
      | d x => exact fun v σ' ow' H' s' R' rp => g v H' R'.kept (outs_of R' ha io R'.sub) (rp.stp (anti R'.sub))
      | o k =>
        intro p σ' ow' H' s' R' ro L
        have sub : ∀ a, more ow p a → ow' a := fun a z => by
          rcases z with z | z
          · exact R'.sub a z
          · rw [z]; exact L.1
        exact g p H' R'.kept L.2.1 ro.there (outs_of R' ha io sub) (ro.stp (anti sub) rfl)
    · rw [if_neg io] at g; exact g.elim
  | ex c e =>
    rw [hm] at g
    dsimp only at g
    by_cases io : ioOk args e = true
    · rw [if_pos io] at g
      exact fun σ' ow' H' s' R' => g H' R'.kept (outs_of R' ha io R'.sub)
    · rw [if_neg io] at g; exact g.elim
  | bk e => rw [hm] at g; exact g.elim
  | ct e => rw [hm] at g; exact g.elim
  | bad => rw [hm] at g; exact g.elim
end
end ML
end

section
set_option Elab.async false
set_option linter.all false
set_option maxRecDepth 100000
set_option maxHeartbeats 2000000
/-! # A call of a def -/
namespace ML
open PySem L2
open PyProof.Rows (envOfC)

/-- which arguments are objects of slots, no slot twice -/
@[simp] def ios (e : List Sl) : List AV → Nat → Option (List (Nat × Nat))
  | [], _ => some []
  | .fr _ :: _, _ => none
  | .d _ :: r, i => ios e r (i + 1)
  | .ref j :: r, i => match e[j]? with
    | some (.o _ _) => match ios e r (i + 1) with
      | some ws => if ws.all (fun w => !decide (w.2 = j)) = true then some ((i, j) :: ws) else none
      | none => none
    | some (.d _) => ios e r (i + 1)
    | some (.sc _) => ios e r (i + 1)
    | _ => none
structure IosOk (e : List Sl) (as : List AV) (n : Nat) (ws : List (Nat × Nat)) : Prop where
  ob : ∀ (i : Nat) (l : Bool) (k : Ob), (contents e as)[i]? = some (.o l k) → ∃ j, (n + i, j) ∈ ws
  nu : ∀ (i : Nat), (contents e as)[i]? ≠ some Sl.un
  mem : ∀ (i j : Nat), (i, j) ∈ ws → n ≤ i ∧ as[i - n]? = some (.ref j) ∧ ∃ l k, e[j]? = some (.o l k)
  inj : ∀ (i i' j : Nat), (i, j) ∈ ws → (i', j) ∈ ws → i = i'
  nd : (ws.map (·.2)).Nodup
theorem IosOk.skip {e : List Sl} {a : AV} {r : List AV} {n : Nat} {ws : List (Nat × Nat)} (no : ∀ l k, content e a ≠ .o l k) (nu : content e a ≠ .un) (h : IosOk e r (n + 1) ws) : IosOk e (a :: r) n ws where
  ob := fun i l k z => by
    cases i with
    | zero => exact absurd (Option.some.inj z) (no l k)
    | succ i =>
      obtain ⟨j, hj⟩ := h.ob i l k z
      exact ⟨j, by rw [show n + (i + 1) = n + 1 + i by omega]; exact hj⟩
  nu := fun i z => by
    cases i with
    | zero => exact absurd (Option.some.inj z) nu
    | succ i => exact h.nu i z
  mem := fun i j m => by
    obtain ⟨h1, h2, h3⟩ := h.mem i j m
    refine ⟨by omega, ?_, h3⟩
    have : i - n = (i - (n + 1)) + 1 := by omega
    rw [this, List.getElem?_cons_succ]; exact h2
  inj := h.inj
  nd := h.nd
theorem IosOk.push {e : List Sl} {j : Nat} {r : List AV} {n : Nat} {ws : List (Nat × Nat)} {l : Bool} {k : Ob} (he : e[j]? = some (.o l k)) (nj : ws.all (fun w => !decide (w.2 = j)) = true) (h : IosOk e r (n + 1) ws) : IosOk e (.ref j :: r) n ((n, j) :: ws) := by
  have nj2 : ∀ i, (i, j) ∉ ws := fun i m => by
    have := List.all_eq_true.mp nj _ m
    simp at this
  have hc : content e (.ref j) = .o l k := by
    have : content e (.ref j) = clean (e.getD j .un) := rfl
    rw [this, List.getD_eq_getElem?_getD, he]; rfl
  refine ⟨fun i l k z => ?_, fun i z => ?_, fun i j' m => ?_, fun i i' j' m m' => ?_, ?_⟩
  · cases i with
    | zero => exact ⟨j, List.mem_cons_self⟩
    | succ i =>
      obtain ⟨j', hj⟩ := h.ob i l k z
      exact ⟨j', by rw [show n + (i + 1) = n + 1 + i by omega]; exact List.mem_cons_of_mem _ hj⟩
  · cases i with
    | zero =>
      have z := Option.some.inj z
      rw [hc] at z; cases z
    | succ i => exact h.nu i z
  · rcases List.mem_cons.mp m with m | m
    · cases m
      exact ⟨Nat.le_refl _, by rw [Nat.sub_self]; rfl, l, k, he⟩
    · obtain ⟨h1, h2, h3⟩ := h.mem i j' m
      refine ⟨by omega, ?_, h3⟩
      have : i - n = (i - (n + 1)) + 1 := by omega
      rw [this, List.getElem?_cons_succ]; exact h2
  · rcases List.mem_cons.mp m with m | m <;> rcases List.mem_cons.mp m' with m' | m'
    · cases m; cases m'; rfl
    · cases m; exact absurd m' (nj2 _)
    · cases m'; exact absurd m (nj2 _)
    · exact h.inj i i' j' m m'
  · rw [List.map_cons, List.nodup_cons]
    refine ⟨fun z => ?_, h.nd⟩
    obtain ⟨w, hw, e2⟩ := List.mem_map.mp z
    have e3 : w.2 = j := e2
    exact nj2 w.1 (by rw [← e3]; exact hw)
theorem ios_ok {e : List Sl} : ∀ {as : List AV} {n : Nat} {ws : List (Nat × Nat)}, ios e as n = some ws → IosOk e as n ws
  | [], n, ws, h => by
    cases h
    exact ⟨fun i l k z => (by simp [contents] at z), fun i z => (by simp [contents] at z), fun i j m => (by cases m), fun i i' j m => (by cases m), List.nodup_nil⟩
  | .fr _ :: _, _, _, h => by cases h
  | .d x :: r, n, ws, h => by
    unfold ios at h
    exact (ios_ok (as := r) h).skip (fun l k z => by cases z) (fun z => by cases z)
  | .ref j :: r, n, ws, h => by
    unfold ios at h
    have hc : content e (.ref j) = clean (e.getD j .un) := rfl
    have go : ∀ {s : Sl}, e[j]? = some s → content e (.ref j) = clean s := fun {s} he => by rw [hc, List.getD_eq_getElem?_getD, he]; rfl
    split at h
    · rename_i l k he
      split at h
      · rename_i ws' hr
        split at h
        · rename_i nj
          cases h
          exact (ios_ok (as := r) hr).push he nj
        · cases h
      · cases h
    · rename_i x he
      exact (ios_ok (as := r) h).skip (fun l k z => by rw [go he] at z; cases z) (fun z => by rw [go he] at z; cases z)
    · rename_i x he
      exact (ios_ok (as := r) h).skip (fun l k z => by rw [go he] at z; cases z) (fun z => by rw [go he] at z; cases z)
    · cases h
theorem ios_none {e : List Sl} {as : List AV} {n : Nat} (h : ios e as n = some []) (i : Nat) (l : Bool) (k : Ob) : (contents e as)[i]? ≠ some (Sl.o l k) ∧ (contents e as)[i]? ≠ some Sl.un :=
  ⟨fun z => (by obtain ⟨j, m⟩ := (ios_ok h).ob i l k z; cases m), (ios_ok h).nu i⟩

/-- the object of slot j holds k from now on -/
@[simp] def setK (e : List Sl) (j : Nat) (k : Ob) : List Sl := match e[j]? with
  | some (.o l _) => e.set j (.o l k)
  | _ => e
@[simp] def outK (e : List Sl) (i j : Nat) (outs : List Sl) : Option (List Sl) := match outs[i]? with
  | some (.o _ k) => some (setK e j k)
  | _ => none
@[simp] def backs (e : List Sl) : List (Nat × Nat) → List Sl → Option (List Sl)
  | [], _ => some e
  | w :: ws, outs => match outK e w.1 w.2 outs with
    | some e' => backs e' ws outs
    | none => none
theorem backs_ok {outs : List Sl} : ∀ {ws : List (Nat × Nat)} {e e' : List Sl}, backs e ws outs = some e' → (ws.map (·.2)).Nodup → (∀ (i j : Nat), (i, j) ∈ ws → ∃ l k, e[j]? = some (.o l k)) →
    e'.length = e.length ∧ ∀ (i : Nat) (s' : Sl), e'[i]? = some s' → (e[i]? = some s' ∧ ∀ i0, (i0, i) ∉ ws) ∨ ∃ (i0 : Nat) (l l2 : Bool) (k k' : Ob), (i0, i) ∈ ws ∧ e[i]? = some (.o l k) ∧ s' = .o l k' ∧ outs[i0]? = some (.o l2 k')
  | [], e, e', h, _, _ => by
    cases h
    exact ⟨rfl, fun i s' h => .inl ⟨h, fun i0 z => by cases z⟩⟩
  | (i0, j) :: ws, e, e', h, nd, at_ => by
    unfold backs at h
    rw [List.map_cons, List.nodup_cons] at nd
    have nj : ∀ i, (i, j) ∉ ws := fun i m => nd.1 (List.mem_map_of_mem (f := (·.2)) m)
    obtain ⟨l, k, he⟩ := at_ i0 j List.mem_cons_self
    have hj : j < e.length := (List.getElem?_eq_some_iff.mp he).1
    split at h
    · rename_i e1 h1
      unfold outK at h1
      split at h1
      · rename_i l' k' ho
        cases h1
        have es : setK e j k' = e.set j (.o l k') := by unfold setK; rw [he]
        rw [es] at h
        obtain ⟨ln, sl⟩ := backs_ok (ws := ws) h nd.2 (fun i j' m => by
          have ne : j ≠ j' := fun z => nj i (z ▸ m)
          rw [List.getElem?_set_ne ne]
          exact at_ i j' (List.mem_cons_of_mem _ m))
        refine ⟨by rw [ln, List.length_set], fun i s' hs => ?_⟩
        by_cases ej : j = i
        · subst ej
          rcases sl j s' hs with ⟨q, _⟩ | ⟨i1, l1, l2, k1, k2, m, _⟩
          · rw [List.getElem?_set_self hj] at q
            cases q
            exact .inr ⟨i0, l, l', k, k', List.mem_cons_self, he, rfl, ho⟩
          · exact absurd m (nj i1)
        · rcases sl i s' hs with ⟨q, nm⟩ | ⟨i1, l1, l2, k1, k2, m, q, e1, e2⟩
          · rw [List.getElem?_set_ne ej] at q
            refine .inl ⟨q, fun i0' z => ?_⟩
            rcases List.mem_cons.mp z with z | z
            · cases z; exact ej rfl
            · exact nm i0' z
          · rw [List.getElem?_set_ne ej] at q
            exact .inr ⟨i1, l1, l2, k1, k2, List.mem_cons_of_mem _ m, q, e1, e2⟩
      · cases h1
    · cases h
def callM (mf : List Sl → CR) (ma : M (List AV)) : M RV := bind ma fun as => fun e => match ios e as 0 with
  | some w => match mf ((contents e as).map argOf) with
    | .ok r outs => match backs e w outs with
      | some e' => .ok r e'
      | none => .bad
    | .ex c outs => match backs e w outs with
      | some e' => .ex c e'
      | none => .bad
    | .bad => .bad
  | none => .bad
@[simp] def rvD : RV → Option D
  | .d x => some x
  | .o k => obD k
@[simp] def rvO : RV → Option Ob
  | .d _ => none
  | .o k => some k
def eCall (mf : List Sl → CR) (ma : M (List AV)) : M D := bind (callM mf ma) fun r => lift (rvD r)
def oCall (mf : List Sl → CR) (ma : M (List AV)) : M Ob := bind (callM mf ma) fun r => lift (rvO r)

section
variable {K : PySem.W.Frag} {ca : CA} {F : Fr} {ow ow' : Addr → Prop} {H H' Hs : Hp} {e : List Sl} {σ : St} {as : List AV} {vs : List V}
theorem SvA.get : ∀ {ss : List Sl} {vs : List V}, SvA K ca ow H ss vs → ss.length = vs.length ∧ ∀ (i : Nat) (s : Sl) (v : V), ss[i]? = some s → vs[i]? = some v → s ≠ .un → SvR K ca ow H s v
  | [], _, h => by
    unfold SvA at h
    subst h
    exact ⟨rfl, fun i s v e => by cases e⟩
  | s :: r, _, h => by
    unfold SvA at h
    obtain ⟨v, us, rfl, h1, t⟩ := h
    obtain ⟨h2, h3⟩ := SvA.get t
    refine ⟨by rw [List.length_cons, List.length_cons, h2], fun i s' v' e1 e2 n => ?_⟩
    cases i with
    | zero => cases e1; cases e2; exact h1 n
    | succ i => exact h3 i s' v' e1 e2 n
theorem AvA.get : ∀ {as : List AV} {vs : List V}, AvA K ca F Hs ow H e σ as vs → as.length = vs.length ∧ ∀ (i : Nat) (a : AV) (v : V), as[i]? = some a → vs[i]? = some v → AvR K ca F ow H e σ a v
  | [], _, h => by
    unfold AvA at h
    subst h
    exact ⟨rfl, fun i s v e => by cases e⟩
  | s :: r, _, h => by
    unfold AvA at h
    obtain ⟨v, us, rfl, h1, _, t⟩ := h
    obtain ⟨h2, h3⟩ := AvA.get t
    refine ⟨by rw [List.length_cons, List.length_cons, h2], fun i s' v' e1 e2 => ?_⟩
    cases i with
    | zero => cases e1; cases e2; exact h1
    | succ i => exact h3 i s' v' e1 e2
theorem argOf_get {ss : List Sl} {i : Nat} {s : Sl} (h : (ss.map argOf)[i]? = some s) : ∃ s0, ss[i]? = some s0 ∧ s = argOf s0 := by
  rw [List.getElem?_map] at h
  obtain ⟨s0, h1, h2⟩ := Option.map_eq_some_iff.mp h
  exact ⟨s0, h1, h2.symm⟩
theorem argsOk (R : Rel K ca F ow e σ H) (p : AvA K ca F Hs ow H e σ as vs) {w : List (Nat × Nat)} (hi : ios e as 0 = some w) : ArgsOk K ca ow H ((contents e as).map argOf) vs := by
  obtain ⟨l1, s1⟩ := (AvA.sv R p).get
  have io := ios_ok hi
  have nu : ∀ (i : Nat), (contents e as)[i]? ≠ some Sl.un := io.nu
  obtain ⟨_, ag⟩ := p.get
  refine ⟨by rw [List.length_map]; exact l1, fun i s v h1 h2 => ?_, fun i k z => ?_, fun i j p k k' h1 h2 h3 h4 => ?_, fun q hq => let ⟨a, _, _, d⟩ := R.tab q hq; ⟨a, d⟩, R.knd⟩
  · obtain ⟨s0, e0, rfl⟩ := argOf_get h1
    have q := s1 i s0 v e0 h2 (fun z => nu i (z ▸ e0))
    cases s0 with
    | un => exact absurd e0 (nu i)
    | d x => exact q
    | o l k => exact q
    | sc ns => exact q
    | xc => exact q.elim
  · obtain ⟨s0, e0, e1⟩ := argOf_get z
    cases s0 <;> cases e1
  · obtain ⟨s0, e0, e1⟩ := argOf_get h1
    obtain ⟨s2, e2, e3⟩ := argOf_get h2
    cases s0 with
    | o l k0 =>
      cases s2 with
      | o l2 k2 =>
        obtain ⟨a, ma⟩ := io.ob i l k0 e0
        obtain ⟨b, mb⟩ := io.ob j l2 k2 e2
        rw [Nat.zero_add] at ma mb
        obtain ⟨_, a2, l3, k3, a3⟩ := io.mem _ _ ma
        obtain ⟨_, b2, l4, k4, b3⟩ := io.mem _ _ mb
        rw [Nat.sub_zero] at a2 b2
        have σa : σ[a]? = some (some (.ref p)) := ag i (.ref a) _ a2 h3
        have σb : σ[b]? = some (some (.ref p)) := ag j (.ref b) _ b2 h4
        have ab := R.dis a b p _ _ _ _ a3 b3 σa σb
        subst ab
        exact io.inj _ _ _ ma mb
      | _ => cases e3
    | _ => cases e1
theorem ntI {a : Addr} {o : HO} (h : H a = some o) (n : ¬ IsT (H a)) : NT o := fun ps z => n ⟨ps, by rw [h, z]⟩
theorem setK_len {j : Nat} {k : Ob} : (setK e j k).length = e.length := by
  unfold setK
  split
  · rw [List.length_set]
  · rfl
/-- behind a call: the slots -/
theorem Rel.called (R : Rel K ca F ow e σ H) (p : AvA K ca F Hs ow H e σ as vs) {w : List (Nat × Nat)} (hi : ios e as 0 = some w) (kp : Kept ca H H' ((contents e as).map argOf) vs) {outs e' : List Sl} (hb : backs e w outs = some e')
    (sub : ∀ a, ow a → ow' a) (new : ∀ a, ow' a → ow a ∨ H a = none) (trk : Trk ow' H') (newM : ∀ a, ow' a → ¬ ow a → MutO (H' a)) (oo : OutsOk K ca ow' H' ((contents e as).map argOf) vs outs) :
    Rel K ca F ow' e' σ H' ∧ Go σ ow e H ow' e' H' := by
  have io_ow : ∀ a, IoA ca ((contents e as).map argOf) vs a → ow a := fun a z => by
    rcases z with ⟨i, k, h1, h2⟩ | ⟨q, hq, rfl⟩
    · obtain ⟨q, w1, w2, _⟩ := (argsOk R p hi).sl i _ _ h1 h2
      cases w1; exact w2
    · exact (R.tab q hq).1
  have nT : ∀ {a : Addr}, ¬ IsT (H a) → ¬ ∃ q ∈ ca.tb, q.1 = a := fun {a} n ⟨q, hq, e⟩ => by
    obtain ⟨ps, h⟩ := (R.tab q hq).2.2.2.tbl
    exact n ⟨ps, by rw [← e]; exact h⟩
  have st : Stp ow H ow' H' := fun a o h n nt => ⟨kp.keep a o h (fun z => n (io_ow a z)) nt, fun z => by
    rcases new a z with z | z
    · exact n z
    · rw [z] at h; cases h⟩
  have knd : Knd ca ow' H' := fun a z => by
    by_cases w0 : ow a
    · refine (R.knd a w0).imp id fun m => ?_
      by_cases io : ∃ (i : Nat) (k : Ob), ((contents e as).map argOf)[i]? = some (.o false k) ∧ vs[i]? = some (.ref a)
      · obtain ⟨i, k, h1, h2⟩ := io
        obtain ⟨k', _, ro⟩ := oo.1 i k a h1 h2
        exact ro.mutO
      · obtain ⟨u, hu⟩ := m.there
        rw [hu] at m
        rw [kp.keep a u hu (fun z => z.elim io fun ⟨q, hq, e⟩ => (by obtain ⟨ps, h⟩ := (R.tab q hq).2.2.2.tbl; rw [e, hu] at h; exact m.nt ps (Option.some.inj h))) m.nt]
        exact m
    · exact .inr (newM a z w0)
  have io := ios_ok hi
  obtain ⟨al, ag⟩ := p.get
  have at_ : ∀ (i0 j : Nat), (i0, j) ∈ w → ∃ l k q, e[j]? = some (.o l k) ∧ σ[j]? = some (some (.ref q)) ∧ vs[i0]? = some (.ref q) ∧ ((contents e as).map argOf)[i0]? = some (.o false k) := fun i0 j m => by
    obtain ⟨_, h2, l, k, he⟩ := io.mem i0 j m
    rw [Nat.sub_zero] at h2
    have hlt : i0 < vs.length := by rw [← al]; exact (List.getElem?_eq_some_iff.mp h2).1
    have hv0 : vs[i0]? = some vs[i0] := List.getElem?_eq_getElem hlt
    have hσ : σ[j]? = some (some vs[i0]) := ag i0 (.ref j) _ h2 hv0
    obtain ⟨q, hq, wq, rq⟩ := R.own he
    rw [hσ] at hq
    have hvq : vs[i0] = .ref q := Option.some.inj (Option.some.inj hq)
    rw [hvq] at hσ hv0
    refine ⟨l, k, q, he, hσ, hv0, ?_⟩
    rw [List.getElem?_map, contents, List.getElem?_map, h2]
    show some (argOf (clean (e.getD j .un))) = _
    rw [List.getD_eq_getElem?_getD, he]; rfl
  have ioq : ∀ a, IoA ca ((contents e as).map argOf) vs a → (∃ i0 j, (i0, j) ∈ w ∧ σ[j]? = some (some (.ref a))) ∨ ∃ q ∈ ca.tb, q.1 = a := fun a z => by
    rcases z with ⟨i, k1, e1, e2⟩ | z
    · obtain ⟨s0, e0, e3⟩ := argOf_get e1
      cases s0 with
      | o l1 k0 =>
        obtain ⟨j, m⟩ := io.ob i l1 k0 e0
        rw [Nat.zero_add] at m
        obtain ⟨l, k, q, _, hσ, hv, _⟩ := at_ i j m
        rw [hv] at e2
        cases e2
        exact .inl ⟨i, j, m, hσ⟩
      | _ => cases e3
    · exact .inr z
  have keepq : ∀ a o, H a = some o → (¬ ∃ i0 j, (i0, j) ∈ w ∧ σ[j]? = some (some (.ref a))) → (¬ ∃ q ∈ ca.tb, q.1 = a) → NT o → H' a = some o := fun a o h n nt t => kp.keep a o h (fun z => (ioq a z).elim n nt) t
  obtain ⟨ln, sl⟩ := backs_ok hb io.nd fun i j m => (io.mem i j m).2.2
  refine ⟨R.step ln (fun i s' h => ?_) st sub trk knd (fun a o h n nt => ?_) kp.dom oo.2, st, fun q' wq' nt n => ?_, kp.dom⟩
  · rcases sl i s' h with ⟨h, nm⟩ | ⟨i0, l, l2, k, k', m, he, rfl, ho⟩
    · refine .inl ⟨h, fun l1 k1 p1 hs hp => ?_⟩
      subst hs
      obtain ⟨q1, eq1, wq1, rq1⟩ := R.own h
      rw [hp] at eq1
      cases eq1
      obtain ⟨u, hu⟩ := rq1.there
      rw [keepq p1 u hu (fun ⟨i0, j, m, hσ⟩ => by
        obtain ⟨l, k, q, he, _⟩ := at_ i0 j m
        have := R.dis j i p1 _ _ _ _ he h hσ hp
        subst this
        exact nm i0 m) (nT rq1.noT) (ntI hu rq1.noT), hu]
    · obtain ⟨l3, k3, q, he3, hσ, hv, hc⟩ := at_ i0 i m
      rw [he] at he3
      cases he3
      obtain ⟨k2, ho2, ro⟩ := oo.1 i0 k q hc hv
      rw [ho] at ho2
      cases ho2
      exact .inr ⟨l, k, k', q, he, rfl, hσ, ro⟩
  · refine keepq a o (R.keep a o h n nt) (fun ⟨i0, j, m, hσ⟩ => ?_) (fun ⟨q, hq, e⟩ => n (by rw [← e]; exact (R.tab q hq).2.1)) nt
    obtain ⟨l, k, q, he, hσ2, _⟩ := at_ i0 j m
    have qq := R.sl j _ _ he hσ
    cases l with
    | true => obtain ⟨p', e', _, _, c, _⟩ := qq; cases e'; rw [c] at h; cases h
    | false => obtain ⟨p', e', _, _, c, _⟩ := qq; cases e'; exact n c
  · obtain ⟨u, hu⟩ := R.trk q' wq'
    refine ⟨sub q' wq', by rw [keepq q' u hu (fun ⟨i0, j, m, hσ⟩ => by
      obtain ⟨l, k, q, he, _⟩ := at_ i0 j m
      exact n ⟨j, l, k, he, hσ⟩) (nT nt) (ntI hu nt), hu], fun ⟨i, l1, k1, a1, a2⟩ => ?_⟩
    rcases sl i _ a1 with ⟨h, _⟩ | ⟨_, l, _, k, _, _, he, _⟩
    · exact n ⟨i, l1, k1, h, a2⟩
    · exact n ⟨i, l, k, he, a2⟩
end

/-- what is known of a def of the program: its name, its promise, how deep it calls -/
structure Cal (P : Program) (w : World) (K : PySem.W.Frag) (mg : Str → Option Value) (base : Heap) (ca : CA) (k : Nat) (x : Str) (n : Nat) (mf : List Sl → CR) : Prop where
  ex : ∃ (f : Addr) (fd : FuncData) (ps : List Str), mg x = some (.ref f) ∧ PySem.W.keepIn K (.ref f) = true ∧ Binds K fd ps [] ∧ FnOk P w K mg base (L2.CX P w) k f fd ps (spM K ca n mf)
theorem Cal.mono {P : Program} {w : World} {K : PySem.W.Frag} {mg : Str → Option Value} {base : Heap} {ca : CA} {j k : Nat} {x : Str} {n : Nat} {mf : List Sl → CR} (c : Cal P w K mg base ca j x n mf) (h : j ≤ k) : Cal P w K mg base ca k x n mf := by
  obtain ⟨f, fd, ps, a, b, c, d⟩ := c.ex
  exact ⟨f, fd, ps, a, b, c, d.mono h⟩

def PR (K : PySem.W.Frag) (ca : CA) (F : Fr) : PP RV V := fun r v H0 ow H e σ => match r with
  | .d x => Rp K ow H x v
  | .o k => PO_ K ca F k v H0 ow H e σ
def MC (ca : CA) (X : Cx) (e : Expr) (m : M RV) : Prop := ∀ F W, Tk X F W → PE X e (tG X.K ca F W (PR X.K ca F) m)
section
variable {ca : CA} {X : Cx} {pos : Pos} {e a b c : Expr} {es : List Expr}
theorem go_called {F : Fr} {W : WX} {mf : List Sl → CR} {as : List AV} {e : List Sl} {vs : List V} {ow : Addr → Prop} {H Hs : Hp} {Hs' : Hp} {σ : St} {Q : VK} {n : Nat} (R : Rel X.K ca F ow e σ H) (p : AvA X.K ca F Hs' ow H e σ as vs) (hn : vs.length = n) (d : ∀ x, H x = none → Hs x = none)
    (g : GoG X.K ca F W (PR X.K ca F) Hs ow e H σ Q ((fun e => match ios e as 0 with
      | some w => match mf ((contents e as).map argOf) with
        | .ok r outs => match backs e w outs with
          | some e' => .ok r e'
          | none => .bad
        | .ex c outs => match backs e w outs with
          | some e' => .ex c e'
          | none => .bad
        | .bad => .bad
      | none => .bad : M RV) e)) : spM X.K ca n mf vs H Q (fun cls dx H => W cls dx σ H) := by
  dsimp only at g
  cases hi : ios e as 0 with
  | none => rw [hi] at g; exact g.elim
  | some w =>
    rw [hi] at g
    dsimp only at g
    refine ⟨ow, _, hn, argsOk R p hi, R.trk, ?_⟩
    cases hm : mf ((contents e as).map argOf) with
    | bad => rw [hm] at g; exact g.elim
    | ok r outs =>
      rw [hm] at g
      dsimp only at g
      cases hb : backs e w outs with
      | none => rw [hb] at g; exact g.elim
      | some e' =>
        rw [hb] at g
        cases r with
        | d x =>
          intro v H' kp oo rp
          have tr : Trk ow H' := fun a z => by
            cases hh : H' a with
            | some o => exact ⟨o, rfl⟩
            | none =>
              obtain ⟨u, hu⟩ := R.trk a z
              rw [kp.dom a hh] at hu; cases hu
          obtain ⟨R', g'⟩ := R.called p hi kp hb (fun _ z => z) (fun _ z => .inl z) tr (fun _ z n => absurd z n) oo
          exact g v ow H' g' R' rp
        | o k =>
          intro q H' kp hq hq' oo ro
          have tr : Trk (more ow q) H' := fun a z => by
            rcases z with z | z
            · cases hh : H' a with
              | some o => exact ⟨o, rfl⟩
              | none =>
                obtain ⟨u, hu⟩ := R.trk a z
                rw [kp.dom a hh] at hu; cases hu
            · rw [z]; exact hq'
          obtain ⟨R', g'⟩ := R.called p hi kp hb (fun _ z => .inl z) (fun a z => by
            rcases z with z | z
            · exact .inl z
            · rw [z]; exact .inr hq) tr (fun a z n => by
            rcases z with z | z
            · exact absurd z n
            · rw [z]; exact ro.mutO) oo
          refine g (.ref q) (more ow q) H' g' R' ⟨q, rfl, d q hq, ro, loose_of (.inr rfl) (R.dom q hq) (fun z => R.free hq (R.sub q z)) fun ⟨i, l, k1, a1, a2⟩ => ?_⟩
          have hh : Held e σ q := by
            have io := ios_ok hi
            rcases (backs_ok hb io.nd fun i j m => (io.mem i j m).2.2).2 i _ a1 with ⟨h, _⟩ | ⟨_, l2, _, k2, _, _, he, _⟩
            · exact ⟨i, l, k1, h, a2⟩
            · exact ⟨i, l2, k2, he, a2⟩
          obtain ⟨i, l, k1, a1, a2⟩ := hh
          obtain ⟨q2, eq2, w2, r2⟩ := R.own a1
          rw [a2] at eq2
          cases eq2
          obtain ⟨u, hu⟩ := r2.there
          rw [hq] at hu; cases hu
    | ex c outs =>
      rw [hm] at g
      dsimp only at g
      cases hb : backs e w outs with
      | none => rw [hb] at g; exact g.elim
      | some e' =>
        rw [hb] at g
        intro H' kp oo
        have tr : Trk ow H' := fun a z => by
          cases hh : H' a with
          | some o => exact ⟨o, rfl⟩
          | none =>
            obtain ⟨u, hu⟩ := R.trk a z
            rw [kp.dom a hh] at hu; cases hu
        obtain ⟨R', g'⟩ := R.called p hi kp hb (fun _ z => z) (fun _ z => .inl z) tr (fun _ z n => absurd z n) oo
        exact g ow H' g' R'
theorem mc_call {k n : Nat} {x : Str} {p : Pos} {mf : List Sl → CR} {m : M (List AV)} (c : Cal X.prog X.w X.K X.mg X.base ca k x n mf) (hr : Room k X.A) (ha : MA ca X (e :: es) m) (hn : (e :: es).length = n := by rfl) (hg : Gl X x := by rfl)
    (hdb : (x == ("__debug__" : Str)) = false := by decide) (he : starEach (e :: es) X.env = (false, eval e X.env) :: starEach es X.env := by rfl) (hpl : (backTo pos (starEach es X.env)).any (·.1) = false := by rfl)
    (hlen : ∀ env as e', m env = .ok as e' → as.length = n) : MC ca X (.Call (.Name x p) (e :: es) [] pos) (callM mf m) := fun F W tk => by
  obtain ⟨f, fd, ps, hm, hk, hb, fn⟩ := c.ex
  refine PE.imp (pe_callS fn hr hg hm hk hb (fun σ => passAt tk.t σ) (ha F W tk) hdb he hpl) fun σ H Q ⟨ow, env, R, g⟩ => ?_
  refine ⟨ow, env, R, ?_⟩
  unfold callM bind at g
  cases hm' : m env with
  | ok as e1 =>
    rw [hm'] at g
    rintro vs ow1 H1 g1 R1 p1
    exact go_called R1 p1 (by rw [← (AvA.get p1).1]; exact hlen _ _ _ hm') (fun x h => g1.dom x h) (g.mono g1)
  | ex c e => rw [hm'] at g; exact g
  | bad => rw [hm'] at g; exact g
theorem me_c {m : M RV} (h : MC ca X e m) : ME ca X e (bind m fun r => lift (rvD r)) := fun F W tk => PE.imp (h F W tk) fun σ H Q ⟨ow, env, R, g⟩ => by
  refine ⟨ow, env, R, ?_⟩
  unfold bind at g
  cases hm : m env with
  | ok r e =>
    rw [hm] at g
    rintro v ow1 H1 g1 R1 p1
    cases r with
    | d x => exact g v ow1 H1 g1 R1 p1
    | o k =>
      obtain ⟨p, rfl, n, ro, L⟩ := p1
      cases hk : obD k with
      | none => simp only [lift, rvD, hk] at g; exact g.elim
      | some d =>
        simp only [lift, rvD, hk] at g
        refine g (.ref p) (less ow1 p) H1 ⟨g1.stp.trans stp_less, fun q w nt nh => ?_, g1.dom⟩ (R1.loose L) (L.data ro hk)
        obtain ⟨w1, h1, n1⟩ := g1.lo q w nt nh
        refine ⟨⟨w1, fun z => ?_⟩, h1, n1⟩
        obtain ⟨u, hu⟩ := R.trk q w
        rw [z, n] at hu
        cases hu
  | ex c e => rw [hm] at g; exact g
  | bad => rw [hm] at g; exact g
theorem mo_c {m : M RV} (h : MC ca X e m) : MO ca X e (bind m fun r => lift (rvO r)) := fun F W tk => PE.imp (h F W tk) fun σ H Q ⟨ow, env, R, g⟩ => by
  refine ⟨ow, env, R, ?_⟩
  unfold bind at g
  cases hm : m env with
  | ok r e =>
    rw [hm] at g
    rintro v ow1 H1 g1 R1 p1
    cases r with
    | d x => exact g.elim
    | o k => exact g v ow1 H1 g1 R1 p1
  | ex c e => rw [hm] at g; exact g
  | bad => rw [hm] at g; exact g
end
/-- how many arguments come -/
def Len (m : M (List AV)) (n : Nat) : Prop := ∀ env as e', m env = .ok as e' → as.length = n
theorem len_nil : Len aNil 0 := fun env as e' h => by cases h; rfl
theorem len_d {m : M D} {r : M (List AV)} {n : Nat} (h : Len r n) : Len (aD m r) (n + 1) := fun env as e' q => by
  simp only [aD, bind] at q
  split at q
  · rename_i a e1 h1
    split at q
    · rename_i xs e2 h2
      cases q
      rw [List.length_cons, h _ _ _ h2]
    · cases q
    · cases q
  · cases q
  · cases q
theorem len_r {i : Nat} {r : M (List AV)} {n : Nat} (h : Len r n) : Len (aR i r) (n + 1) := fun env as e' q => by
  simp only [aR, bind] at q
  split at q
  · rename_i a e1 h1
    split at q
    · rename_i xs e2 h2
      cases q
      rw [List.length_cons, h _ _ _ h2]
    · cases q
    · cases q
  · cases q
  · cases q
end ML
end

section
set_option Elab.async false
set_option linter.all false
set_option maxRecDepth 100000
set_option maxHeartbeats 2000000
/-! # Targets, what is walked, loops, comprehensions -/
namespace ML
open PySem L2

/-- a target's function: the slots behind it -/
abbrev GF := D → List Sl → Option (List Sl)
def tGt (K : PySem.W.Frag) (ca : CA) (F : Fr) (js : List Nat) (g : GF) : TG := fun v σ H Q => ∃ ow env d env', Rel K ca F ow env σ H ∧ Rp K ow H d v ∧ g d env = some env' ∧
  ∀ σ', σ'.length = σ.length → (∀ i, i ∉ js → σ'[i]? = σ[i]?) → Rel K ca F ow env' σ' H → (∀ p, Held env' σ' p → Held env σ p) → Q σ' H
def MG (ca : CA) (X : Cx) (tg : Expr) (js : List Nat) (g : GF) : Prop := ∀ F, PG X tg (tGt X.K ca F js g)
def tGs (K : PySem.W.Frag) (ca : CA) (F : Fr) (js : List Nat) (g : List D → List Sl → Option (List Sl)) : TGs := fun vs σ H Q => ∃ ow env ds env', Rel K ca F ow env σ H ∧ RpA K ow H ds vs ∧ g ds env = some env' ∧
  ∀ σ', σ'.length = σ.length → (∀ i, i ∉ js → σ'[i]? = σ[i]?) → Rel K ca F ow env' σ' H → (∀ p, Held env' σ' p → Held env σ p) → Q σ' H
def MGs (ca : CA) (X : Cx) (tg : List Expr) (js : List Nat) (g : List D → List Sl → Option (List Sl)) : Prop := ∀ F, PGs X tg (tGs X.K ca F js g)
theorem PG.imp {X : Cx} {tg : Expr} {t t' : TG} (h : PG X tg t) (k : ∀ v σ H Q, t' v σ H Q → t v σ H Q) : PG X tg t' := ⟨fun pins s σ H v u Q I r q => h.run pins s σ H v u Q I r (k _ _ _ _ q)⟩
theorem PGs.imp {X : Cx} {tg : List Expr} {t t' : TGs} (h : PGs X tg t) (k : ∀ v σ H Q, t' v σ H Q → t v σ H Q) : PGs X tg t' := ⟨fun pins s σ H v u Q I r q => h.run pins s σ H v u Q I r (k _ _ _ _ q)⟩
def gN (i : Nat) : GF := fun d e => some (e.set i (.d d))
@[simp] def gNil : List D → List Sl → Option (List Sl) := fun ds e => match ds with
  | [] => some e
  | _ => none
@[simp] def gCons (g : GF) (r : List D → List Sl → Option (List Sl)) : List D → List Sl → Option (List Sl) := fun ds e => match ds with
  | d :: ds => (g d e).bind (r ds)
  | [] => none
@[simp] def gT (g : List D → List Sl → Option (List Sl)) : GF := fun d e => match d with
  | .tuple ds => g ds e
  | _ => none
theorem held_setD {env : List Sl} {σ : St} {i : Nat} {x : D} {u : Option V} {p : Addr} (h : Held (env.set i (.d x)) (σ.set i u) p) : Held env σ p := by
  obtain ⟨j, l, k, h1, h2⟩ := h
  by_cases e : i = j
  · subst e
    by_cases hl : i < env.length
    · rw [List.getElem?_set_self hl] at h1; cases h1
    · rw [List.getElem?_eq_none (by simpa using hl)] at h1; cases h1
  · rw [List.getElem?_set_ne e] at h1 h2
    exact ⟨j, l, k, h1, h2⟩
section
variable {ca : CA} {X : Cx} {pos : Pos} {e : Expr} {es : List Expr}
theorem mg_name (i : Nat) {x : Str} (hN : X.N.Nodup) (hi : X.N[i]? = some x := by rfl) (hx : Loc X.env.scope x := by first | exact Or.inl rfl | exact Or.inr rfl) (hf : X.fn x = true ∨ X.env.scope.names.lookup x = some .local := by first | exact .inl rfl | exact .inr rfl) : MG ca X (.Name x pos) [i] (gN i) := fun F =>
  PG.imp (pg_name hN hi hx hf) fun v σ H Q ⟨ow, env, d, env', R, rp, hg, q⟩ => by
    cases hg
    exact q _ (by rw [List.length_set]) (fun j hj => List.getElem?_set_ne (fun z => hj (by simp [z]))) (R.set rp) fun p h => held_setD h
theorem mgs_nil : MGs ca X [] [] gNil := fun F => PGs.imp pgs_nil fun vs σ H Q ⟨ow, env, ds, env', R, rp, hg, q⟩ => by
  cases ds with
  | nil =>
    cases hg
    unfold RpA at rp
    exact ⟨rp, q σ rfl (fun _ _ => rfl) R fun _ h => h⟩
  | cons d ds => cases hg
theorem mgs_cons {js ks : List Nat} {g : GF} {r : List D → List Sl → Option (List Sl)} (h : MG ca X e js g) (hr : MGs ca X es ks r) (hs : (assignEach (e :: es) X.env).map (·.2) = assign e X.env :: (assignEach es X.env).map (·.2) := by rfl) : MGs ca X (e :: es) (js ++ ks) (gCons g r) := fun F =>
  PGs.imp (pgs_cons (h F) (hr F) hs) fun vs σ H Q ⟨ow, env, ds, env', R, rp, hg, q⟩ => by
    cases ds with
    | nil => cases hg
    | cons d ds =>
      unfold RpA at rp
      obtain ⟨v, us, rfl, rp1, rp2⟩ := rp
      obtain ⟨e1, h1, h2⟩ := Option.bind_eq_some_iff.mp hg
      refine ⟨v, us, rfl, ow, env, d, e1, R, rp1, h1, fun σ1 l1 f1 R1 k1 => ⟨ow, e1, ds, env', R1, rp2, h2, fun σ2 l2 f2 R2 k2 => ?_⟩⟩
      exact q σ2 (l2.trans l1) (fun i hi => (f2 i fun z => hi (List.mem_append_right _ z)).trans (f1 i fun z => hi (List.mem_append_left _ z))) R2 fun p hp => k1 p (k2 p hp)
theorem gCons_len {n : Nat} {g : GF} {r : List D → List Sl → Option (List Sl)} (hr : ∀ ds e e', r ds e = some e' → ds.length = n) : ∀ ds e e', gCons g r ds e = some e' → ds.length = n + 1 := fun ds e e' h => by
  cases ds with
  | nil => cases h
  | cons d ds =>
    obtain ⟨e1, h1, h2⟩ := Option.bind_eq_some_iff.mp h
    rw [List.length_cons, hr _ _ _ h2]
theorem gNil_len : ∀ ds e e', gNil ds e = some e' → ds.length = 0 := fun ds e e' h => by
  cases ds with
  | nil => rfl
  | cons d ds => cases h
theorem mg_tup {k : Nat} {js : List Nat} {g : List D → List Sl → Option (List Sl)} {n : Nat} (h : MGs ca X es js g) (hl : ∀ ds e e', g ds e = some e' → ds.length = n) (hc : X.calm = true := by rfl)
    (hn : (assignEach es X.env).length = n := by rfl) (hst : (assignEach es X.env).findIdx? (·.1) = none := by rfl) : MG ca X (.Tuple es k pos) js (gT g) := fun F =>
  PG.imp (pg_tup hc (h F) hn hst) fun v σ H Q ⟨ow, env, d, env', R, rp, hg, q⟩ => by
    cases d with
    | tuple ds =>
      unfold Rp at rp
      obtain ⟨a, xs, rfl, ht, ra⟩ := rp
      exact ⟨a, xs, rfl, ht.sq, by rw [← ra.length]; exact hl _ _ _ hg, ow, env, ds, env', R, ra, hg, q⟩
    | _ => cases hg
end

/-- a walk over ds: what it leans on stays, each turn brings the next -/
def Wk (K : PySem.W.Frag) (J : It) (ds : List D) (ow : Addr → Prop) (H : Hp) : Prop :=
  ∃ inv : (Addr → Prop) → Hp → Prop, inv ow H ∧ (∀ ow1 H1 ow2 H2, Stp ow1 H1 ow2 H2 → inv ow1 H1 → inv ow2 H2) ∧
    (∀ i ow H, inv ow H → Trk ow H → i < ds.length → J.go i H ∧ ∀ x H', J.yld i H x H' → Gr H H' ∧ ∀ d, ds[i]? = some d → Rp K ow H' d x) ∧ (∀ i ow H, inv ow H → ds.length ≤ i → J.stop i H)
def tI_ (K : PySem.W.Frag) (ca : CA) (F : Fr) (W : WX) (m : M (List D)) : TI := fun σ H R => ∃ ow env, Rel K ca F ow env σ H ∧ match m env with
  | .ok ds e => ∀ J ow' H', Go σ ow env H ow' e H' → Rel K ca F ow' e σ H' → Wk K J ds ow' H' → R J H'
  | .ex c e => ∀ ow' H', Go σ ow env H ow' e H' → Rel K ca F ow' e σ H' → WSat ca W c σ H'
  | .bad => False
def MI (ca : CA) (X : Cx) (tg iter : Expr) (m : M (List D)) : Prop := ∀ F W, Tk X F W → PI X tg iter (tI_ X.K ca F W m)
theorem PI.imp {X : Cx} {tg iter : Expr} {t t' : TI} (h : PI X tg iter t) (k : ∀ σ H R, t' σ H R → t σ H R) : PI X tg iter t' := ⟨fun pins s σ H R I q => h.run pins s σ H R I (k _ _ _ q)⟩
/-- a value of any kind that is walked -/
def iAny (K : PySem.W.Frag) (te : TE) : TI := fun σ H R => te σ H fun x H1 => (∃ a, x = .ref a ∧ (∃ xs, SqL K H1 a xs) ∧ R (Itl K a) H1) ∨ (∃ a, x = .ref a ∧ (∃ xs, SqT K H1 a xs) ∧ R (Itt K a) H1) ∨ (∃ z, x = .str z ∧ R (Its z) H1)
theorem pi_any {X : Cx} {tg l : Expr} {tl : TE} (hl : PE X l tl) : PI X tg l (iAny X.K tl) := by
  refine ⟨fun pins s σ H R I h => ?_⟩
  refine thn (hl.run pins s σ H _ I h) fun v s1 ⟨x, H1, I1, r1, q1⟩ => ?_
  rcases q1 with ⟨a, e, ⟨xs, hq⟩, q⟩ | ⟨a, e, ⟨xs, hq⟩, q⟩ | ⟨z, e, q⟩
  · subst e
    cases r1
    obtain ⟨its, rv, p, hz⟩ := I1.list hq
    refine PySem.wpAny_pyIter_list p.isList ?_
    refine ⟨s1.heap.objs.size, [s1.heap.objs.size], _, _, H1, rfl, I1.kept (t' := s1.toks) fun b o e => Heap.get?_push_of_some _ e, turn_list a _, ⟨_, Heap.get?_push_size _ rfl, rfl, rfl⟩, fun b hb => ?_, q⟩
    have e : b = s1.heap.objs.size := by simpa using hb
    subst e
    exact I1.fpOk (Nat.le_refl _) (I1.hok.fresh (Nat.le_refl _))
  · subst e
    cases r1
    obtain ⟨its, rv, p, hz⟩ := I1.tuple hq
    refine PySem.wpAny_pyIter_tuple (show s1.heap.IsTuple a its.toArray from p) ?_
    refine ⟨s1.heap.objs.size, [s1.heap.objs.size], _, _, H1, rfl, I1.kept (t' := s1.toks) fun b o e => Heap.get?_push_of_some _ e, turn_tuple a _, ⟨_, Heap.get?_push_size _ rfl, rfl, rfl⟩, fun b hb => ?_, q⟩
    have e : b = s1.heap.objs.size := by simpa using hb
    subst e
    exact I1.fpOk (Nat.le_refl _) (I1.hok.fresh (Nat.le_refl _))
  · have h2 : PIE X pins σ tg R = PIE X pins σ tg R := rfl
    subst e
    obtain ⟨t, rfl⟩ := r1
    cases ha : z.cps.all (· < 128)
    · exact wpAny_pyIter_wide ha (pi_one (tk := s1.toks) I1 _ (turn_str _ z t "str_iterator" (.inr rfl)) ⟨_, Heap.get?_push_size _ rfl, rfl, rfl⟩ q)
    · exact wpAny_pyIter_ascii ha (pi_one (tk := s1.toks) I1 _ (turn_str _ z t "str_ascii_iterator" (.inl rfl)) ⟨_, Heap.get?_push_size _ rfl, rfl, rfl⟩ q)
/-- one sign -/
def sign (c : Nat) : Str := ⟨#[c]⟩
@[simp] def dItems : D → Option (List D)
  | .list xs => some xs
  | .tuple xs => some xs
  | .str z => some (z.cps.toList.map fun c => .str (sign c))
  | _ => none
def iD (m : M D) : M (List D) := bind m fun x => lift (dItems x)
theorem RpA.get {K : PySem.W.Frag} {ow : Addr → Prop} {H : Hp} : ∀ {ds : List D} {xs : List V}, RpA K ow H ds xs → ∀ {i : Nat} {d : D} {x : V}, ds[i]? = some d → xs[i]? = some x → Rp K ow H d x
  | [], _, _, i, d, x, h, _ => by cases h
  | a :: r, _, h, i, d, x, h1, h2 => by
    unfold RpA at h
    obtain ⟨v, us, rfl, r1, t⟩ := h
    cases i with
    | zero => cases h1; cases h2; exact r1
    | succ i => exact RpA.get t (i := i) h1 h2
theorem some_of_lt {α : Type} {xs : List α} {i : Nat} (h : i < xs.length) : ∃ x, xs[i]? = some x := ⟨xs[i], List.getElem?_eq_getElem h⟩
theorem wk_list {K : PySem.W.Frag} {ow : Addr → Prop} {H : Hp} {a : Addr} {xs : List V} {ds : List D} (h : H a = some (.lst xs)) (n : ¬ ow a) (r : RpA K ow H ds xs) : Wk K (Itl K a) ds ow H := by
  refine ⟨fun ow H => H a = some (.lst xs) ∧ ¬ ow a ∧ RpA K ow H ds xs, ⟨h, n, r⟩, fun ow1 H1 ow2 H2 st ⟨h, n, r⟩ => ⟨(st a _ h n nt_lst).1, (st a _ h n nt_lst).2, r.stp st⟩, fun i ow H ⟨h, n, r⟩ tr hi => ?_, fun i ow H ⟨h, n, r⟩ hi => ⟨xs, SqL.of h, by rw [← r.length]; exact hi⟩⟩
  obtain ⟨x, hx⟩ := some_of_lt (xs := xs) (i := i) (by rw [← r.length]; exact hi)
  refine ⟨⟨xs, x, SqL.of h, hx⟩, fun y H' ⟨e, q⟩ => ?_⟩
  subst e
  exact ⟨Gr.refl, fun d hd => r.get hd (q xs (SqL.of h))⟩
theorem wk_tup {K : PySem.W.Frag} {ow : Addr → Prop} {H : Hp} {a : Addr} {xs : List V} {ds ds' : List D} (h : TupAt K ow H ds' a xs) (r : RpA K ow H ds xs) : Wk K (Itt K a) ds ow H := by
  refine ⟨fun ow H => TupAt K ow H ds' a xs ∧ RpA K ow H ds xs, ⟨h, r⟩, fun ow1 H1 ow2 H2 st ⟨h, r⟩ => ⟨h.stp st, r.stp st⟩, fun i ow H ⟨h, r⟩ tr hi => ?_, fun i ow H ⟨h, r⟩ hi => ⟨xs, h.sq, by rw [← r.length]; exact hi⟩⟩
  obtain ⟨x, hx⟩ := some_of_lt (xs := xs) (i := i) (by rw [← r.length]; exact hi)
  refine ⟨⟨xs, x, h.sq, hx⟩, fun y H' ⟨e, q⟩ => ?_⟩
  subst e
  exact ⟨Gr.refl, fun d hd => r.get hd (q xs h.sq)⟩
theorem wk_str {K : PySem.W.Frag} {ow : Addr → Prop} {H : Hp} {z : Str} : Wk K (Its z) (z.cps.toList.map fun c => .str (sign c)) ow H := by
  refine ⟨fun _ _ => True, trivial, fun _ _ _ _ _ _ => trivial, fun i ow H _ tr hi => ?_, fun i ow H _ hi => ?_⟩
  · rw [List.length_map, Array.length_toList] at hi
    refine ⟨hi, fun y H' ⟨e, c, hc, ey⟩ => ?_⟩
    subst e
    refine ⟨Gr.refl, fun d hd => ?_⟩
    rw [List.getElem?_map, Array.getElem?_toList, hc] at hd
    cases hd
    unfold Rp
    exact ey
  · rw [List.length_map, Array.length_toList] at hi
    exact hi
theorem wk_rng {K : PySem.W.Frag} {ow : Addr → Prop} {H : Hp} {lo : Int} {n : Nat} : Wk K (Itr lo n) ((List.range n).map fun (i : Nat) => .int (lo + (i : Nat))) ow H := by
  refine ⟨fun _ _ => True, trivial, fun _ _ _ _ _ _ => trivial, fun i ow H _ tr hi => ?_, fun i ow H _ hi => ?_⟩
  · rw [List.length_map, List.length_range] at hi
    refine ⟨hi, fun y H' ⟨e, ey⟩ => ?_⟩
    subst e
    refine ⟨Gr.refl, fun d hd => ?_⟩
    rw [List.getElem?_map, List.getElem?_range hi] at hd
    cases hd
    unfold Rp
    exact ey
  · rw [List.length_map, List.length_range] at hi
    exact hi
section
variable {ca : CA} {X : Cx} {pos : Pos} {tg e a b : Expr} {es : List Expr}
theorem mi_any {m : M D} (h : ME ca X e m) : MI ca X tg e (iD m) := fun F W tk => PI.imp (pi_any (h F W tk)) fun σ H R ⟨ow, env, rel, g⟩ => by
  refine ⟨ow, env, rel, ?_⟩
  unfold iD bind at g
  cases hm : m env with
  | ok x e =>
    rw [hm] at g
    rintro v ow1 H1 g1 R1 p1
    have p1' : Rp X.K ow1 H1 x v := p1
    cases x with
    | list xs =>
      unfold Rp at p1'
      obtain ⟨a, us, rfl, h1, n, r⟩ := p1'
      exact .inl ⟨a, rfl, ⟨us, SqL.of h1⟩, g _ ow1 H1 g1 R1 (wk_list h1 n r)⟩
    | tuple xs =>
      unfold Rp at p1'
      obtain ⟨a, us, rfl, h1, r⟩ := p1'
      exact .inr (.inl ⟨a, rfl, ⟨us, h1.sq⟩, g _ ow1 H1 g1 R1 (wk_tup h1 r)⟩)
    | str z =>
      unfold Rp at p1'
      exact .inr (.inr ⟨z, p1', g _ ow1 H1 g1 R1 wk_str⟩)
    | _ => exact g.elim
  | ex c e => rw [hm] at g; exact g
  | bad => rw [hm] at g; exact g
@[simp] def rng1 : List AV → Option (List D)
  | [.d (.int j)] => if j.natAbs < 4611686018427387904 then some ((List.range j.toNat).map fun (i : Nat) => .int (0 + (i : Nat))) else none
  | _ => none
@[simp] def rng2 : List AV → Option (List D)
  | [.d (.int i), .d (.int j)] => if i.natAbs < 4611686018427387904 ∧ j.natAbs < 4611686018427387904 then some ((List.range (j - i).toNat).map fun (k : Nat) => .int (i + (k : Nat))) else none
  | _ => none
def iRg (f : List AV → Option (List D)) (m : M (List AV)) : M (List D) := bind m fun as => lift (f as)
theorem mi_range1 {m : M (List AV)} {p : Pos} (ha : MA ca X [a] m) (hm : X.mg "range" = none) (hg : Gl X "range" := by rfl) (hs : starEach [a] X.env = [(false, eval a X.env)] := by rfl) : MI ca X tg (.Call (.Name "range" p) [a] [] pos) (iRg rng1 m) := fun F W tk =>
  PI.imp (pi_range1 hg hm (ha F W tk) hs) fun σ H R ⟨ow, env, rel, g⟩ => by
    refine ⟨ow, env, rel, ?_⟩
    unfold iRg bind at g
    cases hm' : m env with
    | ok as e =>
      rw [hm'] at g
      rintro vs ow1 H1 g1 R1 p1
      have p1' : AvA X.K ca F H ow1 H1 e σ as vs := p1
      cases hr : rng1 as with
      | none => simp only [lift, hr] at g
      | some ds =>
        simp only [lift, hr] at g
        unfold rng1 at hr
        split at hr
        · obtain ⟨hj, rfl⟩ := ite_some hr
          unfold AvA at p1'
          obtain ⟨v, us, rfl, r, _, t⟩ := p1'
          unfold AvA at t
          subst t
          have r' : Rp X.K ow1 H1 (.int _) v := r
          unfold Rp at r'
          exact ⟨_, by rw [r'], by omega, by omega, g _ ow1 H1 g1 R1 wk_rng⟩
        · cases hr
    | ex c e => rw [hm'] at g; exact g
    | bad => rw [hm'] at g; exact g
theorem mi_range2 {m : M (List AV)} {p : Pos} (ha : MA ca X [a, b] m) (hm : X.mg "range" = none) (hg : Gl X "range" := by rfl) (hs : starEach [a, b] X.env = [(false, eval a X.env), (false, eval b X.env)] := by rfl) (hs2 : starEach [b] X.env = [(false, eval b X.env)] := by rfl) : MI ca X tg (.Call (.Name "range" p) [a, b] [] pos) (iRg rng2 m) := fun F W tk =>
  PI.imp (pi_range2 hg hm (ha F W tk) hs hs2) fun σ H R ⟨ow, env, rel, g⟩ => by
    refine ⟨ow, env, rel, ?_⟩
    unfold iRg bind at g
    cases hm' : m env with
    | ok as e =>
      rw [hm'] at g
      rintro vs ow1 H1 g1 R1 p1
      have p1' : AvA X.K ca F H ow1 H1 e σ as vs := p1
      cases hr : rng2 as with
      | none => simp only [lift, hr] at g
      | some ds =>
        simp only [lift, hr] at g
        unfold rng2 at hr
        split at hr
        · obtain ⟨hj, rfl⟩ := ite_some hr
          unfold AvA at p1'
          obtain ⟨v, us, rfl, r, _, t⟩ := p1'
          unfold AvA at t
          obtain ⟨v2, us2, rfl, r2, _, t2⟩ := t
          unfold AvA at t2
          subst t2
          have r' : Rp X.K ow1 H1 (.int _) v := r
          have r2' : Rp X.K ow1 H1 (.int _) v2 := r2
          unfold Rp at r' r2'
          exact ⟨_, _, by rw [r', r2'], ⟨by omega, by omega, by omega, by omega⟩, g _ ow1 H1 g1 R1 wk_rng⟩
        · cases hr
    | ex c e => rw [hm'] at g; exact g
    | bad => rw [hm'] at g; exact g

/-! ### for, while -/
def forL (g : GF) (mb : MStm) : List D → MStm
  | [], e => .nx e
  | d :: r, e => match g d e with
    | none => .bad
    | some e1 => match mb e1 with
      | .nx e2 => forL g mb r e2
      | .ct e2 => forL g mb r e2
      | .bk e2 => .nx e2
      | x => x
def sFor (mi : M (List D)) (g : GF) (mb : MStm) : MStm := xS mi fun ds => forL g mb ds
theorem ms_for {body : List Stmt} {mi : M (List D)} {js : List Nat} {g : GF} {mb : MStm} (hi : MI ca X tg e mi) (hg : MG ca X tg js g) (hb : MSs ca X body mb) (hc : X.calm = true := by rfl) (hs : ∀ x, foldedSetIterable e X.env x = pure x := by intro _; rfl) :
    MS ca X (.For tg e body [] pos) (sFor mi g mb) := fun F W tk hp => PS.imp (ps_for hp hc (hi F W tk) (hg F) (hb F W tk hp) hs) fun Dn σ H ⟨ow, env, R, gg⟩ => by
  refine ⟨ow, env, R, ?_⟩
  unfold sFor xS at gg
  cases hm : mi env with
  | ok ds e1 =>
    rw [hm] at gg
    rintro J ow1 H1 g1 R1 ⟨inv, i0, ist, igo, istop⟩
    have gg1 := gg.mono g1.stp
    refine ⟨fun i m σ H => m = ds.length - i ∧ i ≤ ds.length ∧ ∃ ow env, Rel X.K ca F ow env σ H ∧ inv ow H ∧ GoS X.K ca F W ow H Dn (forL g mb (ds.drop i) env), ⟨_, rfl, Nat.zero_le _, ow1, e1, R1, i0, gg1⟩, ?_⟩
    rintro i m σ2 H2 ⟨rfl, hi2, ow2, env2, R2, in2, g2⟩
    by_cases hlt : i < ds.length
    · obtain ⟨d, hd⟩ := some_of_lt hlt
      have ed : ds.drop i = d :: ds.drop (i + 1) := by
        rw [List.drop_eq_getElem_cons hlt]
        have := List.getElem?_eq_getElem hlt
        rw [this] at hd
        cases hd; rfl
      rw [ed] at g2
      obtain ⟨jg, jy⟩ := igo i ow2 H2 in2 R2.trk hlt
      refine .inr ⟨jg, fun σ' H' => ∃ ow env, Rel X.K ca F ow env σ' H' ∧ inv ow H' ∧ GoS X.K ca F W ow H' Dn (forL g mb (ds.drop (i + 1)) env), fun σ' H' ⟨ow, env, a, b, c⟩ => ⟨_, by omega, rfl, hlt, ow, env, a, b, c⟩, fun x H' y => ?_⟩
      obtain ⟨gr, rp⟩ := jy x H' y
      have R3 := R2.gr gr
      have g3 := g2.mono gr.stp
      unfold forL at g3
      cases hg1 : g d env2 with
      | none => rw [hg1] at g3; exact g3.elim
      | some e3 =>
        rw [hg1] at g3
        refine ⟨ow2, env2, d, e3, R3, rp d hd, hg1, fun σ4 _ _ R4 _ => ⟨ow2, e3, R4, ?_⟩⟩
        cases hb : mb e3 with
        | nx e4 => simp only [hb] at g3; exact fun σ5 ow5 H5 s5 R5 => ⟨ow5, e4, R5, ist _ _ _ _ (gr.stp.trans s5) in2, g3.mono s5⟩
        | ct e4 => simp only [hb] at g3; exact fun σ5 ow5 H5 s5 R5 => ⟨ow5, e4, R5, ist _ _ _ _ (gr.stp.trans s5) in2, g3.mono s5⟩
        | bk e4 => simp only [hb] at g3; exact g3
        | rt r e4 => simp only [hb] at g3; cases r <;> exact g3
        | ex c e4 => simp only [hb] at g3; exact g3
        | bad => simp only [hb] at g3; exact g3
    · have ei : i = ds.length := by omega
      subst ei
      rw [List.drop_length] at g2
      exact .inl ⟨istop _ ow2 H2 in2 (Nat.le_refl _), g2 σ2 ow2 H2 Stp.refl R2⟩
  | ex c e1 => rw [hm] at gg; exact fun ow' H' s' R' => gg σ ow' H' s'.stp R'
  | bad => rw [hm] at gg; exact gg
def whileL (t : M Bool) (mb : MStm) : Nat → MStm
  | 0, _ => .bad
  | n + 1, e => match t e with
    | .ok true e1 => match mb e1 with
      | .nx e2 => whileL t mb n e2
      | .ct e2 => whileL t mb n e2
      | .bk e2 => .nx e2
      | x => x
    | .ok false e1 => .nx e1
    | .ex c e1 => .ex c e1
    | .bad => .bad
def sWhile (n : Nat) (t : M Bool) (mb : MStm) : MStm := whileL t mb n
theorem ms_while (n : Nat) {c : Expr} {body : List Stmt} {t : M Bool} {mb : MStm} (hc : MT ca X c t) (hb : MSs ca X body mb) : MS ca X (.While c body [] pos) (sWhile n t mb) := fun F W tk hp => PS.imp (ps_while hp (hc F W tk) (hb F W tk hp)) fun Dn σ H ⟨ow, env, R, gg⟩ => by
  refine ⟨fun m σ H => ∃ ow env, Rel X.K ca F ow env σ H ∧ GoS X.K ca F W ow H Dn (whileL t mb m env), ⟨n, ow, env, R, gg⟩, ?_⟩
  rintro m σ1 H1 ⟨ow1, env1, R1, g1⟩
  cases m with
  | zero => exact g1.elim
  | succ m =>
    unfold whileL at g1
    refine ⟨ow1, env1, R1, ?_⟩
    cases ht : t env1 with
    | ok b e2 =>
      rw [ht] at g1
      rintro b' ow2 H2 g2 R2 eb
      have eb' : b' = b := eb
      subst eb'
      cases b' with
      | true =>
        rw [if_pos rfl]
        dsimp only at g1
        have g3 := g1.mono g2.stp
        refine ⟨fun σ' H' => ∃ ow env, Rel X.K ca F ow env σ' H' ∧ GoS X.K ca F W ow H' Dn (whileL t mb m env), fun σ' H' ⟨ow, env, a, c⟩ => ⟨m, Nat.lt_succ_self m, ow, env, a, c⟩, ow2, e2, R2, ?_⟩
        cases hb : mb e2 with
        | nx e4 => simp only [hb] at g3; exact fun σ5 ow5 H5 s5 R5 => ⟨ow5, e4, R5, g3.mono s5⟩
        | ct e4 => simp only [hb] at g3; exact fun σ5 ow5 H5 s5 R5 => ⟨ow5, e4, R5, g3.mono s5⟩
        | bk e4 => simp only [hb] at g3; exact g3
        | rt r e4 => simp only [hb] at g3; cases r <;> exact g3
        | ex c e4 => simp only [hb] at g3; exact g3
        | bad => simp only [hb] at g3; exact g3
      | false =>
        rw [if_neg Bool.false_ne_true]
        exact (g1.mono g2.stp) σ1 ow2 H2 Stp.refl R2
    | ex c e2 => rw [ht] at g1; exact fun ow' H' s' R' => g1 σ1 ow' H' s'.stp R'
    | bad => rw [ht] at g1; exact g1
end
end ML
end

section
set_option Elab.async false
set_option linter.all false
set_option maxRecDepth 100000
set_option maxHeartbeats 2000000
/-! # List comprehensions -/
namespace ML
open PySem L2

/-- the slots of a block's own names forgotten -/
@[simp] def wipeE (e : List Sl) : List Nat → List Sl
  | [] => e
  | v :: vs => (wipeE e vs).set v .un
/-- .. and as they stood, where they held data -/
@[simp] def dataAt (e0 : List Sl) (v : Nat) : Sl := match e0[v]? with
  | some (.d x) => .d x
  | _ => .un
@[simp] def restE (e0 e : List Sl) : List Nat → List Sl
  | [] => e
  | v :: vs => (restE e0 e vs).set v (dataAt e0 v)
def restS (σ σ1 : St) : List Nat → St
  | [] => σ1
  | v :: vs => (restS σ σ1 vs).set v (σ.getD v none)
section
variable {K : PySem.W.Frag} {ca : CA} {F : Fr} {ow ow' ow0 : Addr → Prop} {H H' H0 : Hp} {e env env0 : List Sl} {σ σ1 : St}
theorem Rel.wipe (R : Rel K ca F ow e σ H) : ∀ vs : List Nat, Rel K ca F ow (wipeE e vs) (L2.wipe σ vs) H
  | [] => R
  | _ :: vs => (R.wipe vs).drop
theorem held_un {i : Nat} {u : Option V} {p : Addr} (h : Held (e.set i .un) (σ.set i u) p) : Held e σ p := by
  obtain ⟨j, l, k, h1, h2⟩ := h
  by_cases ej : i = j
  · subst ej
    by_cases hl : i < e.length
    · rw [List.getElem?_set_self hl] at h1; cases h1
    · rw [List.getElem?_eq_none (by simpa using hl)] at h1; cases h1
  · rw [List.getElem?_set_ne ej] at h1 h2
    exact ⟨j, l, k, h1, h2⟩
theorem held_wipe {p : Addr} : ∀ {vs : List Nat}, Held (wipeE e vs) (L2.wipe σ vs) p → Held e σ p
  | [], h => h
  | _ :: vs, h => held_wipe (vs := vs) (held_un h)
theorem Rel.rest (R : Rel K ca F ow e σ1 H) (d : ∀ (v : Nat) (x : D), env0[v]? = some (Sl.d x) → ∃ u, σ[v]? = some (some u) ∧ Rp K ow H x u) : ∀ vs : List Nat, Rel K ca F ow (restE env0 e vs) (restS σ σ1 vs) H
  | [] => R
  | v :: vs => by
    have R1 := Rel.rest R d vs
    show Rel K ca F ow ((restE env0 e vs).set v (dataAt env0 v)) ((restS σ σ1 vs).set v (σ.getD v none)) H
    unfold dataAt
    split
    · rename_i x he
      obtain ⟨u, hu, r⟩ := d v x he
      rw [List.getD_eq_getElem?_getD, hu]
      exact R1.set r
    · exact R1.drop
theorem held_rest {p : Addr} : ∀ {vs : List Nat}, Held (restE env0 e vs) (restS σ σ1 vs) p → Held e σ1 p
  | [], h => h
  | v :: vs, h => by
    have h' : Held ((restE env0 e vs).set v (dataAt env0 v)) ((restS σ σ1 vs).set v (σ.getD v none)) p := h
    unfold dataAt at h'
    split at h'
    · exact held_rest (vs := vs) (held_setD h')
    · exact held_rest (vs := vs) (held_un h')
theorem restS_wipe : ∀ (vs ws : List Nat), (∀ v ∈ ws, v ∈ vs) → ∀ i, (restS σ (L2.wipe σ vs) ws)[i]? = if i ∈ ws ∨ i ∉ vs then σ[i]? else (L2.wipe σ vs)[i]? := by
  intro vs ws hsub
  induction ws with
  | nil =>
    intro i
    show (L2.wipe σ vs)[i]? = _
    by_cases h : i ∉ vs
    · rw [if_pos (.inr h)]
      have : ∀ us : List Nat, i ∉ us → (L2.wipe σ us)[i]? = σ[i]? := by
        intro us
        induction us with
        | nil => intro _; rfl
        | cons u us ih =>
          intro hn
          show ((L2.wipe σ us).set u none)[i]? = _
          rw [List.getElem?_set_ne (fun z => hn (by simp [z]))]
          exact ih fun z => hn (List.mem_cons_of_mem _ z)
      exact this vs h
    · rw [if_neg (by simp only [List.not_mem_nil, false_or]; exact h)]
  | cons w ws ih =>
    intro i
    show ((restS σ (L2.wipe σ vs) ws).set w (σ.getD w none))[i]? = _
    have lenw : ∀ us : List Nat, (restS σ (L2.wipe σ vs) us).length = σ.length := by
      intro us
      induction us with
      | nil => exact wipe_length σ vs
      | cons u us ih => show ((restS σ (L2.wipe σ vs) us).set u _).length = _; rw [List.length_set]; exact ih
    by_cases hw : w = i
    · subst hw
      rw [if_pos (.inl List.mem_cons_self)]
      by_cases hl : w < σ.length
      · rw [List.getElem?_set_self (by rw [lenw]; exact hl), List.getD_eq_getElem?_getD, List.getElem?_eq_getElem hl]; rfl
      · rw [List.getElem?_eq_none (by rw [List.length_set, lenw]; omega), List.getElem?_eq_none (by omega)]
    · rw [List.getElem?_set_ne hw, ih (fun v hv => hsub v (List.mem_cons_of_mem _ hv)) i]
      by_cases h1 : i ∈ ws ∨ i ∉ vs
      · rw [if_pos h1, if_pos (h1.elim (fun z => .inl (List.mem_cons_of_mem _ z)) .inr)]
      · rw [if_neg h1, if_neg (fun z => h1 (z.elim (fun z => .inl ((List.mem_cons.mp z).resolve_left (fun z => hw z.symm))) .inr))]
theorem restS_all (vs : List Nat) : restS σ (L2.wipe σ vs) vs = σ := by
  apply List.ext_getElem?
  intro i
  rw [restS_wipe vs vs (fun _ h => h) i]
  by_cases h : i ∈ vs
  · rw [if_pos (.inl h)]
  · rw [if_pos (.inr h)]
/-- a loose object holds something else -/
theorem Rel.mutL (R : Rel K ca F ow e σ H) {p : Addr} {o : HO} (L : Loose F ow e σ p) (mu : MutO (some o) := by first | exact .inl ⟨_, rfl⟩ | exact .inr (.inl ⟨_, rfl⟩) | exact .inr (.inr ⟨_, _, _, rfl⟩)) : Rel K ca F ow e σ (upd H p o) := by
  have st : Stp ow H ow (upd H p o) := stp_mut L.1
  refine R.step rfl (fun i s' h => .inl ⟨h, fun l k q hs hq => ?_⟩) st (fun _ h => h) (fun a z => ?_) (fun a z => ?_) (fun a u ha n t => ?_) (fun a ha => ?_) (fun q hq => ?_)
  · subst hs
    exact upd_ne fun z => L.2.2.2 i l k h (by rw [hq, z])
  · by_cases ea : a = p
    · rw [ea]; exact ⟨o, upd_same⟩
    · rw [upd_ne ea]; exact R.trk a z
  · by_cases ea : a = p
    · rw [ea]; exact .inr (by rw [upd_same]; exact mu)
    · rw [upd_ne ea]; exact R.knd a z
  · rw [upd_ne (fun z => by rw [z, L.2.1] at ha; cases ha)]
    exact R.keep a u ha n t
  · by_cases ea : a = p
    · rw [ea, upd_same] at ha; cases ha
    · rw [upd_ne ea] at ha; exact ha
  · obtain ⟨_, _, c, d⟩ := R.tab q hq
    exact d.stp st (upd_ne fun z => by obtain ⟨u, hu⟩ := c; rw [z, L.2.1] at hu; cases hu)
end

/-! ### slots that nobody reads any more -/
@[simp] def fgS (vs : List Nat) : SR → SR
  | .nx e => .nx (wipeE e vs)
  | .bk e => .bk (wipeE e vs)
  | .ct e => .ct (wipeE e vs)
  | .rt r e => .rt r e
  | .ex c e => .ex c e
  | .bad => .bad
def sFg (vs : List Nat) (m : MStm) : MStm := fun e => fgS vs (m e)
theorem Rel.forget {K : PySem.W.Frag} {ca : CA} {F : Fr} {ow : Addr → Prop} {H : Hp} {e : List Sl} {σ : St} (R : Rel K ca F ow e σ H) : ∀ vs : List Nat, Rel K ca F ow (wipeE e vs) σ H
  | [] => R
  | v :: vs => by
    have R2 := (Rel.forget R vs).drop (i := v) (v := σ.getD v none)
    have es : σ.set v (σ.getD v none) = σ := by
      apply List.ext_getElem?
      intro j
      by_cases ej : v = j
      · subst ej
        by_cases hl : v < σ.length
        · rw [List.getElem?_set_self hl, List.getD_eq_getElem?_getD, List.getElem?_eq_getElem hl]; rfl
        · rw [List.getElem?_eq_none (by rw [List.length_set]; omega), List.getElem?_eq_none (by omega)]
      · rw [List.getElem?_set_ne ej]
    rw [es] at R2
    exact R2
theorem mss_fg (vs : List Nat) {ca : CA} {X : Cx} {st : List Stmt} {m : MStm} (h : MSs ca X st m) : MSs ca X st (sFg vs m) := fun F W tk hp => PSs.imp (h F W tk hp) fun Dn σ H ⟨ow, env, R, g⟩ => by
  refine ⟨ow, env, R, ?_⟩
  unfold sFg at g
  cases hm : m env with
  | nx e => rw [hm] at g; exact fun σ' ow' H' s' R' => g σ' ow' H' s' (R'.forget vs)
  | bk e => rw [hm] at g; exact fun σ' ow' H' s' R' => g σ' ow' H' s' (R'.forget vs)
  | ct e => rw [hm] at g; exact fun σ' ow' H' s' R' => g σ' ow' H' s' (R'.forget vs)
  | rt r e => rw [hm] at g; cases r <;> exact g
  | ex c e => rw [hm] at g; exact g
  | bad => rw [hm] at g; exact g
def tTs (K : PySem.W.Frag) (ca : CA) (F : Fr) (W : WX) (m : M Bool) : TT := tG K ca F W PB m
def MTs (ca : CA) (X : Cx) (es : List Expr) (m : M Bool) : Prop := ∀ F W, Tk X F W → PTs X es (tTs X.K ca F W m)
theorem PTs.imp {X : Cx} {es : List Expr} {t t' : TT} (h : PTs X es t) (k : ∀ σ H Q, t' σ H Q → t σ H Q) : PTs X es t' := ⟨fun pins s σ H Q I q => h.run pins s σ H Q I (k _ _ _ q)⟩
section
variable {ca : CA} {X : Cx} {pos : Pos} {tg e a b c : Expr} {es : List Expr}
theorem mts_nil : MTs ca X [] (ret true) := fun F W tk => PTs.imp pts_nil fun σ H Q ⟨ow, env, R, g⟩ => g true ow H Go.refl R rfl
theorem mts_one {m : M Bool} (h : MT ca X e m) : MTs ca X [e] m := fun F W tk => pts_one (h F W tk)

/-- the turns of a comprehension -/
def compL (g : GF) (tt : M Bool) (te : M D) (vs : List Nat) : List D → List D → List Sl → R (List D)
  | [], done, e => .ok done e
  | d :: r, done, e => match g d e with
    | none => .bad
    | some e1 => match tt e1 with
      | .ok true e2 => match te e2 with
        | .ok y e3 => if done.length < LIM then compL g tt te vs r (done ++ [y]) (wipeE e3 vs) else .bad
        | _ => .bad
      | .ok false e2 => compL g tt te vs r done (wipeE e2 vs)
      | _ => .bad
def oComp (mi : M (List D)) (g : GF) (tt : M Bool) (te : M D) (vs : List Nat) : M Ob := bind mi fun ds => fun env => match compL g tt te vs ds [] (wipeE env vs) with
  | .ok xs e => .ok (.lst xs) (restE env e vs)
  | _ => .bad
theorem RpA.snoc {K : PySem.W.Frag} {ow : Addr → Prop} {H : Hp} {y : D} {v : V} (r : Rp K ow H y v) : ∀ {xs : List D} {us : List V}, RpA K ow H xs us → RpA K ow H (xs ++ [y]) (us ++ [v])
  | [], _, h => by
    unfold RpA at h
    subst h
    show RpA K ow H [y] [v]
    unfold RpA
    exact ⟨v, [], rfl, r, by unfold RpA; rfl⟩
  | x :: xs, _, h => by
    unfold RpA at h
    obtain ⟨u, us, rfl, h1, h2⟩ := h
    show RpA K ow H (x :: (xs ++ [y])) (u :: (us ++ [v]))
    unfold RpA
    exact ⟨u, us ++ [v], rfl, h1, RpA.snoc r h2⟩
theorem lc_ok {K : PySem.W.Frag} {F : Fr} {W : WX} {F' : Fr} {mi : M (List D)} {js vs : List Nat} {g : GF} {tt : M Bool} {te : M D} (hjs : ∀ j ∈ js, j ∈ vs) {σ : St} {H : Hp} {Q : VK} (h : tO K ca F W (oComp mi g tt te vs) σ H Q) :
    tLc (tI_ K ca F W mi) (tGt K ca F js g) (tTs K ca F (fun _ _ _ _ => False) tt) (tE K ca F (fun _ _ _ _ => False) te) vs σ H Q := by
  obtain ⟨ow, env, R, gg⟩ := h
  refine ⟨ow, env, R, ?_⟩
  unfold oComp bind at gg
  cases hm : mi env with
  | ok ds e1 =>
    rw [hm] at gg
    obtain ⟨rz, hrz⟩ : ∃ rz, compL g tt te vs ds [] (wipeE e1 vs) = rz := ⟨_, rfl⟩
    dsimp only at gg
    rw [hrz] at gg
    rintro J ow1 H1 g1 R1 ⟨inv, i0, ist, igo, istop⟩ Dl hD
    obtain ⟨R2, Lf⟩ := R1.more (o := .lst []) hD
    have hw : ∀ σ2 : St, σ2.length = (L2.wipe σ vs).length → (∀ i, i ∉ js → σ2[i]? = (L2.wipe σ vs)[i]?) → L2.wipe σ2 vs = L2.wipe σ vs := fun σ2 hl hf => by
      apply List.ext_getElem?
      intro i
      have key : ∀ (τ : St) (us : List Nat) (i : Nat), (L2.wipe τ us)[i]? = if i ∈ us then (if i < τ.length then some none else none) else τ[i]? := by
        intro τ us
        induction us with
        | nil => intro i; simp [L2.wipe]
        | cons u us ih =>
          intro i
          show ((L2.wipe τ us).set u none)[i]? = _
          by_cases hu : u = i
          · subst hu
            rw [if_pos List.mem_cons_self]
            by_cases hlt : u < τ.length
            · rw [if_pos hlt, List.getElem?_set_self (by rw [wipe_length]; exact hlt)]
            · rw [if_neg hlt, List.getElem?_eq_none (by rw [List.length_set, wipe_length]; omega)]
          · rw [List.getElem?_set_ne hu, ih i]
            by_cases hi : i ∈ us
            · rw [if_pos hi, if_pos (List.mem_cons_of_mem _ hi)]
            · rw [if_neg hi, if_neg (fun z => hi ((List.mem_cons.mp z).resolve_left fun z => hu z.symm))]
      rw [wipe_length] at hl
      rw [key, key, hl]
      by_cases hi : i ∈ vs
      · rw [if_pos hi, if_pos hi]
      · rw [if_neg hi, if_neg hi, hf i (fun z => hi (hjs i z)), key, if_neg hi]
    -- the end
    have fin : ∀ {ow2 : Addr → Prop} {H2 : Hp} {e2 : List Sl} {xs : List D} {acc : List V}, Rel K ca F ow2 e2 (L2.wipe σ vs) H2 → Stp ow1 H1 ow2 H2 → (∀ p, ow1 p → ¬ IsT (H1 p) → ¬ Held e1 σ p → ow2 p ∧ H2 p = H1 p ∧ ¬ Held e2 (L2.wipe σ vs) p) → (∀ a, H2 a = none → H1 a = none) →
        H2 Dl = some (.lst acc) → RpA K ow2 H2 xs acc → Loose F ow2 e2 (L2.wipe σ vs) Dl → (∀ b ow' H', Go σ ow env H ow' (restE e1 e2 vs) H' → Rel K ca F ow' (restE e1 e2 vs) σ H' → PO_ K ca F (.lst xs) b H ow' H' (restE e1 e2 vs) σ → Q b H') → Q (.ref Dl) H2 := fun {ow2 H2 e2 xs acc} R3 st lo dom hacc ra L3 k => by
      have R4 := Rel.rest (env0 := e1) (σ := σ) R3 (fun v x hv => by
        obtain ⟨u, hu, r⟩ := R1.data hv
        exact ⟨u, hu, r.stp st⟩) vs
      rw [restS_all] at R4
      have hr : ∀ {p : Addr}, Held (restE e1 e2 vs) σ p → Held e2 (L2.wipe σ vs) p := fun {p} hp => held_rest (env0 := e1) (σ := σ) (vs := vs) (by rw [restS_all]; exact hp)
      refine k (.ref Dl) ow2 H2 (g1.trans ⟨st, fun p w nt n => ?_, dom⟩) R4 ⟨Dl, rfl, g1.dom _ hD, ⟨acc, hacc, ra⟩, loose_of L3.1 L3.2.1 L3.2.2.1 fun z => L3.held (hr z)⟩
      obtain ⟨a, b, c⟩ := lo p w nt n
      exact ⟨a, b, fun z => c (hr z)⟩
    refine ⟨fun i m Hx => m = ds.length - i ∧ i ≤ ds.length ∧ ∃ ow2 e2 done acc, Rel K ca F ow2 e2 (L2.wipe σ vs) Hx ∧ inv ow2 Hx ∧ Stp ow1 H1 ow2 Hx ∧ (∀ p, ow1 p → ¬ IsT (H1 p) → ¬ Held e1 σ p → ow2 p ∧ Hx p = H1 p ∧ ¬ Held e2 (L2.wipe σ vs) p) ∧ (∀ a, Hx a = none → H1 a = none) ∧
      Hx Dl = some (.lst acc) ∧ RpA K ow2 Hx done acc ∧ Loose F ow2 e2 (L2.wipe σ vs) Dl ∧ compL g tt te vs (ds.drop i) done e2 = rz, ⟨_, rfl, Nat.zero_le _, more ow1 Dl, wipeE e1 vs, [], [], R2.wipe vs, ist _ _ _ _ (stp_more hD) i0, stp_more hD, fun p w nt n => ?_, fun a ha => ?_, upd_same, by unfold RpA; rfl, loose_of Lf.1 Lf.2.1 Lf.2.2.1 fun z => Lf.held (held_wipe z), hrz⟩, ?_⟩
    · refine ⟨.inl w, ?_, fun z => n (held_wipe z)⟩
      obtain ⟨u, hu⟩ := R1.trk p w
      exact upd_ne fun z => by rw [z, hD] at hu; cases hu
    · by_cases z : a = Dl
      · rw [z]; exact hD
      · rw [upd_ne z] at ha; exact ha
    rintro i m Hx ⟨rfl, hi2, ow2, e2, done, acc, R3, in3, st, lo, dom, hacc, ra, L3, ec⟩
    by_cases hlt : i < ds.length
    · obtain ⟨d, hd⟩ := some_of_lt hlt
      have ed : ds.drop i = d :: ds.drop (i + 1) := by
        rw [List.drop_eq_getElem_cons hlt]
        have := List.getElem?_eq_getElem hlt
        rw [this] at hd
        cases hd; rfl
      rw [ed] at ec
      obtain ⟨jg, jy⟩ := igo i ow2 Hx in3 R3.trk hlt
      refine .inr ⟨jg, fun Hx => ∃ ow2 e2 done acc, Rel K ca F ow2 e2 (L2.wipe σ vs) Hx ∧ inv ow2 Hx ∧ Stp ow1 H1 ow2 Hx ∧ (∀ p, ow1 p → ¬ IsT (H1 p) → ¬ Held e1 σ p → ow2 p ∧ Hx p = H1 p ∧ ¬ Held e2 (L2.wipe σ vs) p) ∧ (∀ a, Hx a = none → H1 a = none) ∧
        Hx Dl = some (.lst acc) ∧ RpA K ow2 Hx done acc ∧ Loose F ow2 e2 (L2.wipe σ vs) Dl ∧ compL g tt te vs (ds.drop (i + 1)) done e2 = rz, fun H' ⟨ow2, e2, done, acc, r⟩ => ⟨_, by omega, rfl, hlt, ow2, e2, done, acc, r⟩, fun x H' y => ?_⟩
      obtain ⟨gr, rp⟩ := jy x H' y
      have R4 := R3.gr gr
      have gogr := Go.gr R3 gr
      -- what is asked would be bad otherwise
      unfold compL at ec
      have nb : ∀ {r : ML.R (List D)}, r = rz → r ≠ .bad := fun {r} er z => by
        rw [← er, z] at gg
        exact gg
      cases hg1 : g d e2 with
      | none => rw [hg1] at ec; exact absurd rfl (nb ec)
      | some e3 =>
        rw [hg1] at ec
        refine ⟨ow2, e2, d, e3, R4, rp d hd, hg1, fun σ4 hl4 hf4 R5 k5 => ⟨hw σ4 hl4 hf4, ow2, e3, R5, ?_⟩⟩
        dsimp only at ec
        cases ht : tt e3 with
        | ok b e4 =>
          rw [ht] at ec
          rintro b' ow5 H5 g5 R6 eb
          have eb' : b' = b := eb
          subst eb'
          have st5 : Stp ow1 H1 ow5 H5 := (st.trans gr.stp).trans g5.stp
          have wp : L2.wipe σ4 vs = L2.wipe σ vs := hw σ4 hl4 hf4
          have lo5 : ∀ p, ow1 p → ¬ IsT (H1 p) → ¬ Held e1 σ p → ow5 p ∧ H5 p = H1 p ∧ ¬ Held e4 σ4 p := fun p w nt n => by
            obtain ⟨a, b, c⟩ := lo p w nt n
            obtain ⟨a2, b2, c2⟩ := gogr.lo p a (by rw [b]; exact nt) c
            obtain ⟨a3, b3, c3⟩ := g5.lo p a2 (by rw [b2, b]; exact nt) fun z => c2 (k5 p z)
            exact ⟨a3, b3.trans (b2.trans b), c3⟩
          have dom5 : ∀ a, H5 a = none → H1 a = none := fun a ha => dom a (gogr.dom a (g5.dom a ha))
          have LD : Loose F ow5 e4 σ4 Dl ∧ H5 Dl = some (.lst acc) := by
            obtain ⟨l1, q1⟩ := L3.go gogr (noT_lst hacc)
            have l2 : Loose F ow2 e3 σ4 Dl := loose_of l1.1 l1.2.1 l1.2.2.1 fun z => l1.held (k5 Dl z)
            obtain ⟨l3, q3⟩ := l2.go g5 (noT_lst (by rw [q1]; exact hacc))
            exact ⟨l3, by rw [q3, q1, hacc]⟩
          have in5 : inv ow5 H5 := ist _ _ _ _ (gr.stp.trans g5.stp) in3
          have ra5 : RpA K ow5 H5 done acc := ra.stp (gr.stp.trans g5.stp)
          cases b' with
          | true =>
            rw [if_pos rfl]
            dsimp only at ec
            refine ⟨ow5, e4, R6, ?_⟩
            cases hte : te e4 with
            | ok y e5 =>
              rw [hte] at ec
              rintro v ow6 H6 g6 R7 r7
              obtain ⟨l6, q6⟩ := LD.1.go g6 (noT_lst LD.2)
              have hc : done.length < LIM := by
                by_cases z : done.length < LIM
                · exact z
                · simp only [if_neg z] at ec; exact absurd rfl (nb ec)
              simp only [if_pos hc] at ec
              have h6 : H6 Dl = some (.lst acc) := by rw [q6]; exact LD.2
              have ra6 : RpA K ow6 H6 done acc := ra5.stp g6.stp
              have sm : Stp ow6 H6 ow6 (upd H6 Dl (.lst (acc ++ [v]))) := stp_mut l6.1
              have R8 := (R7.mutL (o := .lst (acc ++ [v])) l6).wipe vs
              rw [wp] at R8
              refine ⟨acc, h6, lim_lt (by rw [← ra6.length]; exact hc), ow6, wipeE e5 vs, done ++ [y], acc ++ [v], R8, ist _ _ _ _ (g6.stp.trans sm) in5, (st5.trans g6.stp).trans sm, fun p w nt n => ?_, fun a ha => ?_, upd_same, (RpA.snoc r7 ra6).stp sm, ?_, ec⟩
              · obtain ⟨a, b, c⟩ := lo5 p w nt n
                obtain ⟨a2, b2, c2⟩ := g6.lo p a (by rw [b]; exact nt) c
                refine ⟨a2, ?_, fun z => c2 (by rw [← wp] at z; exact held_wipe z)⟩
                obtain ⟨u, hu⟩ := R1.trk p w
                rw [upd_ne (fun z => by rw [z, hD] at hu; cases hu)]
                exact b2.trans b
              · by_cases z : a = Dl
                · rw [z]; exact hD
                · rw [upd_ne z] at ha; exact dom5 a (g6.dom a ha)
              · exact loose_of l6.1 l6.2.1 l6.2.2.1 fun z => l6.held (by rw [← wp] at z; exact held_wipe z)
            | ex c e5 => rw [hte] at ec; exact absurd rfl (nb ec)
            | bad => rw [hte] at ec; exact absurd rfl (nb ec)
          | false =>
            rw [if_neg Bool.false_ne_true]
            dsimp only at ec
            have R8 := R6.wipe vs
            rw [wp] at R8
            refine ⟨ow5, wipeE e4 vs, done, acc, R8, in5, st5, fun p w nt n => ?_, dom5, LD.2, ra5, ?_, ec⟩
            · obtain ⟨a, b, c⟩ := lo5 p w nt n
              exact ⟨a, b, fun z => c (by rw [← wp] at z; exact held_wipe z)⟩
            · exact loose_of LD.1.1 LD.1.2.1 LD.1.2.2.1 fun z => LD.1.held (by rw [← wp] at z; exact held_wipe z)
        | ex c e4 => rw [ht] at ec; exact absurd rfl (nb ec)
        | bad => rw [ht] at ec; exact absurd rfl (nb ec)
    · have ei : i = ds.length := by omega
      subst ei
      rw [List.drop_length] at ec
      unfold compL at ec
      refine .inl ⟨istop _ ow2 Hx in3 (Nat.le_refl _), fin R3 st lo dom hacc ra L3 ?_⟩
      rw [← ec] at gg
      exact gg
  | ex c e1 => rw [hm] at gg; exact gg
  | bad => rw [hm] at gg; exact gg
theorem mo_lc {scope : Scope} {own : List (Str × Nat)} {iter elt : Expr} {ifs : List Expr} {mi : M (List D)} {js : List Nat} {g : GF} {tt : M Bool} {te : M D} (hN : X.N.Nodup) (hi : MI ca X tg iter mi) (ok : BlkOk X.N X.env.scope scope own)
    (hg : ∀ (s : Shared) (H : Hp) (C : Addr) (cl : List (Str × Addr)) (fp : List Addr), MG ca (X.blk s H scope (compEnvC scope cl C X.env) fp) tg js g)
    (ht : ∀ (s : Shared) (H : Hp) (C : Addr) (cl : List (Str × Addr)) (fp : List Addr), MTs ca (X.blk s H scope (compEnvC scope cl C X.env) fp) ifs tt)
    (he : ∀ (s : Shared) (H : Hp) (C : Addr) (cl : List (Str × Addr)) (fp : List Addr), ME ca (X.blk s H scope (compEnvC scope cl C X.env) fp) elt te)
    (hjs : ∀ j ∈ js, j ∈ own.map (·.2) := by decide) (hc : X.calm = true := by rfl) (hs : ∀ x, foldedSetIterable iter X.env x = pure x := by intro _; rfl) :
    MO ca X (.ListComp elt [⟨tg, iter, ifs, 0⟩] scope pos) (oComp mi g tt te (own.map (·.2))) := fun F W tk =>
  PE.imp (pe_lc hc hN (hi F W tk) ok (fun s H C cl fp => hg s H C cl fp F) (fun s H C cl fp => ht s H C cl fp F _ ⟨takes0, tk.h⟩) (fun s H C cl fp => he s H C cl fp F _ ⟨takes0, tk.h⟩) hs) fun σ H Q h => lc_ok (F' := F) hjs h
end
end ML
end

section
set_option Elab.async false
set_option linter.all false
set_option maxRecDepth 100000
set_option maxHeartbeats 2000000
/-! # Stores, methods of lists, several targets, errors raised and caught -/
namespace ML
open PySem L2
section
variable {ca : CA} {X : Cx} {pos : Pos} {tg e a b c : Expr} {es : List Expr}
/-! ### y = [.. for ..] -/
theorem ms_setLc (i : Nat) {y : Str} {py spos : Pos} {scope : Scope} {own : List (Str × Nat)} {iter elt : Expr} {ifs : List Expr} {mi : M (List D)} {js : List Nat} {g : GF} {tt : M Bool} {te : M D} (hN : X.N.Nodup) (hi : MI ca X tg iter mi) (ok : BlkOk X.N X.env.scope scope own)
    (hg : ∀ (s : Shared) (H : Hp) (C : Addr) (cl : List (Str × Addr)) (fp : List Addr), MG ca (X.blk s H scope (compEnvC scope cl C X.env) fp) tg js g)
    (ht : ∀ (s : Shared) (H : Hp) (C : Addr) (cl : List (Str × Addr)) (fp : List Addr), MTs ca (X.blk s H scope (compEnvC scope cl C X.env) fp) ifs tt)
    (he : ∀ (s : Shared) (H : Hp) (C : Addr) (cl : List (Str × Addr)) (fp : List Addr), ME ca (X.blk s H scope (compEnvC scope cl C X.env) fp) elt te)
    (hy : X.N[i]? = some y := by rfl) (hyl : X.env.scope.names.lookup y = some .local := by rfl) (hsw : swapsWith (.ListComp elt [⟨tg, iter, ifs, 0⟩] scope pos) (some (.Name y py)) spos.line X.env = pure true := by exact sw_true rfl rfl rfl (by decide +kernel))
    (hjs : ∀ j ∈ js, j ∈ own.map (·.2) := by decide) (hc : X.calm = true := by rfl) (hs : ∀ x, foldedSetIterable iter X.env x = pure x := by intro _; rfl) :
    MS ca X (.Assign [.Name y py] (.ListComp elt [⟨tg, iter, ifs, 0⟩] scope pos) spos) (sSetO i (oComp mi g tt te (own.map (·.2)))) := fun F W tk hp =>
  PS.imp (ps_setLc (i := i) hc hN hy hyl hsw (hi F W tk) ok (fun s H C cl fp => hg s H C cl fp F) (fun s H C cl fp => ht s H C cl fp F _ ⟨takes0, tk.h⟩) (fun s H C cl fp => he s H C cl fp F _ ⟨takes0, tk.h⟩) hs) fun Dn σ H ⟨ow, env, R, gg⟩ => by
    refine lc_ok (F' := F) (g := g) (tt := tt) (te := te) hjs ?_
    exact go_stm R gg fun x e1 v ow1 H1 g1 R1 ⟨p, ev, n, r, L⟩ q1 => by
      rw [ev]
      exact q1 (σ.set i (some (.ref p))) ow1 H1 Stp.refl (R1.setO L r)
/-! ### methods of an own list -/
/-- slot i holds an own list -/
def okL (i : Nat) : M Unit := fun e => match e[i]? with
  | some (.o _ (.lst _)) => .ok () e
  | _ => .bad
theorem okL_go {K : PySem.W.Frag} {F : Fr} {W : WX} {β γ : Type} {P : PP γ β} {Hs H : Hp} {ow : Addr → Prop} {env : List Sl} {σ : St} {Q : β → Hp → Prop} {i : Nat} {f : Unit → M γ} (R : Rel K ca F ow env σ H) (g : GoG K ca F W P Hs ow env H σ Q (bind (okL i) f env)) :
    ∃ p l xs, env[i]? = some (.o l (.lst xs)) ∧ σ[i]? = some (some (.ref p)) ∧ OwnR K ca ow H p (.lst xs) ∧ GoG K ca F W P Hs ow env H σ Q (f () env) := by
  unfold bind okL at g
  split at g
  · rename_i a e' hh
    split at hh
    · rename_i l xs he
      cases hh
      obtain ⟨p, hp, w, r⟩ := R.own he
      exact ⟨p, l, xs, he, hp, r, g⟩
    · cases hh
  · rename_i c e' hh
    split at hh <;> cases hh
  · exact g.elim
/-- the list of slot i: what comes of it and what it holds then -/
def mutL (i : Nat) (f : List D → Option (D × List D)) : M D := fun e => match e[i]? with
  | some (.o l (.lst xs)) => match f xs with
    | some (z, ys) => .ok z (e.set i (.o l (.lst ys)))
    | none => .bad
  | _ => .bad
def eMt (i : Nat) (f : List D → List Sl → Option (D × List D)) (m : M (List AV)) : M D := bind (okL i) fun _ => bind m fun as => fun e => mutL i (fun xs => f xs (contents e as)) e
def MtS (K : PySem.W.Frag) (ca : CA) (r : V → List V → Hp → VK → Prop) (f : List D → List Sl → Option (D × List D)) : Prop :=
  ∀ xs ss z ys ow H p vs us Q, f xs ss = some (z, ys) → H p = some (.lst vs) → ow p → RpA K ow H xs vs → SvA K ca ow H ss us → (∀ v vs', Rp K ow H z v → RpA K ow H ys vs' → Q v (upd H p (.lst vs'))) → r (.ref p) us H Q
theorem mutL_go {K : PySem.W.Frag} {F : Fr} {W : WX} {Hs H : Hp} {ow : Addr → Prop} {env : List Sl} {σ : St} {Q : VK} {i : Nat} {f : List D → Option (D × List D)} {p : Addr} (R : Rel K ca F ow env σ H) (hp : σ[i]? = some (some (.ref p)))
    (g : GoG K ca F W (PD K) Hs ow env H σ Q (mutL i f env)) : ∃ xs z ys vs, f xs = some (z, ys) ∧ H p = some (.lst vs) ∧ ow p ∧ RpA K ow H xs vs ∧ ∀ v vs', Rp K ow H z v → RpA K ow H ys vs' → Q v (upd H p (.lst vs')) := by
  unfold mutL at g
  split at g
  · rename_i l xs he
    split at g
    · rename_i z ys hf
      obtain ⟨q, hq, w, vs, h1, h2⟩ := R.own he
      rw [hp] at hq
      cases hq
      refine ⟨xs, z, ys, vs, hf, h1, w, h2, fun v vs' rv ra => ?_⟩
      have st : Stp ow H ow (upd H p (.lst vs')) := stp_mut w
      have R' := R.mut (o := .lst vs') (k' := .lst ys) he hp ⟨vs', upd_same, ra.stp st⟩
      refine g v ow _ ⟨st, fun q wq _ nq => ⟨wq, upd_ne fun z => nq ⟨i, l, _, he, by rw [hp, z]⟩, fun ⟨j, l1, k1, a1, a2⟩ => ?_⟩, fun x hx => ?_⟩ R' (rv.stp st)
      · by_cases ej : i = j
        · subst ej
          exact nq ⟨i, l, _, he, a2⟩
        · rw [List.getElem?_set_ne ej] at a1
          exact nq ⟨j, l1, k1, a1, a2⟩
      · by_cases z : x = p
        · rw [z, upd_same] at hx; cases hx
        · rw [upd_ne z] at hx; exact hx
    · exact g.elim
  · exact g.elim
theorem me_mt (i : Nat) {x name : Str} {p apos : Pos} {id : String} {r : V → List V → Hp → VK → Prop} {f : List D → List Sl → Option (D × List D)} {m : M (List AV)} (slot : Slot "list" name id) (hty : typeOf (.builtin id) = pure (.type "method_descriptor")) (hm : MtR X id r) (hs : MtS X.K ca r f) (ha : MA ca X (e :: es) m)
    (hN : X.N[i]? = some x := by rfl) (hv : Vis X.env.scope x := by first | exact Or.inl rfl | exact Or.inr (Or.inl rfl) | exact Or.inr (Or.inr rfl)) (hd : (x == ("__debug__" : Str)) = false := by decide) (hcd : (x == ("__classdict__" : Str)) = false := by decide)
    (hbase : attributeBase (.Name x p) name X.env (eval (.Name x p) X.env) = eval (.Name x p) X.env := by rfl)
    (hfew : ((backTo pos (starEach (e :: es) X.env)).all (fun x => !x.1) && (backToKw pos (keywordEach [] X.env)).all (fun x => x.1.isSome) && decide ((e :: es).length + ([] : List Keyword).length + (if ([] : List Keyword).isEmpty then 0 else 1) < 30)) = true := by rfl)
    (hline : (apos.endLine == pos.line) = true := by rfl) (hst : starEach (e :: es) X.env = (false, eval e X.env) :: starEach es X.env := by rfl) (hplain : (backTo pos (starEach es X.env)).any (·.1) = false := by rfl) :
    ME ca X (.Call (.Attribute (.Name x p) name apos) (e :: es) [] pos) (eMt i f m) := fun F W tk =>
  PE.imp (pe_bm PySem.F.plainAttrs_list slot hty hm (pe_var hN hv hd hcd) (ha F W tk) hbase hfew hline hst hplain) fun σ H Q ⟨ow, env, R, g⟩ => by
    obtain ⟨q, l, xs, he, hp, ⟨vs, h1, h2⟩, g⟩ := okL_go R g
    refine ⟨.ref q, hp, .inl ⟨rfl, _, SqL.of h1⟩, go_bind R g fun as e1 us ow1 H1 g1 R1 p1 q1 => ?_⟩
    obtain ⟨xs', z, ys, vs', hf, h1', w', h2', k⟩ := mutL_go R1 hp q1
    exact hs xs' _ z ys ow1 H1 q vs' us Q hf h1' w' h2' (AvA.sv R1 p1) k
theorem me_mt0 (i : Nat) {x name : Str} {p apos : Pos} {id : String} {r : V → List V → Hp → VK → Prop} {f : List D → List Sl → Option (D × List D)} (slot : Slot "list" name id) (hty : typeOf (.builtin id) = pure (.type "method_descriptor")) (hm : MtR X id r) (hs : MtS X.K ca r f)
    (hN : X.N[i]? = some x := by rfl) (hv : Vis X.env.scope x := by first | exact Or.inl rfl | exact Or.inr (Or.inl rfl) | exact Or.inr (Or.inr rfl)) (hd : (x == ("__debug__" : Str)) = false := by decide) (hcd : (x == ("__classdict__" : Str)) = false := by decide)
    (hbase : attributeBase (.Name x p) name X.env (eval (.Name x p) X.env) = eval (.Name x p) X.env := by rfl) (hline : (apos.endLine == pos.line) = true := by rfl) :
    ME ca X (.Call (.Attribute (.Name x p) name apos) [] [] pos) (eMt i f aNil) := fun F W tk =>
  PE.imp (pe_bm0 PySem.F.plainAttrs_list slot hty hm (pe_var hN hv hd hcd) hbase hline) fun σ H Q ⟨ow, env, R, g⟩ => by
    obtain ⟨q, l, xs, he, hp, ⟨vs, h1, h2⟩, g⟩ := okL_go R g
    refine ⟨.ref q, hp, .inl ⟨rfl, _, SqL.of h1⟩, ?_⟩
    have g' : GoG X.K ca F W (PD X.K) H ow env H σ Q (mutL i (fun xs => f xs []) env) := g
    obtain ⟨xs', z, ys, vs', hf, h1', w', h2', k⟩ := mutL_go R hp g'
    exact hs xs' _ z ys ow H q vs' [] Q hf h1' w' h2' (by unfold SvA; rfl) k
@[simp] def fApp : List D → List Sl → Option (D × List D) := fun xs ss => match ss with
  | [.d y] => if xs.length < LIM then some (.none, xs ++ [y]) else none
  | _ => none
theorem mts_app {K : PySem.W.Frag} : MtS K ca rAppend fApp := fun xs ss z ys ow H p vs us Q hf h1 w h2 h3 k => by
  unfold fApp at hf
  split at hf
  · obtain ⟨hl, e⟩ := ite_some hf
    cases e
    unfold SvA at h3
    obtain ⟨v, us', rfl, hv, t⟩ := h3
    unfold SvA at t
    subst t
    exact ⟨p, vs, v, rfl, rfl, h1, lim_lt (by rw [← h2.length]; exact hl), k .non _ (by unfold Rp; rfl) (RpA.snoc (hv (by simp)) h2)⟩
  · cases hf
theorem RpA.append {K : PySem.W.Frag} {ow : Addr → Prop} {H : Hp} : ∀ {xs ys : List D} {us vs : List V}, RpA K ow H xs us → RpA K ow H ys vs → RpA K ow H (xs ++ ys) (us ++ vs)
  | [], _, _, _, h, h2 => by
    unfold RpA at h
    subst h
    exact h2
  | x :: xs, _, _, _, h, h2 => by
    unfold RpA at h
    obtain ⟨u, us, rfl, h1, h3⟩ := h
    show RpA K ow H (x :: (xs ++ _)) (u :: (us ++ _))
    unfold RpA
    exact ⟨u, _, rfl, h1, RpA.append h3 h2⟩
/-- the items of a list -/
@[simp] def slL : Sl → Option (List D)
  | .d (.list xs) => some xs
  | .o _ (.lst xs) => some xs
  | _ => none
theorem slL_ok {K : PySem.W.Frag} {ow : Addr → Prop} {H : Hp} {s : Sl} {v : V} {xs : List D} (h : slL s = some xs) (r : s ≠ .un → SvR K ca ow H s v) : ∃ a us, v = .ref a ∧ H a = some (.lst us) ∧ RpA K ow H xs us := by
  unfold slL at h
  split at h
  · cases h
    have r' : Rp K ow H (.list xs) v := r (by simp)
    unfold Rp at r'
    obtain ⟨a, us, e, h1, _, h2⟩ := r'
    exact ⟨a, us, e, h1, h2⟩
  · cases h
    obtain ⟨p, e, w, us, h1, h2⟩ := r (by simp)
    exact ⟨p, us, e, h1, h2⟩
  · cases h
def fExt : List D → List Sl → Option (D × List D) := fun xs ss => match ss with
  | [s] => (slL s).bind fun ys => if xs.length + ys.length ≤ LIM then some (.none, xs ++ ys) else none
  | _ => none
theorem mts_ext {K : PySem.W.Frag} : MtS K ca rExtend fExt := fun xs ss z ys ow H p vs us Q hf h1 w h2 h3 k => by
  unfold fExt at hf
  split at hf
  · rename_i s
    obtain ⟨ys', ey, hf⟩ := Option.bind_eq_some_iff.mp hf
    obtain ⟨hl, e⟩ := ite_some hf
    cases e
    unfold SvA at h3
    obtain ⟨v, us', rfl, hv, t⟩ := h3
    unfold SvA at t
    subst t
    obtain ⟨b, zs, rfl, h4, h5⟩ := slL_ok ey hv
    exact ⟨p, b, vs, zs, rfl, rfl, h1, h4, lim_line (by rw [← h2.length, ← h5.length]; exact hl), k .non _ (by unfold Rp; rfl) (RpA.append h2 h5)⟩
  · cases hf
@[simp] def fPop : List D → List Sl → Option (D × List D) := fun xs ss => match ss with
  | [] => xs.getLast?.map fun y => (y, xs.dropLast)
  | _ => none
theorem RpA.dropLast {K : PySem.W.Frag} {ow : Addr → Prop} {H : Hp} : ∀ {xs : List D} {us : List V}, RpA K ow H xs us → RpA K ow H xs.dropLast us.dropLast
  | [], _, h => by
    unfold RpA at h
    subst h
    show RpA K ow H [] []
    unfold RpA; rfl
  | [x], _, h => by
    unfold RpA at h
    obtain ⟨u, us, rfl, h1, h2⟩ := h
    unfold RpA at h2
    subst h2
    show RpA K ow H [] []
    unfold RpA; rfl
  | x :: y :: r, _, h => by
    unfold RpA at h
    obtain ⟨u, us, rfl, h1, h2⟩ := h
    have h2' := h2
    unfold RpA at h2
    obtain ⟨u2, us2, rfl, h3, h4⟩ := h2
    show RpA K ow H (x :: (y :: r).dropLast) (u :: (u2 :: us2).dropLast)
    unfold RpA
    exact ⟨u, _, rfl, h1, RpA.dropLast h2'⟩
theorem RpA.last {K : PySem.W.Frag} {ow : Addr → Prop} {H : Hp} {xs : List D} {us : List V} {y : D} (h : RpA K ow H xs us) (e : xs.getLast? = some y) : ∃ v, us[us.length - 1]? = some v ∧ Rp K ow H y v := by
  rw [List.getLast?_eq_getElem?] at e
  have hl : xs.length - 1 < xs.length := (List.getElem?_eq_some_iff.mp e).1
  obtain ⟨v, hv⟩ := some_of_lt (xs := us) (i := us.length - 1) (by rw [← h.length]; exact hl)
  refine ⟨v, hv, h.get (i := xs.length - 1) e (by rw [h.length]; exact hv)⟩
theorem mts_pop {K : PySem.W.Frag} : MtS K ca rPop fPop := fun xs ss z ys ow H p vs us Q hf h1 w h2 h3 k => by
  unfold fPop at hf
  split at hf
  · obtain ⟨y, ey, e⟩ := Option.map_eq_some_iff.mp hf
    cases e
    unfold SvA at h3
    subst h3
    obtain ⟨v, hv, rv⟩ := h2.last ey
    exact ⟨p, vs, v, rfl, rfl, h1, hv, k v _ rv h2.dropLast⟩
  · cases hf
/-! ### xs[i] = e -/
def sSetIx (i : Nat) (me mi : M D) : MStm := xS me fun v => xS (okL i) fun _ => xS mi fun ix => fun e => match ix, e[i]? with
  | .int j, some (.o l (.lst xs)) => match ixN xs.length j with
    | some n => .nx (e.set i (.o l (.lst (xs.set n v))))
    | none => .bad
  | _, _ => .bad
theorem RpA.set {K : PySem.W.Frag} {ow : Addr → Prop} {H : Hp} {y : D} {v : V} (r : Rp K ow H y v) : ∀ {xs : List D} {us : List V} (n : Nat), RpA K ow H xs us → RpA K ow H (xs.set n y) (us.set n v)
  | [], _, n, h => by
    unfold RpA at h
    subst h
    cases n <;> (show RpA K ow H [] []; unfold RpA; rfl)
  | x :: xs, _, n, h => by
    unfold RpA at h
    obtain ⟨u, us, rfl, h1, h2⟩ := h
    cases n with
    | zero =>
      show RpA K ow H (y :: xs) (v :: us)
      unfold RpA
      exact ⟨v, us, rfl, r, h2⟩
    | succ n =>
      show RpA K ow H (x :: xs.set n y) (u :: us.set n v)
      unfold RpA
      exact ⟨u, _, rfl, h1, RpA.set r n h2⟩
theorem ms_setIx (i : Nat) {x : Str} {p sp : Pos} {ix : Expr} {me mi : M D} (he : ME ca X e me) (hi : ME ca X ix mi) (hN : X.N[i]? = some x := by rfl) (hv : Vis X.env.scope x := by first | exact Or.inl rfl | exact Or.inr (Or.inl rfl) | exact Or.inr (Or.inr rfl)) (hd : (x == ("__debug__" : Str)) = false := by decide) (hcd : (x == ("__classdict__" : Str)) = false := by decide)
    (hss : swapsWithSole [.Subscript (.Name x p) ix sp] e pos.line X.env = pure false := by rfl) (hw : swappedStores [.Subscript (.Name x p) ix sp] e X.env = pure none := by rfl) (h1 : (assignEach [.Subscript (.Name x p) ix sp] X.env).map (·.2) = [assign (.Subscript (.Name x p) ix sp) X.env] := by rfl)
    (hsub : ∀ v, assign (.Subscript (.Name x p) ix sp) X.env v = (do
      let ov ← holding [v] (eval (.Name x p) X.env)
      let iv ← holding [v, ov] (eval ix X.env)
      standAt sp
      holding [v, ov, iv] (setItem ov iv v)
      release [v, ov, iv] []) := by intro _; rfl) : MS ca X (.Assign [.Subscript (.Name x p) ix sp] e pos) (sSetIx i me mi) := fun F W tk hp =>
  PS.imp (ps_asg (he F W tk) (pg_sub (pe_var hN hv hd hcd) (hi F W tk) set_list hsub) hss hw h1) fun Dn σ H ⟨ow, env, R, g⟩ => by
    refine go_stm R g fun y e1 v ow1 H1 g1 R1 p1 q1 => ?_
    unfold xS at q1
    cases hk : okL i e1 with
    | ok u e2 =>
      rw [hk] at q1
      unfold okL at hk
      split at hk
      · rename_i l xs hl
        cases hk
        obtain ⟨q, hq, w, vs, h1, h2⟩ := R1.own hl
        refine ⟨.ref q, hq, go_stm R1 q1 fun iz e3 v3 ow3 H3 g3 R3 p3 q3 => ?_⟩
        cases iz with
        | int j =>
          split at q3
          · rename_i j' l' xs' ej he3
            cases ej
            split at q3
            · rename_i n hn
              obtain ⟨q', hq', w', vs', h1', h2'⟩ := R3.own he3
              rw [hq] at hq'
              cases hq'
              have p3' : Rp X.K ow3 H3 (.int j) v3 := p3
              unfold Rp at p3'
              have st : Stp ow3 H3 ow3 (upd H3 q (.lst (vs'.set n v))) := stp_mut w'
              refine ⟨q, vs', j, n, rfl, p3', h1', by rw [← h2'.length]; exact hn, ?_⟩
              refine q3 σ ow3 _ st (R3.mut he3 hq ⟨_, upd_same, (RpA.set (Rp.stp g3.stp _ _ p1) n h2').stp st⟩)
            · exact q3.elim
          · exact q3.elim
        | _ => exact q3.elim
      · cases hk
    | ex c e2 => unfold okL at hk; split at hk <;> cases hk
    | bad => rw [hk] at q1; exact q1.elim
/-! ### x op= e -/
def sAug (i : Nat) (g : Sl → Sl → Option D) (m : M D) : MStm := fun e => match e[i]? with
  | some (.d x) => xS m (fun y e2 => match g (.d x) (.d y) with
    | some z => .nx (e2.set i (.d z))
    | none => .bad) e
  | _ => .bad
theorem ms_aug (i : Nat) {x : Str} {p : Pos} {op : Operator} {r : R2} {g : Sl → Sl → Option D} {m : M D} (ho : OpR X (inplaceOp op) r) (hs : OpS X.K ca r g) (he : ME ca X e m) (hN : X.N.Nodup) (hi : X.N[i]? = some x := by rfl) (hx : Loc X.env.scope x := by first | exact Or.inl rfl | exact Or.inr rfl) (hf : X.fn x = true ∨ X.env.scope.names.lookup x = some .local := by first | exact .inl rfl | exact .inr rfl) :
    MS ca X (.AugAssign (.Name x p) op e pos) (sAug i g m) := fun F W tk hp => PS.imp (ps_aug (i := i) (ti := r) hN hi hx (he F W tk) (fun pins s σ H x y v u Q I rx ry q => ho pins s σ H x y v u Q I rx ry q) hf) fun Dn σ H ⟨ow, env, R, gg⟩ => by
  unfold sAug at gg
  split at gg
  · rename_i x hx0
    obtain ⟨v, hv, rv⟩ := R.data hx0
    refine ⟨v, hv, go_stm R gg fun y e1 u ow1 H1 g1 R1 p1 q1 => ?_⟩
    split at q1
    · rename_i z hz
      exact hs _ _ z ow1 H1 v u _ hz (fun _ => rv.stp g1.stp) (fun _ => p1) R1.trk fun w H' gr rw => q1 _ ow1 H' gr.stp ((R1.gr gr).set rw)
    · exact q1.elim
  · exact gg.elim
/-! ### a, b = x, y -/
@[simp] def avSl : AV → Option Sl
  | .d x => some (.d x)
  | .fr k => some (.o true k)
  | .ref _ => none
def sPar (i j : Nat) (m : M (List AV)) : MStm := xS m fun as => fun e => match as with
  | [a, b] => match avSl a, avSl b with
    | some s, some t => .nx ((e.set i s).set j t)
    | _, _ => .bad
  | _ => .bad
theorem Rel.setAv {K : PySem.W.Frag} {F : Fr} {ow : Addr → Prop} {H : Hp} {env : List Sl} {σ : St} {a : AV} {s : Sl} {v : V} {i : Nat} (R : Rel K ca F ow env σ H) (h : AvR K ca F ow H env σ a v) (e : avSl a = some s) : Rel K ca F ow (env.set i s) (σ.set i (some v)) H := by
  cases a with
  | d x => cases e; exact R.set h
  | fr k => cases e; obtain ⟨p, rfl, r, L⟩ := h; exact R.setO L r
  | ref j => cases e
theorem ms_par (i j : Nat) {x y : Str} {px py pt : Pos} {kt k2 : Nat} {pt2 : Pos} {m : M (List AV)} (ha : MA ca X [a, b] m) (hN : X.N.Nodup) (hi : X.N[i]? = some x := by rfl) (hj : X.N[j]? = some y := by rfl) (hij : i ≠ j := by decide) (hc : X.calm = true := by rfl)
    (hx : X.env.scope.names.lookup x = some .local := by rfl) (hy : X.env.scope.names.lookup y = some .local := by rfl) (hw : swappedStores [.Tuple [.Name x px, .Name y py] kt pt] (.Tuple [a, b] k2 pt2) X.env = pure (some [x, y]) := by rfl)
    (hs : swapsWithSole [.Tuple [.Name x px, .Name y py] kt pt] (.Tuple [a, b] k2 pt2) pos.line X.env = pure false := by rfl) : MS ca X (.Assign [.Tuple [.Name x px, .Name y py] kt pt] (.Tuple [a, b] k2 pt2) pos) (sPar i j m) := fun F W tk hp =>
  PS.imp (ps_par hc hN hi hj hij hx hy (ha F W tk) hw hs) fun Dn σ H ⟨ow, env, R, g⟩ => go_stm R g fun as e1 vs ow1 H1 g1 R1 p1 q1 => by
    split at q1
    · rename_i a b
      have p1' : AvA X.K ca F H ow1 H1 e1 σ [a, b] vs := p1
      unfold AvA at p1'
      obtain ⟨v, us, rfl, ra, fa, t⟩ := p1'
      unfold AvA at t
      obtain ⟨w, us2, rfl, rb, fb, t2⟩ := t
      unfold AvA at t2
      subst t2
      split at q1
      · rename_i s t hs ht
        refine ⟨v, w, rfl, q1 _ ow1 H1 Stp.refl ?_⟩
        have Ra := R1.setAv (i := i) ra hs
        refine Ra.setAv (i := j) (a := b) (v := w) ?_ ht
        -- the second one stands as it did
        cases b with
        | d z => exact rb
        | ref n => cases ht
        | fr k =>
          obtain ⟨p, rfl, r, L⟩ := rb
          refine ⟨p, rfl, r, L.1, L.2.1, L.2.2.1, fun n l k1 h1 h2 => ?_⟩
          by_cases en : i = n
          · subst en
            have hl : i < e1.length := by
              have := (List.getElem?_eq_some_iff.mp h1).1
              rwa [List.length_set] at this
            rw [List.getElem?_set_self hl] at h1
            rw [List.getElem?_set_self (by rw [← R1.len]; exact hl)] at h2
            cases h2
            cases a with
            | d z => cases hs; cases h1
            | ref z => cases hs
            | fr k3 =>
              have q := (fa rfl p rfl).2
              unfold FrNot at q
              exact q.1 rfl rfl
          · rw [List.getElem?_set_ne en] at h1 h2
            exact L.2.2.2 n l k1 h1 h2
      · exact q1.elim
    · exact q1.elim
/-! ### raise -/
def sRaise (c : Str) : MStm := fun e => .ex c e
theorem ms_raise (c : Str) (pm : PMk X e (fun _ H Q => Q (.ref (ca c)) none H)) (hc : X.calm = true := by rfl) : MS ca X (.Raise (some e) none pos) (sRaise c) := fun F W tk hp => PS.imp (ps_raise hc tk.t pm) fun Dn σ H ⟨ow, env, R, g⟩ => g σ ow H Stp.refl R
/-! ### try -/
def noXc (e : List Sl) : Bool := e.all fun s => match s with
  | .xc => false
  | _ => true
theorem Rel.toXa {K : PySem.W.Frag} {F : Fr} {ow : Addr → Prop} {H : Hp} {e : List Sl} {σ : St} {xa xb : Addr} (R : Rel K ca { F with xa := xa } ow e σ H) (n : noXc e = true) : Rel K ca { F with xa := xb } ow e σ H where
  len := R.len
  sl := fun i s v h1 h2 => by
    have q := R.sl i s v h1 h2
    cases s with
    | un => exact q
    | d x => exact q
    | o l k => cases l <;> exact q
    | sc ns => exact q
    | xc =>
      have z := (List.all_eq_true.mp n) .xc (List.mem_of_getElem? h1)
      cases z
  dis := R.dis
  keep := R.keep
  dom := R.dom
  sub := R.sub
  trk := R.trk
  knd := R.knd
  tab := R.tab
/-- an except clause's class: does it take the errors of class c? told by K -/
def Takes1 (K : PySem.W.Frag) (ca : CA) (h : Value) (f : Str → Option Bool) : Prop := ∀ c b, f c = some b → PySem.W.exmOne K (.ref (ca c)) h = some b
/-- behind an except suite: the error's name is gone -/
def unX (i : Nat) (e : List Sl) (k : List Sl → SR) : SR := if noXc (e.set i .un) = true then k (e.set i .un) else .bad
def outX (i : Nat) : SR → SR
  | .nx e => unX i e .nx
  | .bk e => unX i e .bk
  | .ct e => unX i e .ct
  | .rt (.d x) e => unX i e (.rt (.d x))
  | _ => .bad
/-- try: body; except x as n: suite -/
def sTryAs (i : Nat) (f : Str → Option Bool) (mb : MStm) (ms : Str → MStm) : MStm := fun e => match mb e with
  | .ex c e1 => match f c with
    | some true => if noXc e1 = true then outX i (ms c (e1.set i .xc)) else .bad
    | some false => .ex c e1
    | none => .bad
  | r => r
theorem Rel.setXc {K : PySem.W.Frag} {F : Fr} {ow : Addr → Prop} {H : Hp} {e : List Sl} {σ : St} {i : Nat} (R : Rel K ca F ow e σ H) : Rel K ca F ow (e.set i .xc) (σ.set i (some (.ref F.xa))) H := by
  have R0 : Rel K ca F ow (e.set i .un) (σ.set i (some (.ref F.xa))) H := R.drop
  refine ⟨by rw [List.length_set, List.length_set]; exact R.len, fun j s v h1 h2 => ?_, fun j j' p l l' k k' h1 h2 h3 h4 => ?_, R.keep, R.dom, R.sub, R.trk, R.knd, R.tab⟩
  · by_cases ej : i = j
    · subst ej
      by_cases hl : i < e.length
      · rw [List.getElem?_set_self hl] at h1
        rw [List.getElem?_set_self (by rw [← R.len]; exact hl)] at h2
        cases h1; cases h2
        rfl
      · rw [List.getElem?_eq_none (by simpa using hl)] at h1; cases h1
    · refine R0.sl j s v ?_ h2
      rw [List.getElem?_set_ne ej] at h1 ⊢
      exact h1
  · have ne : ∀ {j : Nat} {l : Bool} {k : Ob}, (e.set i .xc)[j]? = some (Sl.o l k) → (e.set i .un)[j]? = some (Sl.o l k) := fun {j l k} h => by
      by_cases ej : i = j
      · subst ej
        by_cases hl : i < e.length
        · rw [List.getElem?_set_self hl] at h; cases h
        · rw [List.getElem?_eq_none (by simpa using hl)] at h; cases h
      · rw [List.getElem?_set_ne ej] at h ⊢
        exact h
    exact R0.dis j j' p l l' k k' (ne h1) (ne h2) h3 h4
theorem ms_try_as (i : Nat) {x n : Str} {np pos' : Pos} {body suite : List Stmt} {b₀ : Stmt} {cv : Value} {f : Str → Option Bool} {mb : MStm} {ms : Str → MStm} (hc : Names X x cv) (ht : Takes1 X.K ca cv f)
    (hb : ∀ (pn : List (Addr × Obj)) (xe : Value → Shared → Prop), MSs ca (X.tr pn xe) body mb)
    (hsu : ∀ (c : Str) (a : Addr) (oe : Obj) (pn : List (Addr × Obj)), f c = some true → Zc (.ref (ca c)) none oe → (∃ vs, oe.data = .fields vs) → MSs ca (X.suite a ((a, oe) :: pn)) (b₀ :: suite) (ms c))
    (hN : X.N.Nodup) (hi : X.N[i]? = some n := by rfl) (hln : X.env.kindOf n = some .local := by rfl) (hs : X.stack = X.env :: X.outer := by rfl) (hf : X.env.frame = some X.env.locals := by rfl) :
    MS ca X (.Try body [.ExceptHandler (some (.Name x np)) (some n) (b₀ :: suite) pos'] [] [] pos) (sTryAs i f mb ms) := fun F W tk hp => by
  refine PS.imp (ps_try_as (Wout := W) (tb := fun W' => tS X.K ca F W' mb) (ts := fun a cls d => fun D σ H => ∃ c, f c = some true ∧ cls = .ref (ca c) ∧ d = none ∧ tS X.K ca { F with xa := a } (fun _ _ _ _ => False) (ms c) D σ H) hs hf hN hi hln hc tk.t (fun W' pn xe t hp' => hb pn xe F W' ⟨t, tk.h⟩ hp') (fun a oe cls d pn hz hv => ?_)) fun Dn σ H ⟨ow, env, R, g⟩ => ?_
  · refine ⟨fun pins s σ H D I h => ?_⟩
    obtain ⟨c, hfc, rfl, rfl, h⟩ := h
    exact (hsu c a oe pn hfc hz hv { F with xa := a } _ ⟨takes0, fun a' e => by
      have e' : some (Value.ref a) = some (Value.ref a') := e
      cases e'; rfl⟩ PassesOwn.never).run pins s σ H D I h
  · refine ⟨ow, env, R, ?_⟩
    unfold sTryAs at g
    cases hm : mb env with
    | nx e => rw [hm] at g; exact g
    | bk e => rw [hm] at g; exact g
    | ct e => rw [hm] at g; exact g
    | rt r e => rw [hm] at g; cases r <;> exact g
    | bad => rw [hm] at g; exact g
    | ex c e1 =>
      rw [hm] at g
      dsimp only at g
      intro σ1 ow1 H1 s1 R1
      cases hfc : f c with
      | none => rw [hfc] at g; exact g.elim
      | some b =>
        rw [hfc] at g
        refine ⟨b, ht c b hfc, fun eb a ha => ?_, fun eb => ?_⟩
        · subst eb
          dsimp only at g
          by_cases hx : noXc e1 = true
          · rw [if_pos hx] at g
            refine ⟨c, hfc, rfl, rfl, ow1, e1.set i .xc, ?_, ?_⟩
            · have R2 : Rel X.K ca { F with xa := a } ow1 e1 σ1 H1 := R1.toXa (F := F) (xa := F.xa) hx
              exact R2.setXc
            · have g1 := g.mono s1
              have back : ∀ {e2 : List Sl} {σ2 : St} {ow2 : Addr → Prop} {H2 : Hp}, Rel X.K ca { F with xa := a } ow2 e2 σ2 H2 → noXc (e2.set i .un) = true → Rel X.K ca F ow2 (e2.set i .un) (σ2.set i none) H2 := fun {e2 σ2 ow2 H2} R2 hn => Rel.toXa (F := F) (xb := F.xa) R2.drop hn
              cases hms : ms c (e1.set i .xc) with
              | nx e2 =>
                rw [hms] at g1
                by_cases hn : noXc (e2.set i .un) = true
                · have q : outX i (.nx e2) = .nx (e2.set i .un) := by show unX i e2 .nx = _; unfold unX; rw [if_pos hn]
                  rw [q] at g1
                  exact fun σ2 ow2 H2 s2 R2 => g1 _ ow2 H2 s2 (back R2 hn)
                · have q : outX i (.nx e2) = .bad := by show unX i e2 .nx = _; unfold unX; rw [if_neg hn]
                  rw [q] at g1; exact g1.elim
              | bk e2 =>
                rw [hms] at g1
                by_cases hn : noXc (e2.set i .un) = true
                · have q : outX i (.bk e2) = .bk (e2.set i .un) := by show unX i e2 .bk = _; unfold unX; rw [if_pos hn]
                  rw [q] at g1
                  exact fun σ2 ow2 H2 s2 R2 => g1 _ ow2 H2 s2 (back R2 hn)
                · have q : outX i (.bk e2) = .bad := by show unX i e2 .bk = _; unfold unX; rw [if_neg hn]
                  rw [q] at g1; exact g1.elim
              | ct e2 =>
                rw [hms] at g1
                by_cases hn : noXc (e2.set i .un) = true
                · have q : outX i (.ct e2) = .ct (e2.set i .un) := by show unX i e2 .ct = _; unfold unX; rw [if_pos hn]
                  rw [q] at g1
                  exact fun σ2 ow2 H2 s2 R2 => g1 _ ow2 H2 s2 (back R2 hn)
                · have q : outX i (.ct e2) = .bad := by show unX i e2 .ct = _; unfold unX; rw [if_neg hn]
                  rw [q] at g1; exact g1.elim
              | rt r e2 =>
                rw [hms] at g1
                cases r with
                | d z =>
                  by_cases hn : noXc (e2.set i .un) = true
                  · have q : outX i (.rt (.d z) e2) = .rt (.d z) (e2.set i .un) := by show unX i e2 (.rt (.d z)) = _; unfold unX; rw [if_pos hn]
                    rw [q] at g1
                    exact fun v σ2 ow2 H2 s2 R2 rp => g1 v _ ow2 H2 s2 (back R2 hn) rp
                  · have q : outX i (.rt (.d z) e2) = .bad := by show unX i e2 (.rt (.d z)) = _; unfold unX; rw [if_neg hn]
                    rw [q] at g1; exact g1.elim
                | o k => exact g1.elim
              | ex c2 e2 => rw [hms] at g1; exact g1.elim
              | bad => rw [hms] at g1; exact g1.elim
          · rw [if_neg hx] at g; exact g.elim
        · subst eb
          exact (g.mono s1) σ1 ow1 H1 Stp.refl R1
/-- isinstance(n, C), n the error that is handled -/
def eIsE (i : Nat) (b : Bool) : M D := fun e => match e[i]? with
  | some .xc => .ok (.bool b) e
  | _ => .bad
end
end ML
end

section
set_option Elab.async false
set_option linter.all false
set_option maxRecDepth 100000
set_option maxHeartbeats 2000000
/-! # Instances: fields, methods, making -/
namespace ML
open PySem L2
section
variable {ca : CA} {X : Cx} {pos : Pos} {e a b c : Expr} {es : List Expr}
theorem me_isE (i : Nat) {x xc : Str} {p p1 p2 : Pos} {ae : Addr} {oe : Obj} {pn : List (Addr × Obj)} {Dc : Addr} {cv : Value} {v : V} {b : Bool} (C : ExcC X.K Dc) (hz : Zc (.ref Dc) none oe) (hf : ∃ vs, oe.data = .fields vs) (hcv : ∀ u, RelV v u → u = cv) (hk : PySem.W.kitOne X.K (.ref Dc) cv = some b)
    (hm : X.mg "isinstance" = none) (hc : PE (X.suite ae ((ae, oe) :: pn)) (.Name xc p2) (tC v)) (hN : X.N[i]? = some x := by rfl) (hv : Vis X.env.scope x := by first | exact Or.inl rfl | exact Or.inr (Or.inl rfl) | exact Or.inr (Or.inr rfl)) (hg : Gl X "isinstance" := by rfl) (hd : (x == ("__debug__" : Str)) = false := by decide) (hcd : (x == ("__classdict__" : Str)) = false := by decide)
    (he1 : starEach [.Name x p1, .Name xc p2] (X.suite ae ((ae, oe) :: pn)).env = (false, eval (.Name x p1) (X.suite ae ((ae, oe) :: pn)).env) :: starEach [.Name xc p2] (X.suite ae ((ae, oe) :: pn)).env := by rfl)
    (he2 : starEach [.Name xc p2] (X.suite ae ((ae, oe) :: pn)).env = (false, eval (.Name xc p2) (X.suite ae ((ae, oe) :: pn)).env) :: starEach [] (X.suite ae ((ae, oe) :: pn)).env := by rfl)
    (hpl : (backTo pos (starEach [.Name xc p2] (X.suite ae ((ae, oe) :: pn)).env)).any (·.1) = false := by rfl) :
    ME ca (X.suite ae ((ae, oe) :: pn)) (.Call (.Name "isinstance" p) [.Name x p1, .Name xc p2] [] pos) (eIsE i b) := fun F W tk =>
  PE.imp (pe_callB (X := X.suite ae ((ae, oe) :: pn)) (call_isE C hz hf) hg hm (by decide +kernel) (pa_cons (pe_var (X := X.suite ae ((ae, oe) :: pn)) hN hv hd hcd) (pa_cons hc pa_nil he2) he1) (by decide) (by decide) he1 hpl) fun σ H Q ⟨ow, env, R, g⟩ => by
    unfold eIsE at g
    split at g
    · rename_i h
      obtain ⟨u, hu, r⟩ := SlR.at R h
      have r' : u = some (.ref F.xa) := r
      have hxa : F.xa = ae := tk.h ae rfl
      rw [hxa] at r'
      subst r'
      exact ⟨.ref ae, hu, v, cv, b, rfl, hcv, hk, g (.bl b) ow H Go.refl R (by show Rp _ _ _ (.bool b) _; unfold Rp; rfl)⟩
    · exact g.elim
/-! ### fields -/
theorem RpF.lookup {K : PySem.W.Frag} {ow : Addr → Prop} {H : Hp} : ∀ {fs : List (Str × D)} {us : List (Str × V)}, RpF K ow H fs us → ∀ f, (fs.lookup f = none → us.lookup f = none) ∧ ∀ x, fs.lookup f = some x → ∃ v, us.lookup f = some v ∧ Rp K ow H x v
  | _, _, .nil, f => ⟨fun _ => rfl, fun x h => by cases h⟩
  | (n, x) :: fs, (n', v) :: us, .cons h t, f => by
    obtain ⟨en, r⟩ := h
    have en' : n = n' := en
    subst en'
    obtain ⟨i1, i2⟩ := RpF.lookup (fs := fs) (us := us) t f
    have e1 : ((n, x) :: fs).lookup f = if (f == n) = true then some x else fs.lookup f := by rw [List.lookup_cons]; cases (f == n) <;> rfl
    have e2 : ((n, v) :: us).lookup f = if (f == n) = true then some v else us.lookup f := by rw [List.lookup_cons]; cases (f == n) <;> rfl
    rw [e1, e2]
    by_cases z : (f == n) = true
    · rw [if_pos z, if_pos z]
      exact ⟨fun h => (by cases h), fun y h => (by cases h; exact ⟨v, rfl, r⟩)⟩
    · rw [if_neg z, if_neg z]
      exact ⟨i1, i2⟩
/-- a field of an instance of c that slot i holds -/
def eFld (i : Nat) (c f : Str) : M D := fun e => match e[i]? with
  | some (.o _ (.ins c' fs)) => if c' = c then lift (fs.lookup f) e else .bad
  | _ => .bad
theorem me_fld (i : Nat) (c : Str) {x f : Str} {p : Pos} (hc : Cls X.K (ca c)) (hn : NoAttr X.K (ca c) f) (hN : X.N[i]? = some x := by rfl) (hv : Vis X.env.scope x := by first | exact Or.inl rfl | exact Or.inr (Or.inl rfl) | exact Or.inr (Or.inr rfl)) (hd : (x == ("__debug__" : Str)) = false := by decide) (hcd : (x == ("__classdict__" : Str)) = false := by decide)
    (hb : attributeBase (.Name x p) f X.env (eval (.Name x p) X.env) = eval (.Name x p) X.env := by rfl) : ME ca X (.Attribute (.Name x p) f pos) (eFld i c f) := fun F W tk => PE.imp (pe_fld (pe_var hN hv hd hcd) hb) fun σ H Q ⟨ow, env, R, g⟩ => by
  unfold eFld at g
  split at g
  · rename_i l c' fs he
    by_cases hcc : c' = c
    · subst hcc
      rw [if_pos rfl] at g
      obtain ⟨y, hy, g⟩ := lift_go g
      obtain ⟨q, hq, w, dx, us, h1, h2⟩ := R.own he
      obtain ⟨v, hv, rv⟩ := (h2.lookup f).2 y hy
      exact ⟨.ref q, hq, q, _, dx, us, v, rfl, h1, hc, hn, hv, g v ow H Go.refl R rv⟩
    · rw [if_neg hcc] at g; exact g.elim
  · exact g.elim
def putFD (f : Str) (v : D) : List (Str × D) → List (Str × D)
  | [] => [(f, v)]
  | p :: r => if p.1 = f then (f, v) :: r else p :: putFD f v r
theorem RpF.put {K : PySem.W.Frag} {ow : Addr → Prop} {H : Hp} {f : Str} {y : D} {v : V} (r : Rp K ow H y v) : ∀ {fs : List (Str × D)} {us : List (Str × V)}, RpF K ow H fs us → RpF K ow H (putFD f y fs) (putF f v us)
  | _, _, .nil => .cons ⟨rfl, r⟩ .nil
  | (n, x) :: fs, (n', u) :: us, .cons h t => by
    obtain ⟨en, r1⟩ := h
    have en' : n = n' := en
    subst en'
    have e1 : putFD f y ((n, x) :: fs) = if n = f then (f, y) :: fs else (n, x) :: putFD f y fs := rfl
    have e2 : putF f v ((n, u) :: us) = if n = f then (n, v) :: us else (n, u) :: putF f v us := rfl
    rw [e1, e2]
    by_cases z : n = f
    · rw [if_pos z, if_pos z]
      exact .cons ⟨z.symm, r⟩ t
    · rw [if_neg z, if_neg z]
      exact .cons ⟨rfl, r1⟩ (RpF.put r t)
def setF (i : Nat) (c f : Str) (v : D) : MStm := fun e => match e[i]? with
  | some (.o l (.ins c' fs)) => if c' = c ∧ fs.length < 1000 then .nx (e.set i (.o l (.ins c (putFD f v fs)))) else .bad
  | _ => .bad
def sFld_ (i : Nat) (c f : Str) (m : M D) : MStm := xS m fun v => setF i c f v
theorem setF_go {K : PySem.W.Frag} {F : Fr} {W : WX} {ow : Addr → Prop} {H : Hp} {env : List Sl} {σ : St} {Dn : Ends} {i : Nat} {c f : Str} {y : D} {v : V} (R : Rel K ca F ow env σ H) (r : Rp K ow H y v) (g : GoS K ca F W ow H Dn (setF i c f y env)) :
    ∃ p dx us, σ[i]? = some (some (.ref p)) ∧ H p = some (.ins (ca c) dx us) ∧ us.length < 1000 ∧ Dn.nx σ (upd H p (.ins (ca c) dx (putF f v us))) := by
  unfold setF at g
  split at g
  · rename_i l c' fs he
    by_cases hcc : c' = c ∧ fs.length < 1000
    · rw [if_pos hcc] at g
      obtain ⟨rfl, hl⟩ := hcc
      obtain ⟨q, hq, w, dx, us, h1, h2⟩ := R.own he
      have st : Stp ow H ow (upd H q (.ins (ca c') dx (putF f v us))) := stp_mut w
      refine ⟨q, dx, us, hq, h1, by rw [← Paired.length h2]; exact hl, g σ ow _ st (R.mut he hq ⟨dx, _, upd_same, RpF.stp st (h2.put r)⟩)⟩
    · rw [if_neg hcc] at g; exact g.elim
  · exact g.elim
theorem ms_fld (i : Nat) (c : Str) {x f : Str} {p pos' : Pos} {m : M D} (h : ME ca X e m) (hc : Cls X.K (ca c)) (hn : NoAttr X.K (ca c) f) (hN : X.N[i]? = some x := by rfl) (hv : Vis X.env.scope x := by first | exact Or.inl rfl | exact Or.inr (Or.inl rfl) | exact Or.inr (Or.inr rfl)) (hd : (x == ("__debug__" : Str)) = false := by decide) (hcd : (x == ("__classdict__" : Str)) = false := by decide)
    (hs : swapsWith e (some (.Attribute (.Name x p) f pos')) pos.line X.env = pure false := by rfl) : MS ca X (.Assign [.Attribute (.Name x p) f pos'] e pos) (sFld_ i c f m) := fun F W tk hp => PS.imp (L2.ps_fld (pe_var hN hv hd hcd) (h F W tk) hs) fun Dn σ H ⟨ow, env, R, g⟩ =>
  go_stm R g fun y e1 v ow1 H1 g1 R1 p1 q1 => by
    obtain ⟨q, dx, us, hq, h1, hl, k⟩ := setF_go R1 p1 q1
    exact ⟨.ref q, hq, q, _, dx, us, rfl, h1, hc, hn, hl, k⟩
def sAugF (i : Nat) (c f : Str) (g : Sl → Sl → Option D) (m : M D) : MStm := xS (eFld i c f) fun x => xS m fun y => fun e => match g (.d x) (.d y) with
  | some z => setF i c f z e
  | none => .bad
theorem ms_fldaug (i : Nat) (c : Str) {x f : Str} {p tpos : Pos} {op : Operator} {r : R2} {g : Sl → Sl → Option D} {m : M D} (ho : OpR X (inplaceOp op) r) (hs : OpS X.K ca r g) (h : ME ca X e m) (hc : Cls X.K (ca c)) (hn : NoAttr X.K (ca c) f) (hN : X.N[i]? = some x := by rfl) (hv : Vis X.env.scope x := by first | exact Or.inl rfl | exact Or.inr (Or.inl rfl) | exact Or.inr (Or.inr rfl)) (hd : (x == ("__debug__" : Str)) = false := by decide) (hcd : (x == ("__classdict__" : Str)) = false := by decide) :
    MS ca X (.AugAssign (.Attribute (.Name x p) f tpos) op e pos) (sAugF i c f g m) := fun F W tk hp => PS.imp (L2.ps_fldaug (rd := r) (pe_var hN hv hd hcd) (h F W tk) (fun pins s σ H x y u v Q I rx ry q => ho pins s σ H x y u v Q I rx ry q)) fun Dn σ H ⟨ow, env, R, gg⟩ => by
  unfold sAugF xS at gg
  cases he : eFld i c f env with
  | ok y e1 =>
    rw [he] at gg
    unfold eFld at he
    split at he
    · rename_i l c' fs hi
      by_cases hcc : c' = c
      · subst hcc
        rw [if_pos rfl] at he
        obtain ⟨q, hq, w, dx, us, h1, h2⟩ := R.own hi
        cases hl : fs.lookup f with
        | none => rw [hl] at he; cases he
        | some y' =>
          rw [hl] at he
          cases he
          obtain ⟨v, hv', rv⟩ := (h2.lookup f).2 y hl
          refine ⟨.ref q, hq, q, _, dx, us, v, rfl, h1, hc, hn, hv', ?_⟩
          refine go_stm (f := fun y2 e => match g (.d y) (.d y2) with
            | some z => setF i c' f z e
            | none => .bad) R gg fun y2 e2 v2 ow2 H2 g2 R2 p2 q2 => ?_
          split at q2
          · rename_i z hz
            refine hs _ _ z ow2 H2 v v2 _ hz (fun _ => Rp.stp g2.stp _ _ rv) (fun _ => p2) R2.trk fun w3 H3 gr r3 => ?_
            obtain ⟨q', dx', us', hq', h1', hl', k⟩ := setF_go (R2.gr gr) r3 (q2.mono gr.stp)
            rw [hq] at hq'
            cases hq'
            exact ⟨dx', us', h1', hl', k⟩
          · exact q2.elim
      · rw [if_neg hcc] at he; cases he
    · cases he
  | ex c2 e1 =>
    unfold eFld at he
    split at he
    · rename_i l c' fs hi
      by_cases hcc : c' = c
      · rw [if_pos hcc] at he
        unfold lift at he
        split at he <;> cases he
      · rw [if_neg hcc] at he; cases he
    · cases he
  | bad => rw [he] at gg; exact gg.elim
/-! ### methods -/
theorem pe_methS {CX : CXT} {C : Addr} {k : Nat} {f : Addr} {fd : FuncData} {ps : List Str} {sp : Sp} {E : St → XK} {o : Expr} {m : Str} {apos : Pos} {ta : TE} {t : TA} {pl : Sem Bool} (he : PE X o ta) (c : Cls X.K C) (hm : Meth X.K C m f) (F : FnOk X.prog X.w X.K X.mg X.base CX k f fd ps sp) (hr : Room k X.A) (hb : Binds X.K fd ps []) (hx : ∀ σ, PassesAt CX X σ (E σ)) (ha : PA X (e :: es) t)
    (hst : starEach (e :: es) X.env = (false, eval e X.env) :: starEach es X.env := by rfl) (hpl : (backTo pos (starEach es X.env)).any (·.1) = false := by rfl)
    (ht : eval (.Call (.Attribute o m apos) (e :: es) [] pos) X.env = (do
      let ov ← eval o X.env
      standAt apos.atName
      let (f, first) ← holding [ov] (getMethod ov m pl)
      callWith pos f first (backTo pos (starEach (e :: es) X.env)) (backToKw pos (keywordEach [] X.env)))) :
    PE X (.Call (.Attribute o m apos) (e :: es) [] pos) (fun σ H Q => ta σ H fun x H1 => ∃ a dx fs, x = .ref a ∧ H1 a = some (.ins C dx fs) ∧ fs.lookup m = none ∧ t σ H1 fun vs H2 => sp (x :: vs) H2 Q (E σ)) := by
  refine ⟨fun pins s σ H Q I h => ?_⟩
  refine PySem.W.methodCall_KW (pl := pl) (thn (he.run pins s σ H _ I h) fun u s1 ⟨x, H1, I1, rx, a, dx, fs, ex, ea, l, q⟩ => ?_) ht
  subst ex
  obtain rfl : u = Value.ref a := rx
  refine getmeth_ok I1 ea c hm l ?_
  refine PySem.W.callWith_K (first := [.ref a]) (h₀ := X.base) I.ok.mod.kin hm.kp (thn (ha.run pos pins s1 σ H1 _ I1 q) fun us s2 ⟨vs, H2, I2, r, q2⟩ => ⟨I2.kIn, ?_⟩) hst hpl
  exact run_fnS (us := .ref a :: us) (vs := .ref a :: vs) F hr hb (hx σ) I2 (.cons rfl r) q2
theorem pe_methS0 {CX : CXT} {C : Addr} {k : Nat} {f : Addr} {fd : FuncData} {ps : List Str} {sp : Sp} {E : St → XK} {o : Expr} {m : Str} {apos : Pos} {ta : TE} {pl : Sem Bool} (he : PE X o ta) (c : Cls X.K C) (hm : Meth X.K C m f) (F : FnOk X.prog X.w X.K X.mg X.base CX k f fd ps sp) (hr : Room k X.A) (hb : Binds X.K fd ps []) (hx : ∀ σ, PassesAt CX X σ (E σ))
    (ht : eval (.Call (.Attribute o m apos) [] [] pos) X.env = (do
      let ov ← eval o X.env
      standAt apos.atName
      let (f, first) ← holding [ov] (getMethod ov m pl)
      callWith pos f first (backTo pos (starEach [] X.env)) (backToKw pos (keywordEach [] X.env)))) :
    PE X (.Call (.Attribute o m apos) [] [] pos) (fun σ H Q => ta σ H fun x H1 => ∃ a dx fs, x = .ref a ∧ H1 a = some (.ins C dx fs) ∧ fs.lookup m = none ∧ sp [x] H1 Q (E σ)) := by
  refine ⟨fun pins s σ H Q I h => ?_⟩
  refine PySem.W.methodCall_KW (pl := pl) (thn (he.run pins s σ H _ I h) fun u s1 ⟨x, H1, I1, rx, a, dx, fs, ex, ea, l, q⟩ => ?_) ht
  subst ex
  obtain rfl : u = Value.ref a := rx
  refine getmeth_ok I1 ea c hm l ?_
  exact PySem.W.callWith_K0 (first := [.ref a]) I1.kIn hm.kp (run_fnS (us := [.ref a]) (vs := [.ref a]) F hr hb (hx σ) I1 (.cons rfl .nil) q)
/-- what is known of a method -/
structure MCal (P : Program) (w : World) (K : PySem.W.Frag) (mg : Str → Option Value) (base : Heap) (ca : CA) (k : Nat) (c m : Str) (n : Nat) (mf : List Sl → CR) : Prop where
  cls : Cls K (ca c)
  ex : ∃ (f : Addr) (fd : FuncData) (ps : List Str), Meth K (ca c) m f ∧ Binds K fd ps [] ∧ FnOk P w K mg base (L2.CX P w) k f fd ps (spM K ca n mf)
/-- slot i holds an instance of c, without an attribute m -/
def okI (i : Nat) (c m : Str) : M Unit := fun e => match e[i]? with
  | some (.o _ (.ins c' fs)) => if c' = c ∧ fs.lookup m = none then .ok () e else .bad
  | _ => .bad
def callMt (i : Nat) (c m : Str) (mf : List Sl → CR) (ma : M (List AV)) : M RV := bind (okI i c m) fun _ => callM mf (bind ma fun as => ret (.ref i :: as))
theorem okI_go {K : PySem.W.Frag} {F : Fr} {W : WX} {β γ : Type} {P : PP γ β} {Hs H : Hp} {ow : Addr → Prop} {env : List Sl} {σ : St} {Q : β → Hp → Prop} {i : Nat} {c m : Str} {f : Unit → M γ} (R : Rel K ca F ow env σ H) (g : GoG K ca F W P Hs ow env H σ Q (bind (okI i c m) f env)) :
    ∃ p dx us, σ[i]? = some (some (.ref p)) ∧ H p = some (.ins (ca c) dx us) ∧ us.lookup m = none ∧ GoG K ca F W P Hs ow env H σ Q (f () env) := by
  unfold bind okI at g
  split at g
  · rename_i a e' hh
    split at hh
    · rename_i l c' fs he
      by_cases hcc : c' = c ∧ fs.lookup m = none
      · rw [if_pos hcc] at hh
        cases hh
        obtain ⟨rfl, hl⟩ := hcc
        obtain ⟨p, hp, w, dx, us, h1, h2⟩ := R.own he
        exact ⟨p, dx, us, hp, h1, (h2.lookup m).1 hl, g⟩
      · rw [if_neg hcc] at hh; cases hh
    · cases hh
  · rename_i c e' hh
    split at hh
    · split at hh <;> cases hh
    · cases hh
  · exact g.elim
theorem mc_meth (i : Nat) {c m : Str} {k n : Nat} {x : Str} {p apos : Pos} {mf : List Sl → CR} {ma : M (List AV)} {pl : Sem Bool} (mc : MCal X.prog X.w X.K X.mg X.base ca k c m n mf) (hr : Room k X.A) (ha : MA ca X (e :: es) ma) (hlen : ∀ env as e', ma env = .ok as e' → as.length + 1 = n)
    (ht : eval (.Call (.Attribute (.Name x p) m apos) (e :: es) [] pos) X.env = (do
      let ov ← eval (.Name x p) X.env
      standAt apos.atName
      let (f, first) ← holding [ov] (getMethod ov m pl)
      callWith pos f first (backTo pos (starEach (e :: es) X.env)) (backToKw pos (keywordEach [] X.env))))
    (hN : X.N[i]? = some x := by rfl) (hv : Vis X.env.scope x := by first | exact Or.inl rfl | exact Or.inr (Or.inl rfl) | exact Or.inr (Or.inr rfl)) (hd : (x == ("__debug__" : Str)) = false := by decide) (hcd : (x == ("__classdict__" : Str)) = false := by decide)
    (hst : starEach (e :: es) X.env = (false, eval e X.env) :: starEach es X.env := by rfl) (hpl : (backTo pos (starEach es X.env)).any (·.1) = false := by rfl) : MC ca X (.Call (.Attribute (.Name x p) m apos) (e :: es) [] pos) (callMt i c m mf ma) := fun F W tk => by
  obtain ⟨f, fd, ps, hm, hb, fn⟩ := mc.ex
  refine PE.imp (pe_methS (pl := pl) (pe_var hN hv hd hcd) mc.cls hm fn hr hb (fun σ => passAt tk.t σ) (ha F W tk) hst hpl ht) fun σ H Q ⟨ow, env, R, g⟩ => ?_
  obtain ⟨q, dx, us, hq, h1, h2, g⟩ := okI_go R g
  refine ⟨.ref q, hq, q, dx, us, rfl, h1, h2, ow, env, R, ?_⟩
  unfold callM at g
  unfold bind at g
  cases hm' : ma env with
  | ok as e1 =>
    have hb' : (bind ma fun as => ret (.ref i :: as)) env = .ok (.ref i :: as) e1 := by unfold bind; rw [hm']; rfl
    unfold bind at hb'
    rw [hb'] at g
    rintro vs ow1 H1 g1 R1 p1
    have p2 : AvA X.K ca F H ow1 H1 e1 σ (.ref i :: as) (.ref q :: vs) := by
      unfold AvA
      exact ⟨.ref q, vs, rfl, hq, fun z => (by cases z), p1⟩
    exact go_called R1 p2 (by rw [List.length_cons, ← (AvA.get p1).1]; exact hlen _ _ _ hm') (fun x h => g1.dom x h) (g.mono g1)
  | ex c e =>
    have hb' : (bind ma fun as => ret (.ref i :: as)) env = .ex c e := by unfold bind; rw [hm']
    unfold bind at hb'
    rw [hb'] at g
    exact g
  | bad =>
    have hb' : (bind ma fun as => ret (.ref i :: as)) env = .bad := by unfold bind; rw [hm']
    unfold bind at hb'
    rw [hb'] at g
    exact g
theorem mc_meth0 (i : Nat) {c m : Str} {k : Nat} {x : Str} {p apos : Pos} {mf : List Sl → CR} {pl : Sem Bool} (mc : MCal X.prog X.w X.K X.mg X.base ca k c m 1 mf) (hr : Room k X.A)
    (ht : eval (.Call (.Attribute (.Name x p) m apos) [] [] pos) X.env = (do
      let ov ← eval (.Name x p) X.env
      standAt apos.atName
      let (f, first) ← holding [ov] (getMethod ov m pl)
      callWith pos f first (backTo pos (starEach [] X.env)) (backToKw pos (keywordEach [] X.env))))
    (hN : X.N[i]? = some x := by rfl) (hv : Vis X.env.scope x := by first | exact Or.inl rfl | exact Or.inr (Or.inl rfl) | exact Or.inr (Or.inr rfl)) (hd : (x == ("__debug__" : Str)) = false := by decide) (hcd : (x == ("__classdict__" : Str)) = false := by decide) : MC ca X (.Call (.Attribute (.Name x p) m apos) [] [] pos) (callMt i c m mf aNil) := fun F W tk => by
  obtain ⟨f, fd, ps, hm, hb, fn⟩ := mc.ex
  refine PE.imp (pe_methS0 (pl := pl) (pe_var hN hv hd hcd) mc.cls hm fn hr hb (fun σ => passAt tk.t σ) ht) fun σ H Q ⟨ow, env, R, g⟩ => ?_
  obtain ⟨q, dx, us, hq, h1, h2, g⟩ := okI_go R g
  have p2 : AvA X.K ca F H ow H env σ [.ref i] [.ref q] := by
    unfold AvA
    exact ⟨.ref q, [], rfl, hq, fun z => (by cases z), by unfold AvA; rfl⟩
  exact ⟨.ref q, hq, q, dx, us, rfl, h1, h2, go_called R p2 rfl (fun x h => h) g⟩
/-! ### making -/
theorem AvA.go {K : PySem.W.Frag} {F : Fr} {Hs H H' : Hp} {ow ow' : Addr → Prop} {e e' : List Sl} {σ : St} (g : Go σ ow e H ow' e' H') : ∀ {as : List AV} {vs : List V}, AvA K ca F Hs ow H e σ as vs → AvA K ca F Hs ow' H' e' σ as vs
  | [], _, h => h
  | a :: r, _, h => by
    unfold AvA at h ⊢
    obtain ⟨v, us, ev, h1, h2, h3⟩ := h
    exact ⟨v, us, ev, h1.go g, h2, AvA.go g h3⟩
structure Make (P : Program) (w : World) (K : PySem.W.Frag) (mg : Str → Option Value) (base : Heap) (ca : CA) (k : Nat) (c : Str) (n : Nat) (mf : List Sl → CR) : Prop where
  at_ : mg c = some (.ref (ca c))
  ex : ∃ (f : Addr) (fd : FuncData) (ps : List Str), Mk K (ca c) f ∧ Binds K fd ps [] ∧ FnOk P w K mg base (L2.CX P w) k f fd ps (spM K ca n mf)
def oMake (c : Str) (mf : List Sl → CR) (ma : M (List AV)) : M Ob := bind ma fun as => fun e => match ios e as 0 with
  | some [] => match mf (.o false (.ins c []) :: (contents e as).map argOf) with
    | .ok (.d .none) outs => match (outs[0]? : Option Sl) with
      | some (Sl.o _ k) => .ok k e
      | _ => .bad
    | _ => .bad
  | _ => .bad
/-- an object that is loose has changed, nothing else -/
theorem Rel.looseChanged {K : PySem.W.Frag} {F : Fr} {ow : Addr → Prop} {H H' : Hp} {e : List Sl} {σ : St} {p : Addr} (R : Rel K ca F ow e σ H) (L : Loose F ow e σ p) (mu : MutO (H' p)) (keep : ∀ a o, H a = some o → a ≠ p → (¬ ∃ q ∈ ca.tb, q.1 = a) → NT o → H' a = some o) (dom : ∀ a, H' a = none → H a = none) (tab : ∀ q ∈ ca.tb, TbR ow H' q.1 q.2) : Rel K ca F ow e σ H' ∧ Stp ow H ow H' := by
  have st : Stp ow H ow H' := fun a o h n nt => ⟨keep a o h (fun z => n (by rw [z]; exact L.1)) (fun ⟨q, hq, z⟩ => n (by rw [← z]; exact (R.tab q hq).1)) nt, n⟩
  refine ⟨R.step rfl (fun i s' h => .inl ⟨h, fun l k q hs hq => ?_⟩) st (fun _ h => h) (fun a z => ?_) (fun a z => ?_) (fun a u ha n nt => ?_) dom tab, st⟩
  · subst hs
    obtain ⟨q', eq, w, r⟩ := R.own h
    rw [hq] at eq
    cases eq
    obtain ⟨u, hu⟩ := r.there
    rw [keep q u hu (fun z => L.2.2.2 i l k h (by rw [hq, z])) (R.nT r.noT) (ntI hu r.noT), hu]
  · cases hh : H' a with
    | some o => exact ⟨o, rfl⟩
    | none =>
      obtain ⟨u, hu⟩ := R.trk a z
      rw [dom a hh] at hu; cases hu
  · by_cases ea : a = p
    · subst ea; exact .inr mu
    · by_cases t : ∃ q ∈ ca.tb, q.1 = a
      · exact .inl t
      · refine (R.knd a z).imp id fun m => ?_
        obtain ⟨u, hu⟩ := m.there
        rw [hu] at m
        rw [keep a u hu ea t m.nt]; exact m
  · refine keep a u (R.keep a u ha n nt) (fun z => ?_) (fun ⟨q, hq, z⟩ => n (by rw [← z]; exact (R.tab q hq).2.1)) nt
    rw [z, L.2.1] at ha; cases ha
theorem mo_make {c : Str} {k n : Nat} {p : Pos} {mf : List Sl → CR} {ma : M (List AV)} (mk : Make X.prog X.w X.K X.mg X.base ca k c n mf) (hr : Room (k + 1) X.A) (ha : MA ca X (e :: es) ma) (hlen : ∀ env as e', ma env = .ok as e' → as.length + 1 = n) (hg : Gl X c := by rfl)
    (hdb : (c == ("__debug__" : Str)) = false := by decide) (he : starEach (e :: es) X.env = (false, eval e X.env) :: starEach es X.env := by rfl) (hpl : (backTo pos (starEach es X.env)).any (·.1) = false := by rfl) :
    MO ca X (.Call (.Name c p) (e :: es) [] pos) (oMake c mf ma) := fun F W tk => by
  obtain ⟨f, fd, ps, M, hb, fn⟩ := mk.ex
  refine PE.imp (pe_make M fn hr hg mk.at_ hb .nil passL (ha F W tk) hdb he hpl) fun σ H Q ⟨ow, env, R, g⟩ => ?_
  refine ⟨ow, env, R, ?_⟩
  unfold oMake bind at g
  cases hm : ma env with
  | ok as e1 =>
    rw [hm] at g
    rintro vs ow1 H1 g1 R1 p1 x dx hx hdx hne
    have g2 := g.mono g1
    dsimp only at g2
    cases hi : ios e1 as 0 with
    | none => rw [hi] at g2; exact g2.elim
    | some w =>
      rw [hi] at g2
      cases w with
      | cons ij r => exact g2.elim
      | nil =>
        dsimp only at g2
        have Ra := R1.gr (Gr.new (o := .own x) hdx)
        have hx' : upd H1 dx (.own x) x = none := by rw [upd_ne (fun z => hne z.symm)]; exact hx
        obtain ⟨Rb, L⟩ := Ra.more (o := .ins (ca c) dx []) hx'
        have ga := Go.gr R1 (Gr.new (o := .own x) hdx)
        have gb := Go.more Ra (o := .ins (ca c) dx []) hx'
        have p2 : AvA X.K ca F H (more ow1 x) _ e1 σ as vs := (AvA.go (ga.trans gb) p1)
        have A := argsOk Rb p2 hi
        have no_o : ∀ (i : Nat) (l : Bool) (k1 : Ob), ((contents e1 as).map argOf)[i]? ≠ some (Sl.o l k1) := fun i l k1 z => by
          obtain ⟨s0, e0, e2⟩ := argOf_get z
          cases s0 with
          | o l2 k2 => exact (ios_none hi i l2 k2).1 e0
          | _ => cases e2
        have io : ∀ a, IoA ca (.o false (.ins c []) :: (contents e1 as).map argOf) (.ref x :: vs) a → a = x ∨ ∃ q ∈ ca.tb, q.1 = a := fun a z => by
          rcases z with ⟨i, k1, a1, a2⟩ | z
          · cases i with
            | zero => cases a2; exact .inl rfl
            | succ i => exact absurd a1 (no_o i false k1)
          · exact .inr z
        rw [List.append_nil]
        refine ⟨more ow1 x, .o false (.ins c []) :: (contents e1 as).map argOf, ?_, ⟨?_, ?_, ?_, ?_, fun q hq => let ⟨a, _, _, d⟩ := Rb.tab q hq; ⟨a, d⟩, Rb.knd⟩, Rb.trk, ?_⟩
        · rw [List.length_cons, ← (AvA.get p1).1]; exact hlen _ _ _ hm
        · rw [List.length_cons, List.length_cons, A.len]
        · intro i s v h1 h2
          cases i with
          | zero => cases h1; cases h2; exact ⟨x, rfl, .inr rfl, dx, [], upd_same, .nil⟩
          | succ i => exact A.sl i s v h1 h2
        · intro i k1 z
          cases i with
          | zero => cases z
          | succ i => exact no_o i true k1 z
        · intro i j q k1 k2 h1 h2 h3 h4
          cases i with
          | zero =>
            cases j with
            | zero => rfl
            | succ j => exact absurd h2 (no_o j false k2)
          | succ i => exact absurd h1 (no_o i false k1)
        · cases hmf : mf (.o false (.ins c []) :: (contents e1 as).map argOf) with
          | bad => rw [hmf] at g2; exact g2.elim
          | ex c2 outs => rw [hmf] at g2; exact g2.elim
          | ok r outs =>
            rw [hmf] at g2
            cases r with
            | o k1 => exact g2.elim
            | d y =>
              cases y with
              | none =>
                intro v H2 kp oo rp
                unfold Rp at rp
                refine ⟨rp, ?_⟩
                obtain ⟨k', ho, ro⟩ := oo.1 0 (.ins c []) x rfl rfl
                dsimp only at g2
                rw [ho] at g2
                dsimp only at g2
                obtain ⟨Rc, st⟩ := Rb.looseChanged L ro.mutO (fun a o h n nt t => kp.keep a o h (fun z => (io a z).elim n nt) t) kp.dom oo.2
                have gfin : Go σ ow env H (more ow1 x) e1 H2 := by
                  have g3 := (g1.trans ga).trans gb
                  refine ⟨g3.stp.trans st, fun q w nt n => ?_, fun a h => g3.dom a (kp.dom a h)⟩
                  obtain ⟨w3, h3, n3⟩ := g3.lo q w nt n
                  obtain ⟨u, hu⟩ := R.trk q w
                  have hq : q ≠ x := fun z => by rw [z, g1.dom x hx] at hu; cases hu
                  refine ⟨w3, ?_, n3⟩
                  rw [hu] at h3
                  rw [kp.keep q u h3 (fun z => (io q z).elim hq (R.nT nt)) (ntI hu nt), hu]
                have g5 := g
                dsimp only at g5
                rw [hi] at g5
                dsimp only at g5
                rw [hmf] at g5
                dsimp only at g5
                rw [ho] at g5
                exact g5 (.ref x) _ H2 gfin Rc ⟨x, rfl, g1.dom x hx, ro, L⟩
              | _ => exact g2.elim
  | ex c2 e1 => rw [hm] at g; exact g
  | bad => rw [hm] at g; exact g
/-- a method of a fresh instance: C(..).m() -/
def callF (c m : Str) (mf : List Sl → CR) (mo : M Ob) : M RV := bind mo fun k => fun e => match k with
  | .ins c' fs => if c' = c ∧ fs.lookup m = none then match mf [.o false (.ins c' fs)] with
      | .ok r _ => .ok r e
      | .ex cx _ => .ex cx e
      | .bad => .bad
    else .bad
  | _ => .bad
theorem mc_methF {o : Expr} {c m : Str} {k : Nat} {apos : Pos} {mf : List Sl → CR} {mo : M Ob} {pl : Sem Bool} (mc : MCal X.prog X.w X.K X.mg X.base ca k c m 1 mf) (hr : Room k X.A) (ho : MO ca X o mo)
    (ht : eval (.Call (.Attribute o m apos) [] [] pos) X.env = (do
      let ov ← eval o X.env
      standAt apos.atName
      let (f, first) ← holding [ov] (getMethod ov m pl)
      callWith pos f first (backTo pos (starEach [] X.env)) (backToKw pos (keywordEach [] X.env)))) : MC ca X (.Call (.Attribute o m apos) [] [] pos) (callF c m mf mo) := fun F W tk => by
  obtain ⟨f, fd, ps, hm, hb, fn⟩ := mc.ex
  refine PE.imp (pe_methS0 (pl := pl) (ho F W tk) mc.cls hm fn hr hb (fun σ => passAt tk.t σ) ht) fun σ H Q ⟨ow, env, R, g⟩ => ?_
  refine ⟨ow, env, R, ?_⟩
  unfold callF bind at g
  cases hm : mo env with
  | bad => rw [hm] at g; exact g
  | ex c2 e1 => rw [hm] at g; exact g
  | ok k1 e1 =>
    rw [hm] at g
    rintro v ow1 H1 g1 R1 ⟨p, rfl, n, r, L⟩
    cases k1 with
    | lst xs => exact g.elim
    | dct kvs => exact g.elim
    | ins c' fs =>
      dsimp only at g
      by_cases hcc : c' = c ∧ fs.lookup m = none
      · rw [if_pos hcc] at g
        obtain ⟨rfl, hl⟩ := hcc
        obtain ⟨dx, us, h1, h2⟩ := id r
        refine ⟨p, dx, us, rfl, h1, (h2.lookup m).1 hl, ow1, [.o false (.ins c' fs)], rfl, ⟨rfl, ?_, ?_, ?_, fun q hq => let ⟨a, _, _, d⟩ := R1.tab q hq; ⟨a, d⟩, R1.knd⟩, R1.trk, ?_⟩
        · intro i s v a1 a2
          cases i with
          | zero => cases a1; cases a2; exact ⟨p, rfl, L.1, r⟩
          | succ i => cases a1
        · intro i k2 z
          cases i with
          | zero => cases z
          | succ i => cases z
        · intro i j q k2 k3 a1 a2 a3 a4
          cases i with
          | zero =>
            cases j with
            | zero => rfl
            | succ j => cases a2
          | succ i => cases a1
        · have io : ∀ a, IoA ca [Sl.o false (.ins c' fs)] [V.ref p] a → a = p ∨ ∃ q ∈ ca.tb, q.1 = a := fun a z => by
            rcases z with ⟨i, k2, a1, a2⟩ | z
            · cases i with
              | zero => cases a2; exact .inl rfl
              | succ i => cases a1
            · exact .inr z
          have fin : ∀ {H2 : Hp}, Kept ca H1 H2 [Sl.o false (.ins c' fs)] [V.ref p] → MutO (H2 p) → (∀ q ∈ ca.tb, TbR ow1 H2 q.1 q.2) → Rel X.K ca F ow1 e1 σ H2 ∧ Stp ow1 H1 ow1 H2 ∧ Go σ ow env H ow1 e1 H2 := fun {H2} kp mu tb => by
            obtain ⟨Rc, st⟩ := R1.looseChanged L mu (fun a o h n nt t => kp.keep a o h (fun z => (io a z).elim n nt) t) kp.dom tb
            refine ⟨Rc, st, g1.stp.trans st, fun q w nt nq => ?_, fun a h => g1.dom a (kp.dom a h)⟩
            obtain ⟨w3, h3, n3⟩ := g1.lo q w nt nq
            obtain ⟨u, hu⟩ := R.trk q w
            have hq : q ≠ p := fun z => by rw [z, n] at hu; cases hu
            rw [hu] at h3
            exact ⟨w3, by rw [kp.keep q u h3 (fun z => (io q z).elim hq (R.nT nt)) (ntI hu nt), hu], n3⟩
          cases hmf : mf [.o false (.ins c' fs)] with
          | bad => rw [hmf] at g; exact g.elim
          | ex c2 outs =>
            rw [hmf] at g
            intro H2 kp oo
            obtain ⟨Rc, st, gf⟩ := fin kp ((oo.1 0 (.ins c' fs) p rfl rfl).elim fun k' h => h.2.mutO) oo.2
            exact g ow1 H2 gf Rc
          | ok rv outs =>
            rw [hmf] at g
            cases rv with
            | d x =>
              intro v H2 kp oo rp
              obtain ⟨Rc, st, gf⟩ := fin kp ((oo.1 0 (.ins c' fs) p rfl rfl).elim fun k' h => h.2.mutO) oo.2
              exact g v ow1 H2 gf Rc rp
            | o k2 =>
              intro q H2 kp hq hq' oo ro
              obtain ⟨Rc, st, gf⟩ := fin kp ((oo.1 0 (.ins c' fs) p rfl rfl).elim fun k' h => h.2.mutO) fun q' h' => (oo.2 q' h').stp (anti fun _ z => .inl z) rfl
              -- the new object is one's own
              have hqe : Gr (fun a => if a = q then none else H2 a) H2 := fun a o h => by
                by_cases z : a = q
                · simp only [if_pos z] at h; cases h
                · simp only [if_neg z] at h; exact h
              have tr : Trk (more ow1 q) H2 := fun a z => by
                rcases z with z | z
                · exact Rc.trk a z
                · rw [z]; exact hq'
              have st2 : Stp ow1 H1 (more ow1 q) H2 := fun a o h n nt => ⟨(st a o h n nt).1, fun z => by
                rcases z with z | z
                · exact n z
                · rw [z, hq] at h; cases h⟩
              have R3 : Rel X.K ca F (more ow1 q) e1 σ H2 := by
                refine R1.step rfl (fun i s' h => .inl ⟨h, fun l k3 q2 hs hq2 => ?_⟩) st2 (fun _ h => .inl h) tr (fun a z => by
                  rcases z with z | z
                  · exact Rc.knd a z
                  · rw [z]; exact .inr ro.mutO) (fun a u ha n => Rc.keep a u ha n) kp.dom oo.2
                subst hs
                obtain ⟨q3, eq, w, r3⟩ := R1.own h
                rw [hq2] at eq
                cases eq
                obtain ⟨u, hu⟩ := r3.there
                rw [kp.keep q2 u hu (fun z => (io q2 z).elim (fun z => L.2.2.2 i l k3 h (by rw [hq2, z])) (R1.nT r3.noT)) (ntI hu r3.noT), hu]
              refine g (.ref q) (more ow1 q) H2 ⟨g1.stp.trans st2, fun q2 w nt nq => ?_, gf.dom⟩ R3 ⟨q, rfl, g1.dom q hq, ro, loose_of (.inr rfl) (R1.dom q hq) (fun z => R1.free hq (R1.sub q z)) fun ⟨i, l, k3, a1, a2⟩ => ?_⟩
              · obtain ⟨a, b, c⟩ := gf.lo q2 w nt nq
                exact ⟨.inl a, b, c⟩
              · obtain ⟨q3, eq, w, r3⟩ := R1.own a1
                rw [a2] at eq
                cases eq
                obtain ⟨u, hu⟩ := r3.there
                rw [hq] at hu; cases hu
      · rw [if_neg hcc] at g; exact g.elim
end
end ML
end

section
set_option Elab.async false
set_option linter.all false
set_option maxRecDepth 100000
set_option maxHeartbeats 2000000
/-! # What each operator, built-in function and method gives, by plain data -/
namespace ML
open PySem L2
section
variable {K : PySem.W.Frag} {ca : CA} {ow : Addr → Prop} {H : Hp}
theorem sv_int {i : Int} {v : V} (r : Sl.d (.int i) ≠ .un → SvR K ca ow H (.d (.int i)) v) : v = .int i := by
  have q : Rp K ow H (.int i) v := r (by simp)
  unfold Rp at q; exact q
theorem sv_str {i : Str} {v : V} (r : Sl.d (.str i) ≠ .un → SvR K ca ow H (.d (.str i)) v) : v = .str i := by
  have q : Rp K ow H (.str i) v := r (by simp)
  unfold Rp at q; exact q
theorem sv_bool {i : Bool} {v : V} (r : Sl.d (.bool i) ≠ .un → SvR K ca ow H (.d (.bool i)) v) : v = .bl i := by
  have q : Rp K ow H (.bool i) v := r (by simp)
  unfold Rp at q; exact q
theorem sv_tup {xs : List D} {v : V} (r : Sl.d (.tuple xs) ≠ .un → SvR K ca ow H (.d (.tuple xs)) v) : ∃ a us, v = .ref a ∧ TupAt K ow H xs a us ∧ RpA K ow H xs us := by
  have q : Rp K ow H (.tuple xs) v := r (by simp)
  unfold Rp at q; exact q
theorem rp_int {i : Int} : Rp K ow H (.int i) (.int i) := by unfold Rp; rfl
theorem rp_str {i : Str} : Rp K ow H (.str i) (.str i) := by unfold Rp; rfl
theorem rp_bool {i : Bool} : Rp K ow H (.bool i) (.bl i) := by unfold Rp; rfl
theorem rp_none : Rp K ow H .none .non := by unfold Rp; rfl
end
/-! ### arithmetic -/
/-- two ints -/
def g2I (f : Int → Int → Option Int) : Sl → Sl → Option D
  | .d (.int i), .d (.int j) => (f i j).map PyData.int
  | _, _ => none
theorem ops_I {K : PySem.W.Frag} {ca : CA} {C : Int → Int → Prop} {g : Int → Int → Int} {f : Int → Int → Option Int} (h : ∀ i j z, f i j = some z → C i j ∧ g i j = z) : OpS K ca (rI C fun i j => .int (g i j)) (g2I f) := fun s t z ow H v1 v2 Q e r1 r2 tr k => by
  unfold g2I at e
  split at e
  · rename_i i j
    obtain ⟨y, ey, rfl⟩ := Option.map_eq_some_iff.mp e
    obtain ⟨hc, rfl⟩ := h i j y ey
    exact ⟨i, j, sv_int r1, sv_int r2, hc, k _ H Gr.refl rp_int⟩
  · cases e
theorem ops_I0 {K : PySem.W.Frag} {ca : CA} {g : Int → Int → Int} : OpS K ca (rI0 fun i j => .int (g i j)) (g2I fun i j => some (g i j)) := fun s t z ow H v1 v2 Q e r1 r2 tr k => by
  unfold g2I at e
  split at e
  · rename_i i j
    cases e
    exact ⟨i, j, sv_int r1, sv_int r2, k _ H Gr.refl rp_int⟩
  · cases e
def gB2 (f : Int → Int → Bool) : Sl → Sl → Option D
  | .d (.int i), .d (.int j) => some (.bool (f i j))
  | _, _ => none
theorem ops_B0 {K : PySem.W.Frag} {ca : CA} {g : Int → Int → Bool} : OpS K ca (rI0 fun i j => .bl (g i j)) (gB2 g) := fun s t z ow H v1 v2 Q e r1 r2 tr k => by
  unfold gB2 at e
  split at e
  · rename_i i j
    cases e
    exact ⟨i, j, sv_int r1, sv_int r2, k _ H Gr.refl rp_bool⟩
  · cases e
def small (i : Int) : Bool := decide (i.natAbs < 18446744073709551616)
def gMul : Sl → Sl → Option D := g2I fun i j => if small i = true ∨ small j = true then some (i * j) else none
def gDiv : Sl → Sl → Option D := g2I fun i j => if 0 < j ∧ j.natAbs < 1073741824 then some (i / j) else none
def gMod : Sl → Sl → Option D := g2I fun i j => if 0 < j then some (i % j) else none
def gPow : Sl → Sl → Option D := g2I fun i j => if 0 ≤ j ∧ j ≤ 1000000 ∧ i.natAbs < 2 ^ 64 then some (i ^ j.toNat) else none
def gSub : Sl → Sl → Option D := g2I fun i j => some (i - j)
def gLt : Sl → Sl → Option D := gB2 fun i j => decide (i < j)
def gLe : Sl → Sl → Option D := gB2 fun i j => decide (i ≤ j)
def gGt : Sl → Sl → Option D := gB2 fun i j => decide (j < i)
def gGe : Sl → Sl → Option D := gB2 fun i j => decide (j ≤ i)
section
variable {K : PySem.W.Frag} {ca : CA}
theorem s_mul : OpS K ca (rI CMul fun i j => .int (i * j)) gMul := ops_I (g := fun i j => i * j) fun i j z e => by
  obtain ⟨c, rfl⟩ := ite_some e
  refine ⟨?_, rfl⟩
  rcases c with c | c
  · have := of_decide_eq_true c
    exact .inl ⟨by omega, by omega⟩
  · have := of_decide_eq_true c
    exact .inr ⟨by omega, by omega⟩
theorem s_div : OpS K ca (rI CDiv fun i j => .int (i / j)) gDiv := ops_I (g := fun i j => i / j) fun i j z e => by
  obtain ⟨c, rfl⟩ := ite_some e
  exact ⟨⟨c.1, by omega⟩, rfl⟩
theorem s_mod : OpS K ca (rI (fun _ j => 0 < j) fun i j => .int (i % j)) gMod := ops_I (g := fun i j => i % j) fun i j z e => by
  obtain ⟨c, rfl⟩ := ite_some e
  exact ⟨c, rfl⟩
theorem s_pow : OpS K ca (rI CPow fun i j => .int (i ^ j.toNat)) gPow := ops_I (g := fun i j => i ^ j.toNat) fun i j z e => by
  obtain ⟨c, rfl⟩ := ite_some e
  exact ⟨c, rfl⟩
theorem s_sub : OpS K ca (rI0 fun i j => .int (i - j)) gSub := ops_I0 (g := fun i j => i - j)
theorem s_lt : OpS K ca (rI0 fun i j => .bl (decide (i < j))) gLt := ops_B0 (g := fun i j => decide (i < j))
theorem s_le : OpS K ca (rI0 fun i j => .bl (decide (i ≤ j))) gLe := ops_B0 (g := fun i j => decide (i ≤ j))
theorem s_gt : OpS K ca (rI0 fun i j => .bl (decide (j < i))) gGt := ops_B0 (g := fun i j => decide (j < i))
theorem s_ge : OpS K ca (rI0 fun i j => .bl (decide (j ≤ i))) gGe := ops_B0 (g := fun i j => decide (j ≤ i))
/-! ### + -/
def rAddD (K : PySem.W.Frag) : R2 := fun x y H Q => (rI0 (fun i j => .int (i + j)) x y H Q ∨ (∃ i j, x = .str i ∧ y = .str j ∧ i.length + j.length ≤ sizeLine ∧ Q (.str (i ++ j)) H)) ∨ MK.rCatZ K x y H Q
theorem op_addD {X : Cx} : OpR X (binaryOp .Add) (rAddD X.K) := OpR.or (OpR.or op_add op_add_str) MK.op_catZ
@[simp] def gAdd : Sl → Sl → Option D
  | .d (.int i), .d (.int j) => some (.int (i + j))
  | .d (.str i), .d (.str j) => if i.length + j.length ≤ LIM then some (.str (i ++ j)) else none
  | .d (.tuple xs), .d (.tuple ys) => if xs.length + ys.length ≤ LIM then some (.tuple (xs ++ ys)) else none
  | _, _ => none
theorem RpA.nil_iff {ow : Addr → Prop} {H : Hp} {xs : List D} {us : List V} (h : RpA K ow H xs us) : us = [] ↔ xs = [] := by
  have l := h.length
  constructor
  · intro e; subst e; exact List.length_eq_zero_iff.mp l
  · intro e; subst e; exact List.length_eq_zero_iff.mp l.symm
theorem s_add : OpS K ca (rAddD K) gAdd := fun s t z ow H v1 v2 Q e r1 r2 tr k => by
  unfold gAdd at e
  split at e
  · cases e
    exact .inl (.inl ⟨_, _, sv_int r1, sv_int r2, k _ H Gr.refl rp_int⟩)
  · obtain ⟨hl, rfl⟩ := ite_some e
    exact .inl (.inr ⟨_, _, sv_str r1, sv_str r2, lim_line hl, k _ H Gr.refl rp_str⟩)
  · rename_i xs ys
    obtain ⟨hl, rfl⟩ := ite_some e
    obtain ⟨a, us, rfl, ha, ra⟩ := sv_tup r1
    obtain ⟨b, ws, rfl, hb, rb⟩ := sv_tup r2
    refine .inr ⟨a, b, us, ws, rfl, rfl, ha.sq, hb.sq, lim_line (by rw [← ra.length, ← rb.length]; exact hl), fun h => k _ H Gr.refl ?_, fun h1 h2 => k _ H Gr.refl ?_, fun h1 h2 p o hc hd hp => k _ _ (Gr.new hp) ?_⟩
    · unfold Rp
      rw [(RpA.nil_iff ra).mp h, List.nil_append]
      exact ⟨b, ws, rfl, hb, rb⟩
    · unfold Rp
      rw [(RpA.nil_iff rb).mp h2, List.append_nil]
      exact ⟨a, us, rfl, ha, ra⟩
    · unfold Rp
      exact ⟨p, us ++ ws, rfl, .frz upd_same hd (fun z => by obtain ⟨o, ho⟩ := tr p z; rw [hp] at ho; cases ho), (ra.append rb).stp (Gr.new hp).stp⟩
  · cases e
/-- lists -/
@[simp] def gCat (s t : Sl) : Option (List D) := (slL s).bind fun xs => (slL t).bind fun ys => if xs.length + ys.length ≤ LIM then some (xs ++ ys) else none
theorem s_cat : OpF K ca rCat gCat := fun s t z ow H v1 v2 Q e r1 r2 tr k => by
  obtain ⟨xs, ex, e⟩ := Option.bind_eq_some_iff.mp e
  obtain ⟨ys, ey, e⟩ := Option.bind_eq_some_iff.mp e
  obtain ⟨hl, rfl⟩ := ite_some e
  obtain ⟨a, us, rfl, ha, ra⟩ := slL_ok ex r1
  obtain ⟨b, ws, rfl, hb, rb⟩ := slL_ok ey r2
  exact ⟨a, b, us, ws, rfl, rfl, ha, hb, lim_line (by rw [← ra.length, ← rb.length]; exact hl), fun p hp => k p _ hp (ra.append rb)⟩
/-! ### in place -/
theorem iop_addD {X : Cx} : OpR X (inplaceOp .Add) (fun x y H Q => rI0 (fun i j => .int (i + j)) x y H Q ∨ ∃ i j, x = .str i ∧ y = .str j ∧ i.length + j.length ≤ sizeLine ∧ Q (.str (i ++ j)) H) := OpR.or iop_add iop_add_str
@[simp] def gIAdd : Sl → Sl → Option D
  | .d (.int i), .d (.int j) => some (.int (i + j))
  | .d (.str i), .d (.str j) => if i.length + j.length ≤ LIM then some (.str (i ++ j)) else none
  | _, _ => none
theorem s_iadd : OpS K ca (fun x y H Q => rI0 (fun i j => .int (i + j)) x y H Q ∨ ∃ i j, x = .str i ∧ y = .str j ∧ i.length + j.length ≤ sizeLine ∧ Q (.str (i ++ j)) H) gIAdd := fun s t z ow H v1 v2 Q e r1 r2 tr k => by
  unfold gIAdd at e
  split at e
  · cases e
    exact .inl ⟨_, _, sv_int r1, sv_int r2, k _ H Gr.refl rp_int⟩
  · obtain ⟨hl, rfl⟩ := ite_some e
    exact .inr ⟨_, _, sv_str r1, sv_str r2, lim_line hl, k _ H Gr.refl rp_str⟩
  · cases e
/-! ### == and != of data -/
mutual
/-- without a dict -/
@[simp] def noDct : D → Bool
  | .list xs => noDctA xs
  | .tuple xs => noDctA xs
  | .dict _ => false
  | _ => true
@[simp] def noDctA : List D → Bool
  | [] => true
  | x :: xs => noDct x && noDctA xs
end
mutual
theorem dp_of {ow : Addr → Prop} {H : Hp} : ∀ (d : D) (v : V), Rp K ow H d v → noDct d = true → Dp K H v d
  | .none, v, h, _ => by unfold Rp at h; subst h; exact .non
  | .bool b, v, h, _ => by unfold Rp at h; subst h; exact .bl b
  | .int i, v, h, _ => by unfold Rp at h; subst h; exact .int i
  | .str x, v, h, _ => by unfold Rp at h; subst h; exact .str x
  | .list ds, v, h, n => by
    unfold Rp at h
    unfold noDct at n
    obtain ⟨a, us, rfl, h1, _, h2⟩ := h
    exact .lst (SqL.of h1) (dpA_of ds us h2 n)
  | .tuple ds, v, h, n => by
    unfold Rp at h
    unfold noDct at n
    obtain ⟨a, us, rfl, h1, h2⟩ := h
    exact .tup h1.sq (dpA_of ds us h2 n)
  | .dict kvs, v, h, n => by unfold noDct at n; cases n
theorem dpA_of {ow : Addr → Prop} {H : Hp} : ∀ (ds : List D) (vs : List V), RpA K ow H ds vs → noDctA ds = true → DpAll K H vs ds
  | [], vs, h, _ => by unfold RpA at h; subst h; exact .nil
  | d :: ds, vs, h, n => by
    unfold RpA at h
    unfold noDctA at n
    obtain ⟨v, us, rfl, h1, h2⟩ := h
    obtain ⟨n1, n2⟩ := Bool.and_eq_true_iff.mp n
    exact .cons (dp_of d v h1 n1) (dpA_of ds us h2 n2)
end
/-- what a slot's content is as data, for a comparison -/
@[simp] def slD : Sl → Option D
  | .d x => some x
  | .o _ (.lst xs) => some (.list xs)
  | _ => none
theorem slD_dp {ow : Addr → Prop} {H : Hp} {s : Sl} {d : D} {v : V} (e : slD s = some d) (r : s ≠ .un → SvR K ca ow H s v) (n : noDct d = true) : Dp K H v d := by
  unfold slD at e
  split at e
  · cases e; exact dp_of _ v (r (by simp)) n
  · cases e
    obtain ⟨p, rfl, w, us, h1, h2⟩ := r (by simp)
    unfold noDct at n
    exact .lst (SqL.of h1) (dpA_of _ us h2 n)
  · cases e
def eqOk (d : D) : Bool := noDct d && SeqAt.shaped d
@[simp] def gEq (neg : Bool) (s t : Sl) : Option D := (slD s).bind fun x => (slD t).bind fun y => if eqOk x = true ∧ eqOk y = true then some (.bool (neg ^^ PyData.eqv x y)) else none
theorem s_eq : OpS K ca (rEqD K) (gEq false) := fun s t z ow H v1 v2 Q e r1 r2 tr k => by
  obtain ⟨x, ex, e⟩ := Option.bind_eq_some_iff.mp e
  obtain ⟨y, ey, e⟩ := Option.bind_eq_some_iff.mp e
  obtain ⟨⟨h1, h2⟩, rfl⟩ := ite_some e
  obtain ⟨a1, a2⟩ := Bool.and_eq_true_iff.mp h1
  obtain ⟨b1, b2⟩ := Bool.and_eq_true_iff.mp h2
  exact ⟨x, y, slD_dp ex r1 a1, slD_dp ey r2 b1, a2, b2, k _ H Gr.refl (by unfold Rp; rw [Bool.false_xor])⟩
theorem s_ne : OpS K ca (rNeD K) (gEq true) := fun s t z ow H v1 v2 Q e r1 r2 tr k => by
  obtain ⟨x, ex, e⟩ := Option.bind_eq_some_iff.mp e
  obtain ⟨y, ey, e⟩ := Option.bind_eq_some_iff.mp e
  obtain ⟨⟨h1, h2⟩, rfl⟩ := ite_some e
  obtain ⟨a1, a2⟩ := Bool.and_eq_true_iff.mp h1
  obtain ⟨b1, b2⟩ := Bool.and_eq_true_iff.mp h2
  exact ⟨x, y, slD_dp ex r1 a1, slD_dp ey r2 b1, a2, b2, k _ H Gr.refl (by unfold Rp; rw [Bool.true_xor])⟩
/-! ### is None -/
@[simp] def isNone : D → Bool
  | .none => true
  | _ => false
@[simp] def gIsN (neg : Bool) (s t : Sl) : Option D := match s, t with
  | .d x, .d .none => some (.bool (neg ^^ isNone x))
  | _, _ => none
theorem rp_isN {ow : Addr → Prop} {H : Hp} {d : D} {v : V} (r : Rp K ow H d v) : decide (v = .non) = isNone d := by
  cases d with
  | none => unfold Rp at r; subst r; rfl
  | bool b => unfold Rp at r; subst r; rfl
  | int b => unfold Rp at r; subst r; rfl
  | str b => unfold Rp at r; subst r; rfl
  | list b => unfold Rp at r; obtain ⟨a, xs, rfl, _⟩ := r; rfl
  | tuple b => unfold Rp at r; obtain ⟨a, xs, rfl, _⟩ := r; rfl
  | dict b => unfold Rp at r; obtain ⟨a, xs, rfl, _⟩ := r; rfl
theorem s_isN : OpS K ca (fun x y H Q => y = .non ∧ Q (.bl (decide (x = .non))) H) (gIsN false) := fun s t z ow H v1 v2 Q e r1 r2 tr k => by
  unfold gIsN at e
  split at e
  · rename_i x
    cases e
    have q : Rp K ow H .none v2 := r2 (by simp)
    unfold Rp at q
    refine ⟨q, ?_⟩
    rw [rp_isN (r1 (by simp))]
    exact k _ H Gr.refl (by unfold Rp; rw [Bool.false_xor])
  · cases e
theorem s_notN : OpS K ca (fun x y H Q => y = .non ∧ Q (.bl (!decide (x = .non))) H) (gIsN true) := fun s t z ow H v1 v2 Q e r1 r2 tr k => by
  unfold gIsN at e
  split at e
  · rename_i x
    cases e
    have q : Rp K ow H .none v2 := r2 (by simp)
    unfold Rp at q
    refine ⟨q, ?_⟩
    rw [rp_isN (r1 (by simp))]
    exact k _ H Gr.refl (by unfold Rp; rw [Bool.true_xor])
  · cases e
/-! ### in -/
def rInA (K : PySem.W.Frag) (neg : Bool) : R2 := fun x y H Q => (∃ (c : Nat) (z : Str), x = .str ⟨#[c]⟩ ∧ y = .str z ∧ Q (.bl (neg ^^ decide (c ∈ z.cps.toList))) H) ∨ rIn K neg x y H Q
theorem op_inA {X : Cx} : OpR X (compareOp .In) (rInA X.K false) := fun pins s σ H x y v u Q I rx ry h => by
  rcases h with ⟨c, z, e1, e2, q⟩ | h
  · exact op_in_sign pins s σ H x y v u Q I rx ry ⟨c, z, e1, e2, by rw [Bool.false_xor] at q; exact q⟩
  · exact op_in_seq pins s σ H x y v u Q I rx ry h
theorem op_ninA {X : Cx} : OpR X (compareOp .NotIn) (rInA X.K true) := fun pins s σ H x y v u Q I rx ry h => by
  rcases h with ⟨c, z, e1, e2, q⟩ | h
  · exact op_notIn_sign pins s σ H x y v u Q I rx ry ⟨c, z, e1, e2, by rw [Bool.true_xor] at q; exact q⟩
  · exact op_notIn_seq pins s σ H x y v u Q I rx ry h
/-- a scalar as a value -/
def dV : D → Option V
  | .none => some .non
  | .bool b => some (.bl b)
  | .int i => some (.int i)
  | .str x => some (.str x)
  | _ => none
def dVs : List D → Option (List V)
  | [] => some []
  | d :: ds => (dV d).bind fun v => (dVs ds).map fun vs => v :: vs
@[simp] def seqOf : Sl → Option (List D)
  | .d (.list xs) => some xs
  | .d (.tuple xs) => some xs
  | .o _ (.lst xs) => some xs
  | _ => none
theorem seqOf_ok {ow : Addr → Prop} {H : Hp} {s : Sl} {v : V} {xs : List D} (h : seqOf s = some xs) (r : s ≠ .un → SvR K ca ow H s v) : ∃ a us, v = .ref a ∧ (SqL K H a us ∨ SqT K H a us) ∧ RpA K ow H xs us := by
  unfold seqOf at h
  split at h
  · cases h
    have q : Rp K ow H (.list xs) v := r (by simp)
    unfold Rp at q
    obtain ⟨a, us, e, h1, _, h2⟩ := q
    exact ⟨a, us, e, .inl (SqL.of h1), h2⟩
  · cases h
    obtain ⟨a, us, e, h1, h2⟩ := sv_tup r
    exact ⟨a, us, e, .inr h1.sq, h2⟩
  · cases h
    obtain ⟨p, e, w, us, h1, h2⟩ := r (by simp)
    exact ⟨p, us, e, .inl (SqL.of h1), h2⟩
  · cases h
theorem dV_ok {ow : Addr → Prop} {H : Hp} {d : D} {v u : V} (h : dV d = some u) (r : Rp K ow H d v) : v = u ∧ flatV u = true := by
  cases d <;> first | (cases h; unfold Rp at r; exact ⟨r, rfl⟩) | cases h
theorem dVs_ok {ow : Addr → Prop} {H : Hp} : ∀ {ds : List D} {vs us : List V}, dVs ds = some us → RpA K ow H ds vs → vs = us ∧ us.all flatV = true
  | [], _, _, h, r => by
    cases h
    unfold RpA at r
    exact ⟨r, rfl⟩
  | d :: ds, _, _, h, r => by
    unfold dVs at h
    obtain ⟨v, hv, h⟩ := Option.bind_eq_some_iff.mp h
    obtain ⟨vs, hvs, rfl⟩ := Option.map_eq_some_iff.mp h
    unfold RpA at r
    obtain ⟨w, ws, rfl, r1, r2⟩ := r
    obtain ⟨rfl, f1⟩ := dV_ok hv r1
    obtain ⟨rfl, f2⟩ := dVs_ok hvs r2
    exact ⟨rfl, by rw [List.all_cons, f1, f2]; rfl⟩
@[simp] def gIn (neg : Bool) (s t : Sl) : Option D := match s, t with
  | .d (.str x), .d (.str z) => match x.cps.toList with
    | [c] => some (.bool (neg ^^ decide (c ∈ z.cps.toList)))
    | _ => none
  | .d x, t => (dV x).bind fun v => (seqOf t).bind fun ds => (dVs ds).map fun us => .bool (if neg then !inV v us else inV v us)
  | _, _ => none
theorem s_in {neg : Bool} : OpS K ca (rInA K neg) (gIn neg) := fun s t z ow H v1 v2 Q e r1 r2 tr k => by
  unfold gIn at e
  split at e
  · rename_i x z'
    split at e
    · rename_i c hc
      cases e
      have hx : x = ⟨#[c]⟩ := by
        obtain ⟨cps⟩ := x
        have : cps = #[c] := by rw [← Array.toArray_toList (xs := cps)]; rw [show cps.toList = [c] from hc]
        rw [this]
      refine .inl ⟨c, z', ?_, sv_str r2, k _ H Gr.refl rp_bool⟩
      rw [← hx]; exact sv_str r1
    · cases e
  · rename_i x
    obtain ⟨v, hv, e⟩ := Option.bind_eq_some_iff.mp e
    obtain ⟨ds, hds, e⟩ := Option.bind_eq_some_iff.mp e
    obtain ⟨us, hus, rfl⟩ := Option.map_eq_some_iff.mp e
    obtain ⟨a, ws, rfl, ha, ra⟩ := seqOf_ok hds r2
    obtain ⟨rfl, f1⟩ := dV_ok hv (r1 (by simp))
    obtain ⟨rfl, f2⟩ := dVs_ok hus ra
    exact .inr ⟨a, ws, rfl, ha, f1, f2, k _ H Gr.refl rp_bool⟩
  · cases e
/-! ### negation -/
@[simp] def gNeg : Sl → Option D
  | .d (.int i) => some (.int (-i))
  | _ => none
end
def e1 (g : Sl → Option D) (m : M D) : M D := bind m fun x => lift (g (.d x))
theorem me_neg {ca : CA} {X : Cx} {a : Expr} {pos : Pos} {m : M D} (h : ME ca X a m) : ME ca X (.UnaryOp .USub a pos) (e1 gNeg m) := fun F W tk => PE.imp (pe_un un_neg (h F W tk)) fun σ H Q ⟨ow, env, R, g⟩ => go_bind R g fun x e1 v ow1 H1 g1 R1 p1 q1 => by
  obtain ⟨z, ez, q⟩ := lift_go q1
  unfold gNeg at ez
  split at ez
  · rename_i i hi
    cases ez
    cases hi
    have p1' : Rp X.K ow1 H1 (.int i) v := p1
    unfold Rp at p1'
    exact ⟨i, p1', go_val R1 q Gr.refl rp_int⟩
  · cases ez
/-! ### built-in functions -/
section
variable {K : PySem.W.Frag} {ca : CA}
theorem sva1 {ow : Addr → Prop} {H : Hp} {s : Sl} {vs : List V} (h : SvA K ca ow H [s] vs) : ∃ v, vs = [v] ∧ (s ≠ .un → SvR K ca ow H s v) := by
  unfold SvA at h
  obtain ⟨v, us, rfl, h1, t⟩ := h
  unfold SvA at t
  subst t
  exact ⟨v, rfl, h1⟩
theorem sva2 {ow : Addr → Prop} {H : Hp} {s t : Sl} {vs : List V} (h : SvA K ca ow H [s, t] vs) : ∃ v w, vs = [v, w] ∧ (s ≠ .un → SvR K ca ow H s v) ∧ (t ≠ .un → SvR K ca ow H t w) := by
  unfold SvA at h
  obtain ⟨v, us, rfl, h1, t⟩ := h
  obtain ⟨w, rfl, h2⟩ := sva1 t
  exact ⟨v, w, rfl, h1, h2⟩
@[simp] def bLen : List Sl → Option D
  | [.d (.str z)] => if z.length ≤ LIM then some (.int z.length) else none
  | [.sc ns] => some (.int ns.length)
  | [s] => (seqOf s).map fun xs => .int xs.length
  | _ => none
theorem b_len : BltS K ca (fun xs H Q => ∃ x n, xs = [x] ∧ LenV K x H n ∧ Q (.int n) H) bLen := fun ss z ow H vs Q e h tr k => by
  unfold bLen at e
  split at e
  · obtain ⟨hl, rfl⟩ := ite_some e
    obtain ⟨v, rfl, r⟩ := sva1 h
    have ev := sv_str r
    subst ev
    exact ⟨_, _, rfl, ⟨lim_line hl, rfl⟩, k _ H Gr.refl rp_int⟩
  · rename_i ns
    cases e
    obtain ⟨v, rfl, r⟩ := sva1 h
    obtain ⟨a, rfl, h1⟩ := r (by simp)
    exact ⟨_, ns.length, rfl, .inl ⟨_, h1.sq, by rw [List.length_map]⟩, k _ H Gr.refl rp_int⟩
  · rename_i s _ _
    obtain ⟨xs, hx, rfl⟩ := Option.map_eq_some_iff.mp e
    obtain ⟨v, rfl, r⟩ := sva1 h
    obtain ⟨a, us, rfl, h1, h2⟩ := seqOf_ok hx r
    refine ⟨_, xs.length, rfl, ?_, k _ H Gr.refl rp_int⟩
    rcases h1 with h1 | h1
    · exact .inl ⟨us, h1, h2.length⟩
    · exact .inr ⟨us, h1, h2.length⟩
  · cases e
@[simp] def bInt : List Sl → Option D
  | [.d (.int i)] => some (.int i)
  | [.d (.bool b)] => some (.int (if b then 1 else 0))
  | _ => none
theorem b_int : BltS K ca (fun xs H Q => (∃ i, xs = [.int i] ∧ Q (.int i) H) ∨ ∃ k, xs = [.bl k] ∧ Q (.int (if k then 1 else 0)) H) bInt := fun ss z ow H vs Q e h tr k => by
  unfold bInt at e
  split at e
  · cases e
    obtain ⟨v, rfl, r⟩ := sva1 h
    have ev := sv_int r
    subst ev
    exact .inl ⟨_, rfl, k _ H Gr.refl rp_int⟩
  · cases e
    obtain ⟨v, rfl, r⟩ := sva1 h
    have ev := sv_bool r
    subst ev
    exact .inr ⟨_, rfl, k _ H Gr.refl rp_int⟩
  · cases e
@[simp] def bAbs : List Sl → Option D
  | [.d (.int i)] => some (.int (if i < 0 then -i else i))
  | _ => none
theorem b_abs : BltS K ca (fun xs H Q => ∃ i, xs = [.int i] ∧ Q (.int (if i < 0 then -i else i)) H) bAbs := fun ss z ow H vs Q e h tr k => by
  unfold bAbs at e
  split at e
  · cases e
    obtain ⟨v, rfl, r⟩ := sva1 h
    have ev := sv_int r
    subst ev
    exact ⟨_, rfl, k _ H Gr.refl rp_int⟩
  · cases e
def bOrd : List Sl → Option D
  | [.d (.str x)] => if x.length = 1 then some (.int (x.cps.getD 0 0 : Nat)) else none
  | _ => none
theorem b_ord : BltS K ca (fun xs H Q => ∃ x, xs = [.str x] ∧ x.length = 1 ∧ Q (.int (x.cps.getD 0 0 : Nat)) H) bOrd := fun ss z ow H vs Q e h tr k => by
  unfold bOrd at e
  split at e
  · obtain ⟨hl, rfl⟩ := ite_some e
    obtain ⟨v, rfl, r⟩ := sva1 h
    have ev := sv_str r
    subst ev
    exact ⟨_, rfl, hl, k _ H Gr.refl rp_int⟩
  · cases e
def bMin : List Sl → Option D
  | [.d (.int i), .d (.int j)] => some (.int (if j < i then j else i))
  | _ => none
theorem b_min : BltS K ca (fun xs H Q => ∃ i j, xs = [.int i, .int j] ∧ Q (.int (if j < i then j else i)) H) bMin := fun ss z ow H vs Q e h tr k => by
  unfold bMin at e
  split at e
  · cases e
    obtain ⟨v, w, rfl, r, r2⟩ := sva2 h
    have ev := sv_int r
    have ew := sv_int r2
    subst ev ew
    exact ⟨_, _, rfl, k _ H Gr.refl rp_int⟩
  · cases e
def bMax : List Sl → Option D
  | [.d (.int i), .d (.int j)] => some (.int (if j > i then j else i))
  | _ => none
theorem b_max : BltS K ca (fun xs H Q => ∃ i j, xs = [.int i, .int j] ∧ Q (.int (if j > i then j else i)) H) bMax := fun ss z ow H vs Q e h tr k => by
  unfold bMax at e
  split at e
  · cases e
    obtain ⟨v, w, rfl, r, r2⟩ := sva2 h
    have ev := sv_int r
    have ew := sv_int r2
    subst ev ew
    exact ⟨_, _, rfl, k _ H Gr.refl rp_int⟩
  · cases e
/-- ints, bools of a list -/
@[simp] def dInts : List D → Option (List Int)
  | [] => some []
  | .int i :: r => (dInts r).map fun is => i :: is
  | _ => none
@[simp] def dBools : List D → Option (List Bool)
  | [] => some []
  | .bool i :: r => (dBools r).map fun is => i :: is
  | _ => none
@[simp] def dStrs : List D → Option (List Str)
  | [] => some []
  | .str i :: r => (dStrs r).map fun is => i :: is
  | _ => none
theorem dInts_ok {ow : Addr → Prop} {H : Hp} : ∀ {ds : List D} {vs : List V} {is : List Int}, dInts ds = some is → RpA K ow H ds vs → vs = is.map V.int
  | [], _, _, h, r => by cases h; unfold RpA at r; exact r
  | .int i :: ds, _, _, h, r => by
    unfold dInts at h
    obtain ⟨js, hj, rfl⟩ := Option.map_eq_some_iff.mp h
    unfold RpA at r
    obtain ⟨v, us, rfl, r1, r2⟩ := r
    unfold Rp at r1
    rw [r1, dInts_ok hj r2]; rfl
theorem dBools_ok {ow : Addr → Prop} {H : Hp} : ∀ {ds : List D} {vs : List V} {is : List Bool}, dBools ds = some is → RpA K ow H ds vs → vs = is.map V.bl
  | [], _, _, h, r => by cases h; unfold RpA at r; exact r
  | .bool i :: ds, _, _, h, r => by
    unfold dBools at h
    obtain ⟨js, hj, rfl⟩ := Option.map_eq_some_iff.mp h
    unfold RpA at r
    obtain ⟨v, us, rfl, r1, r2⟩ := r
    unfold Rp at r1
    rw [r1, dBools_ok hj r2]; rfl
theorem dStrs_ok {ow : Addr → Prop} {H : Hp} : ∀ {ds : List D} {vs : List V} {is : List Str}, dStrs ds = some is → RpA K ow H ds vs → vs = is.map V.str
  | [], _, _, h, r => by cases h; unfold RpA at r; exact r
  | .str i :: ds, _, _, h, r => by
    unfold dStrs at h
    obtain ⟨js, hj, rfl⟩ := Option.map_eq_some_iff.mp h
    unfold RpA at r
    obtain ⟨v, us, rfl, r1, r2⟩ := r
    unfold Rp at r1
    rw [r1, dStrs_ok hj r2]; rfl
@[simp] def bSum : List Sl → Option D
  | [s] => (slL s).bind fun xs => (dInts xs).map fun is => .int is.sum
  | _ => none
theorem b_sum : BltS K ca (rSum K) bSum := fun ss z ow H vs Q e h tr k => by
  unfold bSum at e
  split at e
  · obtain ⟨xs, hx, e⟩ := Option.bind_eq_some_iff.mp e
    obtain ⟨is, hi, rfl⟩ := Option.map_eq_some_iff.mp e
    obtain ⟨v, rfl, r⟩ := sva1 h
    obtain ⟨a, us, rfl, h1, h2⟩ := slL_ok hx r
    exact ⟨a, is, rfl, by rw [← dInts_ok hi h2]; exact SqL.of h1, k _ H Gr.refl rp_int⟩
  · cases e
@[simp] def bAll : List Sl → Option D
  | [s] => (slL s).bind fun xs => (dBools xs).map fun is => .bool (is.all id)
  | _ => none
theorem b_all : BltS K ca (rAll K) bAll := fun ss z ow H vs Q e h tr k => by
  unfold bAll at e
  split at e
  · obtain ⟨xs, hx, e⟩ := Option.bind_eq_some_iff.mp e
    obtain ⟨is, hi, rfl⟩ := Option.map_eq_some_iff.mp e
    obtain ⟨v, rfl, r⟩ := sva1 h
    obtain ⟨a, us, rfl, h1, h2⟩ := slL_ok hx r
    exact ⟨a, is, rfl, by rw [← dBools_ok hi h2]; exact SqL.of h1, k _ H Gr.refl rp_bool⟩
  · cases e
def bListOf : List Sl → Option (List D)
  | [s] => seqOf s
  | _ => none
theorem b_list : BltF K ca (fun xs H Q => ∃ p ys, xs = [.ref p] ∧ (SqL K H p ys ∨ SqT K H p ys) ∧ ∀ l, H l = none → Q (.ref l) (upd H l (.lst ys))) bListOf := fun ss z ow H vs Q e h tr k => by
  unfold bListOf at e
  split at e
  · obtain ⟨v, rfl, r⟩ := sva1 h
    obtain ⟨a, us, rfl, h1, h2⟩ := seqOf_ok e r
    exact ⟨a, us, rfl, h1, fun l hl => k l us hl h2⟩
  · cases e
@[simp] def bTupOf : List Sl → Option D
  | [s] => (seqOf s).map PyData.tuple
  | _ => none
theorem b_tup : BltS K ca (fun xs H Q => ∃ p ys, xs = [.ref p] ∧ ((SqL K H p ys ∧ MK.NewT ys H Q) ∨ (SqT K H p ys ∧ Q (.ref p) H))) bTupOf := fun ss z ow H vs Q e h tr k => by
  unfold bTupOf at e
  split at e
  · obtain ⟨xs, hx, rfl⟩ := Option.map_eq_some_iff.mp e
    obtain ⟨v, rfl, r⟩ := sva1 h
    have new : ∀ {a : Addr} {us : List V}, RpA K ow H xs us → MK.NewT us H Q := fun {a us} h2 l o hc hd hl => k _ _ (Gr.new hl) (by
      unfold Rp
      exact ⟨l, us, rfl, .frz upd_same hd (fun z => by obtain ⟨o, ho⟩ := tr l z; rw [hl] at ho; cases ho), h2.stp (Gr.new hl).stp⟩)
    unfold seqOf at hx
    split at hx
    · cases hx
      have q : Rp K ow H (.list xs) v := r (by simp)
      unfold Rp at q
      obtain ⟨a, us, rfl, h1, _, h2⟩ := q
      exact ⟨a, us, rfl, .inl ⟨SqL.of h1, new (a := a) h2⟩⟩
    · cases hx
      obtain ⟨a, us, rfl, h1, h2⟩ := sv_tup r
      exact ⟨a, us, rfl, .inr ⟨h1.sq, k _ H Gr.refl (by unfold Rp; exact ⟨a, us, rfl, h1, h2⟩)⟩⟩
    · cases hx
      obtain ⟨p, rfl, w, us, h1, h2⟩ := r (by simp)
      exact ⟨p, us, rfl, .inl ⟨SqL.of h1, new (a := p) h2⟩⟩
    · cases hx
  · cases e
end
/-! ### isinstance -/
@[simp] def tyName : D → String
  | .none => "NoneType"
  | .bool _ => "bool"
  | .int _ => "int"
  | .str _ => "str"
  | .list _ => "list"
  | .tuple _ => "tuple"
  | .dict _ => "dict"
/-- of a built-in type -/
@[simp] def isTy (T : String) (d : D) : Bool := tyName d == T || (T == "int" && tyName d == "bool")
def TyKnown (T : String) : Prop := ∀ n ∈ ["NoneType", "bool", "int", "str", "list", "tuple", "dict"], kitB n T = some (n == T || (T == "int" && n == "bool"))
theorem tyK_int : TyKnown "int" := by intro n hn; revert n; decide +kernel
theorem tyK_bool : TyKnown "bool" := by intro n hn; revert n; decide +kernel
theorem tyK_str : TyKnown "str" := by intro n hn; revert n; decide +kernel
theorem tyK_list : TyKnown "list" := by intro n hn; revert n; decide +kernel
theorem tyK_tuple : TyKnown "tuple" := by intro n hn; revert n; decide +kernel
theorem tyK_dict : TyKnown "dict" := by intro n hn; revert n; decide +kernel
theorem tyName_mem (d : D) : tyName d ∈ ["NoneType", "bool", "int", "str", "list", "tuple", "dict"] := by cases d <;> simp [tyName]
theorem tyX_of {K : PySem.W.Frag} {ow : Addr → Prop} {H : Hp} {d : D} {v : V} (r : Rp K ow H d v) : TyX K H v (.type (tyName d)) := by
  cases d with
  | none => unfold Rp at r; subst r; exact .base .non
  | bool b => unfold Rp at r; subst r; exact .base (.bl b)
  | int b => unfold Rp at r; subst r; exact .base (.int b)
  | str b => unfold Rp at r; subst r; exact .base (.str b)
  | list b => unfold Rp at r; obtain ⟨a, xs, rfl, h, _⟩ := r; exact .base (.lst h)
  | tuple b =>
    unfold Rp at r
    obtain ⟨a, xs, rfl, h, _⟩ := r
    rcases h.at_ with ⟨h, _⟩ | ⟨o, h, _⟩ | ⟨o, its, n, h, c, _⟩
    · exact .base (.tup h)
    · exact .fTuple h
    · exact .kTuple h c
  | dict b => unfold Rp at r; obtain ⟨a, xs, rfl, h, _⟩ := r; exact .base (.dK h)
/-- isinstance(e, T) -/
def eIsi (T : String) (m : M D) : M D := bind m fun x => ret (.bool (isTy T x))
theorem me_isi {ca : CA} {X : Cx} {e : Expr} {p p2 pos : Pos} {T : String} {m : M D} (h : ME ca X e m) (hm : X.mg "isinstance" = none) (hmT : X.mg (Str.ofString T) = none) (hT : TyKnown T) (hb : bootBuiltins (Str.ofString T) = some (.type T)) (hg : Gl X "isinstance" := by rfl) (hgT : Gl X (Str.ofString T) := by rfl)
    (hnT : (Str.ofString T) ≠ "__name__" := by decide) (hdT : ((Str.ofString T) == ("__debug__" : Str)) = false := by decide)
    (he1 : starEach [e, .Name (Str.ofString T) p2] X.env = (false, eval e X.env) :: starEach [.Name (Str.ofString T) p2] X.env := by rfl) (he2 : starEach [.Name (Str.ofString T) p2] X.env = (false, eval (.Name (Str.ofString T) p2) X.env) :: starEach [] X.env := by rfl)
    (hpl : (backTo pos (starEach [.Name (Str.ofString T) p2] X.env)).any (·.1) = false := by rfl) :
    ME ca X (.Call (.Name "isinstance" p) [e, .Name (Str.ofString T) p2] [] pos) (eIsi T m) := fun F W tk =>
  PE.imp (pe_callB call_isi hg hm (by decide +kernel) (pa_cons (h F W tk) (pa_cons (pe_bltn (v := .ty T) hgT hmT hb rfl hnT hdT) pa_nil he2) he1) (by decide) (by decide) he1 hpl) fun σ H Q ⟨ow, env, R, g⟩ => go_bind R g fun x e1 v ow1 H1 g1 R1 p1 q1 =>
    ⟨v, .ty T, .type (tyName x), .type T, _, rfl, .ty T, tyX_of p1, kit_ty (hT _ (tyName_mem x)), q1 _ ow1 H1 Go.refl R1 rp_bool⟩
end ML
end

section
set_option Elab.async false
set_option linter.all false
set_option maxRecDepth 100000
set_option maxHeartbeats 2000000
/-! # Names of the module, chains, subscripts, slices, strings -/
namespace ML
open PySem L2
/-! ### a module's constant -/
theorem me_gl {ca : CA} {X : Cx} {pos : Pos} {x : Str} {v : V} {u : Value} {d : D} (hm : X.mg x = some u) (r : RelV v u) (rp : ∀ ow H, Rp X.K ow H d v) (hg : Gl X x := by rfl) (hd : (x == ("__debug__" : Str)) = false := by decide) : ME ca X (.Name x pos) (eC d) := fun F W _ =>
  PE.imp (pe_glob hg hm r hd) fun σ H Q h => go_pure (H := H) (v := v) ⟨_, _, h.choose_spec.choose_spec.1, h.choose_spec.choose_spec.2⟩ fun ow => rp ow H
section
variable {K : PySem.W.Frag} {ca : CA}
theorem rg_int {i : Int} (ow : Addr → Prop) (H : Hp) : Rp K ow H (.int i) (.int i) := rp_int
theorem rg_str {i : Str} (ow : Addr → Prop) (H : Hp) : Rp K ow H (.str i) (.str i) := rp_str
/-! ### subscripts -/
@[simp] def ixD (xs : List D) : Sl → Option D
  | .d (.int i) => atI xs i
  | _ => none
@[simp] def gIx : Sl → Sl → Option D
  | .d (.str z), .d (.int i) => if z.length ≤ LIM then (atI z.cps.toList i).map fun c => .str (sign c) else none
  | .sc ns, .d (.int i) => (atI ns i).map PyData.int
  | s, t => (seqOf s).bind fun xs => ixD xs t
theorem atI_map {α β : Type} {f : α → β} {xs : List α} {i : Int} : atI (xs.map f) i = (atI xs i).map f := by
  unfold atI
  rw [List.length_map]
  cases ixN xs.length i with
  | none => rfl
  | some j => simp
theorem RpA.atI {ow : Addr → Prop} {H : Hp} {xs : List D} {us : List V} {i : Int} {d : D} (h : RpA K ow H xs us) (e : atI xs i = some d) : ∃ v, L2.atI us i = some v ∧ Rp K ow H d v := by
  unfold L2.atI at e
  obtain ⟨j, hj, e⟩ := Option.bind_eq_some_iff.mp e
  have hl : j < us.length := by rw [← h.length]; exact (List.getElem?_eq_some_iff.mp e).1
  obtain ⟨v, hv⟩ := some_of_lt hl
  refine ⟨v, ?_, h.get e hv⟩
  unfold L2.atI
  rw [← h.length, hj]
  exact hv
theorem ite_opt {α : Type} {c : Prop} [Decidable c] {x : Option α} {z : α} (h : (if c then x else none) = some z) : c ∧ x = some z := by
  by_cases q : c
  · rw [if_pos q] at h; exact ⟨q, h⟩
  · rw [if_neg q] at h; cases h
theorem s_ix : OpS K ca (rIx K) gIx := fun s t z ow H v1 v2 Q e r1 r2 tr k => by
  unfold gIx at e
  split at e
  · obtain ⟨hl, e⟩ := ite_opt e
    obtain ⟨c, hc, rfl⟩ := Option.map_eq_some_iff.mp e
    exact .inr (.inr ⟨_, _, c, sv_str r1, sv_int r2, lim_line hl, hc, k _ H Gr.refl rp_str⟩)
  · rename_i ns i
    obtain ⟨c, hc, rfl⟩ := Option.map_eq_some_iff.mp e
    obtain ⟨a, rfl, h1⟩ := r1 (by simp)
    exact .inl ⟨a, _, i, .int c, rfl, sv_int r2, h1.sq, by rw [atI_map, hc]; rfl, k _ H Gr.refl rp_int⟩
  · obtain ⟨xs, hx, e⟩ := Option.bind_eq_some_iff.mp e
    unfold ixD at e
    split at e
    · obtain ⟨a, us, rfl, h1, h2⟩ := seqOf_ok hx r1
      obtain ⟨v, hv, rv⟩ := h2.atI e
      rcases h1 with h1 | h1
      · exact .inl ⟨a, us, _, v, rfl, sv_int r2, h1, hv, k v H Gr.refl rv⟩
      · exact .inr (.inl ⟨a, us, _, v, rfl, sv_int r2, h1, hv, k v H Gr.refl rv⟩)
    · cases e
/-! ### slices -/
def cut {α : Type} (xs : List α) (lo hi : Option Int) : List α := (xs.drop (HT.sIx xs.length 0 lo)).take (HT.sIx xs.length xs.length hi - HT.sIx xs.length 0 lo)
theorem RpA.drop {ow : Addr → Prop} {H : Hp} : ∀ {xs : List D} {us : List V} (n : Nat), RpA K ow H xs us → RpA K ow H (xs.drop n) (us.drop n)
  | _, _, 0, h => h
  | [], _, n + 1, h => by
    unfold RpA at h
    subst h
    show RpA K ow H [] []
    unfold RpA; rfl
  | x :: xs, _, n + 1, h => by
    unfold RpA at h
    obtain ⟨u, us, rfl, h1, h2⟩ := h
    exact RpA.drop n h2
theorem RpA.take {ow : Addr → Prop} {H : Hp} : ∀ {xs : List D} {us : List V} (n : Nat), RpA K ow H xs us → RpA K ow H (xs.take n) (us.take n)
  | xs, us, 0, h => by
    show RpA K ow H [] []
    unfold RpA; rfl
  | [], _, n + 1, h => by
    unfold RpA at h
    subst h
    show RpA K ow H [] []
    unfold RpA; rfl
  | x :: xs, _, n + 1, h => by
    unfold RpA at h
    obtain ⟨u, us, rfl, h1, h2⟩ := h
    show RpA K ow H (x :: xs.take n) (u :: us.take n)
    unfold RpA
    exact ⟨u, _, rfl, h1, RpA.take n h2⟩
theorem RpA.cut {ow : Addr → Prop} {H : Hp} {xs : List D} {us : List V} {lo hi : Option Int} (h : RpA K ow H xs us) : RpA K ow H (ML.cut xs lo hi) (cutV us lo hi) := by
  unfold ML.cut cutV
  rw [h.length]
  exact (h.drop _).take _
theorem RpA.reverse {ow : Addr → Prop} {H : Hp} : ∀ {xs : List D} {us : List V}, RpA K ow H xs us → RpA K ow H xs.reverse us.reverse
  | [], _, h => by
    unfold RpA at h
    subst h
    show RpA K ow H [] []
    unfold RpA; rfl
  | x :: xs, _, h => by
    unfold RpA at h
    obtain ⟨u, us, rfl, h1, h2⟩ := h
    rw [List.reverse_cons, List.reverse_cons]
    exact RpA.snoc h1 h2.reverse
/-- a slice of a list: a new one -/
def gSlL (s : Sl) (lo hi : Option Int) : Option (List D) := (slL s).map fun xs => cut xs lo hi
theorem s_slL : SlF K ca (rSlL K) gSlL := fun s lo hi z ow H v Q e r tr k => by
  obtain ⟨xs, hx, rfl⟩ := Option.map_eq_some_iff.mp e
  obtain ⟨a, us, rfl, h1, h2⟩ := slL_ok hx r
  exact ⟨a, us, rfl, SqL.of h1, fun p hp => k p _ hp h2.cut⟩
/-- .. of a tuple -/
@[simp] def gSlT : Sl → Option Int → Option Int → Option D
  | .d (.tuple xs), lo, hi => some (.tuple (cut xs lo hi))
  | _, _, _ => none
theorem s_slT : SlS K ca (MK.rSlZ K) gSlT := fun s lo hi z ow H v Q e r tr k => by
  unfold gSlT at e
  split at e
  · rename_i xs
    cases e
    obtain ⟨a, us, rfl, ha, ra⟩ := sv_tup r
    refine ⟨a, us, rfl, ha.sq, fun hw => k _ H Gr.refl ?_, fun hw p o hc hd hp => k _ _ (Gr.new hp) ?_⟩
    · have e : cut xs lo hi = xs := by
        unfold cut
        rw [ra.length, hw.1, hw.2, List.drop_zero, Nat.sub_zero]
        exact List.take_of_length_le (by rw [ra.length]; exact Nat.le_refl _)
      unfold Rp
      rw [e]
      exact ⟨a, us, rfl, ha, ra⟩
    · unfold Rp
      exact ⟨p, _, rfl, .frz upd_same hd (fun z => by obtain ⟨o, ho⟩ := tr p z; rw [hp] at ho; cases ho), (ra.cut).stp (Gr.new hp).stp⟩
  · cases e
/-- .. of a text -/
def gSlS : Sl → Option Int → Option Int → Option D
  | .d (.str z), lo, hi => if z.length ≤ LIM then some (.str (cutS z lo hi)) else none
  | _, _, _ => none
theorem s_slS : SlS K ca rSlS gSlS := fun s lo hi z ow H v Q e r tr k => by
  unfold gSlS at e
  split at e
  · obtain ⟨hl, rfl⟩ := ite_some e
    exact ⟨_, sv_str r, lim_line hl, k _ H Gr.refl rp_str⟩
  · cases e
end
/-! ### a op b op c -/
def eChain (g g' : Sl → Sl → Option D) (ma mb mc : M AV) : M D := bind ma fun a => bind mb fun b => fun e => match (g (content e a) (content e b)).bind dB with
  | some true => bind mc (fun c => fun e => lift (g' (content e b) (content e c)) e) e
  | some false => .ok (.bool false) e
  | none => .bad
theorem me_chain {ca : CA} {X : Cx} {a b c : Expr} {pos : Pos} {op op' : CmpOp} {r r' : R2} {g g' : Sl → Sl → Option D} {ma mb mc : M AV} (ho : OpR X (compareOp op) r) (hs : OpS X.K ca r g) (ho' : OpR X (compareOp op') r') (hs' : OpS X.K ca r' g') (ha : MQ ca X a ma) (hb : MQ ca X b mb) (hc : MQ ca X c mc)
    (hm : lastMarks [op, op'] [b, c] = false := by with_unfolding_all rfl) : ME ca X (.Compare a [op, op'] [b, c] pos) (eChain g g' ma mb mc) := fun F W tk =>
  PE.imp (pe_chain ho ho' (ha F W tk) (hb F W tk) (hc F W tk) hm) fun σ H Q ⟨ow, env, R, gg⟩ =>
    go_bind R gg fun x e1 v1 ow1 H1 g1 R1 p1 q1 => go_bind R1 q1 fun y e2 v2 ow2 H2 g2 R2 p2 q2 => by
      cases hd : (g (content e2 x) (content e2 y)).bind dB with
      | none => simp only [hd] at q2; exact q2.elim
      | some k =>
        obtain ⟨d, ed, ez⟩ := Option.bind_eq_some_iff.mp hd
        have ed' := dB_some ez
        subst ed'
        refine hs _ _ _ ow2 H2 v1 v2 _ ed (fun n => (p1.1.go g2).sv R2 n) (fun n => p2.1.sv R2 n) R2.trk fun v H' gr rp => ?_
        unfold Rp at rp
        refine ⟨k, rp, ?_⟩
        have R3 := R2.gr gr
        have g3 := Go.gr R2 gr
        cases k with
        | true =>
          rw [if_pos rfl]
          simp only [hd] at q2
          exact go_bind R3 (q2.mono g3) fun z e4 v4 ow4 H4 g4 R4 p4 q4 => by
            obtain ⟨w, ew, q⟩ := lift_go q4
            exact hs' _ _ w ow4 H4 v2 v4 Q ew (fun n => ((p2.1.go g3).go g4).sv R4 n) (fun n => p4.1.sv R4 n) R4.trk fun v H' gr rp => go_val R4 q gr rp
        | false =>
          rw [if_neg Bool.false_ne_true]
          simp only [hd] at q2
          exact q2 (.bl false) ow2 H' g3 R3 (by show Rp _ _ _ (.bool false) _; unfold Rp; rfl)
end ML
end

section
set_option Elab.async false
set_option linter.all false
set_option maxRecDepth 100000
set_option maxHeartbeats 2000000
/-! # list(reversed(tuple)), tuple[::-1], at the library's level -/
namespace RT
open PySem PySem.Spec PyProof.Rows L2
theorem nolen_rt : typeLookup (.type "reversed") "__len__" = pure none := by rw [typeLookup_type, builtinLookup_eq_fast]; kernel_rfl
theorem hint_rt : typeLookup (.type "reversed") "__length_hint__" = pure (some (.builtin "reversed.__length_hint__")) := by rw [typeLookup_type, builtinLookup_eq_fast]; kernel_rfl
section
variable {prog : Program} {w : World} {A : Around} {E : Value → Shared → Prop} {s : Shared}
theorem IsTup.at' {h h' : Heap} {t : Addr} {items : Array Value} (x : IsTup h t items) (k : ∀ o, h.get? t = some o → h'.get? t = some o) : IsTup h' t items := let ⟨o, ho, r⟩ := x; ⟨o, k _ ho, r⟩
theorem walks_rt (hh : A.handled = none) (it t : Addr) (hne : t ≠ it) (items : Array Value) (hsz : items.size ≤ sizeLine) :
    Walks prog w A it [it, t] [it] items.size (fun i v => items[items.size - 1 - i]? = some v) (fun i h => i ≤ items.size ∧ IsRt h it t ((items.size : Int) - 1 - (i : Int)) ∧ IsTup h t items) where
  sub := fun b hb => by simp at hb; simp [hb]
  frame := fun _ _ _ x hk => ⟨x.1, x.2.1.at fun o e => hk it (by simp) o e, IsTup.at' x.2.2 fun o e => hk t (by simp) o e⟩
  item := fun i s Q E hi x hQ => by
    have e : (items.size : Int) - 1 - (i : Int) = ((items.size - 1 - i : Nat) : Int) := by omega
    have hit := x.2.1
    rw [e] at hit
    have hx : items[items.size - 1 - i]? = some (items[items.size - 1 - i]'(by omega)) := Array.getElem?_eq_getElem (by omega)
    refine next_rt_item hit x.2.2 hx hsz fun h' hit' hs' => ?_
    have e2 : ((items.size - 1 - i : Nat) : Int) - 1 = (items.size : Int) - 1 - ((i + 1 : Nat) : Int) := by omega
    rw [e2] at hit'
    exact hQ _ h' (s.toks + 1) hx ⟨hi, hit', IsTup.at' x.2.2 fun o eo => (hs'.2 t hne).trans eo⟩ fun b o hb eo => hs'.extBut b o (fun h => hb (by simp [h])) eo
  done := fun s Q E x hQ => by
    have e : (items.size : Int) - 1 - (items.size : Int) = -1 := by omega
    have hit := x.2.1
    rw [e] at hit
    exact next_rt_end hh hit fun h' he' => hQ h' s.toks fun b o hb eo => he' b o (fun h => hb (by simp [h])) eo
  self := fun _ _ _ _ x hQ => iter_rt x.2.1 hQ
theorem slot_rt_hint : Slot "reversed" "__length_hint__" "reversed.__length_hint__" :=
  .of (owner := "reversed") (n := "__length_hint__") hint_rt (by decide +kernel) (by decide +kernel) (by decide +kernel)
    (by first | exact .inl (by decide +kernel) | exact .inr (by decide +kernel)) (by rw [isSubtype_type]; kernel_rfl)
theorem entry_rt_hint : entryFor table "reversed.__length_hint__" = some Builtin.«reversed.__length_hint__» := entryFor_of_tree (by kernel_rfl)
theorem args_rt_hint (a : Value) : argsOk "reversed.__length_hint__" ⟨[a], []⟩ := by
  unfold argsOk; rw [signature?_of (id := "reversed.__length_hint__") (n := ['_', '_', 't', 'n', 'i', 'h', '_', 'h', 't', 'g', 'n', 'e', 'l', '_', '_']) (o := ['d', 'e', 's', 'r', 'e', 'v', 'e', 'r']) (by kernel_rfl) owner_rt]; kernel_rfl
theorem hint_ok {it t : Addr} {items : Array Value} {Q : Bool → Shared → Prop} (hit : IsRt s.heap it t ((items.size : Int) - 1)) (ht : IsTup s.heap t items) (hn : items.size ≤ sizeLine)
    (h : ∀ tk, Q ((items.size : Int) != 0) { s with toks := tk }) : wpAny (model prog w) A (Builtin.List.listLengthHint (.ref it)) Q E s := by
  have hT : s.TypeIs (.ref it) "reversed" := hit.typeIs
  have l63 := line63
  have hz : items.size < 2 ^ 63 := by omega
  obtain ⟨o, ho, hc, hd⟩ := id hit
  unfold Builtin.List.listLengthHint
  refine wpAny_bind (wpAny_specialOf hT nolen_rt ?_)
  show wpAny _ _ (specialOf (Value.ref it) (Str.ofString "__length_hint__") >>= _) _ _ _
  refine wpAny_bind (wpAny_specialOf hT hint_rt ?_)
  generalize hid : ("reversed.__length_hint__" : String) = id0
  wp_delta
  rw [show splitId id0 = some ("reversed", "__length_hint__") from by subst hid; decide +kernel]
  subst hid
  refine wpAny_bind (wpAny_isInstance (b := true) hT (by rw [isSubtype_type]; kernel_rfl) ?_)
  refine wpAny_ite_split (fun hab => absurd hab (by decide)) (fun _ => ?_)
  refine wpAny_ite_split (fun hab => absurd hab (by decide +kernel)) (fun _ => ?_)
  refine wpAny_bind (wpAny_rule ?_)
  refine wpAny_bind (wpAny_of_eq (slot_rt_hint.bind _) ?_)
  try dsimp only
  refine wpAny_bind (wpAny_attempt (wpAny_call_entry slot_rt_hint hT entry_rt_hint ?_ (args_rt_hint _)))
  unfold Builtin.«reversed.__length_hint__»
  refine wpAny_bind (wpAny_of_eq (a := Value.ref it) rfl ?_)
  try dsimp only
  refine wpAny_bind (wpAny_field ho hd (x := .ref t) rfl ?_)
  try dsimp only
  rw [if_neg (show ¬ ((Value.ref t == Value.none) = true) from Bool.false_ne_true)]
  refine wpAny_bind (len_tuple ht (by omega) ?_)
  refine wpAny_bind (wpAny_of_eq (a := some ((items.size : Nat) : Int)) rfl ?_)
  try dsimp only
  refine wpAny_bind (wpAny_field (s := { s with toks := s.toks + 1 + 1 }) ho hd (x := rawInt ((items.size : Int) - 1)) rfl ?_)
  show wpAny _ _ (if ((items.size : Nat) : Int) < ((items.size : Int) - 1) + 1 then _ else _) _ _ _
  rw [if_neg (by omega)]
  refine wpAny_bind (wpAny_mkInt ?_)
  refine wpAny_pure ⟨_, rfl, ?_⟩
  have htl : Builtin.List.listTooLong ((((items.size : Int) - 1) + 1).toNat) = false := notLongL (by omega)
  have hfi : Builtin.List.listFitsIndex (((items.size : Int) - 1) + 1) = true := by unfold Builtin.List.listFitsIndex; simp; omega
  refine wpAny_bind (m := asInt? _) (wpAny_pure ?_)
  try dsimp only
  refine wpAny_ite_split (fun hab => absurd hab (by rw [hfi]; decide)) (fun _ => ?_)
  refine wpAny_ite_split (fun hab => absurd hab (by omega)) (fun _ => ?_)
  refine wpAny_ite_split (fun hab => absurd hab (by rw [htl]; decide)) (fun _ => wpAny_pure ?_)
  have e : ((items.size : Int) - 1) + 1 = (items.size : Int) := by omega
  rw [e]
  exact h _
theorem extend_rt {R : Result → Shared → Prop} {it t : Addr} {items : Array Value} (hh : A.handled = none) (hit : IsRt s.heap it t ((items.size : Int) - 1)) (ht : IsTup s.heap t items) (hne : t ≠ it) (hn : items.size ≤ sizeLine)
    (S : Addr) (res : Value) (c₀ : Nat) (hS : s.heap.get? S = some { cls := .type "list", data := .seq #[] c₀ }) (hSi : S ≠ it) (hSt : S ≠ t)
    (hR : ∀ h' tk acc' c', (∀ b o, b ≠ S → b ≠ it → s.heap.get? b = some o → h'.get? b = some o) → h'.get? S = some { cls := .type "list", dict := none, data := .seq acc' c', slots := #[] } →
      ItemsOf (fun i v => items[items.size - 1 - i]? = some v) acc' items.size → R (.ok (.ret res)) { s with heap := h', toks := tk }) :
    wpAny (model prog w) A.in1 (Builtin.List.listExtendWith (.ref S) (.ref it) res)
      (fun fin s' => match fin with | .done f => R (.ok f) s' | .again c' => c'.quiet = true ∧ codeAny (model prog w) A c' R s') (fun e s' => R (.error e) s') s := by
  have W := (walks_rt (prog := prog) (w := w) (A := A.in1) hh it t hne items hn).toS
  have hSf : S ∉ [it, t] := by simp only [List.mem_cons, List.not_mem_nil, or_false, not_or]; exact ⟨hSi, hSt⟩
  have hT : s.TypeIs (.ref it) "reversed" := hit.typeIs
  have h1 : Builtin.List.listSameRef (.ref S) (.ref it) = false := by simp [Builtin.List.listSameRef, hSi]
  unfold Builtin.List.listExtendWith
  refine wpAny_bind (wpAny_typeOf hT ?_)
  rw [if_neg (by rw [h1]; decide)]
  refine wpAny_bind (iter_rt hit ?_)
  refine wpAny_bind (wpAny_holding (hint_ok hit ht hn fun tk => ?_))
  have e0 : ((items.size : Nat) : Int) - 1 - ((0 : Nat) : Int) = (items.size : Int) - 1 := by omega
  have key : ∀ (h : Heap) (c₁ tk : Nat), IsRt h it t ((items.size : Int) - 1) → IsTup h t items → (∀ b o, b ≠ S → s.heap.get? b = some o → h.get? b = some o) →
      h.get? S = some { cls := .type "list", data := .seq #[] c₁ } → codeAny (model prog w) A (.builtin "list.extend.loop" ⟨[.ref S, .ref it, res], []⟩) R { s with heap := h, toks := tk } := by
    intro h c₁ tk hi1 ht1 hk hS₁
    refine codeAny_extend_loopS W hn S hSf res items.size 0 _ #[] c₁ rfl (Nat.zero_le _) ⟨Nat.zero_le _, by rw [e0]; exact hi1, ht1⟩ hS₁ (ItemsOf.nil _) fun s' acc' c' hm hS' hacc => ?_
    rw [Moved.eq_with hm]
    refine hR s'.heap s'.toks acc' c' (fun b o hb hb2 e => hm.heap b o (fun hmem => ?_) (hk b o hb e)) hS' hacc
    rcases List.mem_cons.mp hmem with e' | hmem
    · exact hb e'
    · exact hb2 (List.mem_singleton.mp hmem)
  refine wpAny_ite_split (fun _ => ?_) (fun _ => wpAny_pure ⟨plainId_quiet F.plain_extend_loop _, key _ c₀ _ hit ht (fun b o _ e => e) hS⟩)
  refine wpAny_bind (wpAny_rule ?_)
  refine wpAny_bind ?_
  show wpAny _ _ (updateSeq S (·.push .none) >>= fun _ => updateSeq S (·.pop)) _ _ _
  refine wpAny_bind (wpAny_updateSeq hS rfl ?_)
  have hS₂ := Heap.get?_update_self (Obj.mapSeq (·.push Value.none)) hS rfl
  refine wpAny_updateSeq (hz := by seq_fits) hS₂ rfl ?_
  have hS₃ := Heap.get?_update_self (Obj.mapSeq (·.pop)) hS₂ rfl
  have oth : ∀ b o, b ≠ S → s.heap.get? b = some o → ((s.heap.update S (Obj.mapSeq (·.push Value.none))).update S (Obj.mapSeq (·.pop))).get? b = some o := fun b o hb e => (Heap.get?_update_other _ _ (Ne.symm hb)).trans ((Heap.get?_update_other _ _ (Ne.symm hb)).trans e)
  refine wpAny_pure ⟨plainId_quiet F.plain_extend_loop _, key _ _ _ (hit.at fun o e => oth _ o (Ne.symm hSi) e) (IsTup.at' ht fun o e => oth _ o (Ne.symm hSt) e) oth hS₃⟩
theorem call_list_rt {Q : Value → Shared → Prop} {it t : Addr} {items : Array Value} (hh : A.handled = none) (hit : IsRt s.heap it t ((items.size : Int) - 1)) (ht : IsTup s.heap t items) (hne : t ≠ it) (hn : items.size ≤ sizeLine)
    (hQ : ∀ h' tk acc' c', (∀ b o, b ≠ it → s.heap.get? b = some o → h'.get? b = some o) →
      h'.get? s.heap.objs.size = some { cls := .type "list", dict := none, data := .seq acc' c', slots := #[] } → ItemsOf (fun i v => items[items.size - 1 - i]? = some v) acc' items.size → Q (.ref s.heap.objs.size) { s with heap := h', toks := tk }) :
    wpAny (model prog w) A (call (.type "list") [.ref it]) Q E s := by
  refine callType_codes (Q₁ := fun obj s₁ => obj = .ref s.heap.objs.size ∧ s₁ = { s with heap := s.heap.push { cls := .type "list", data := .seq #[] } }) F.called_list (F.typeCall_list_1 _) F.entry_list_init
    (code_list_new _ ⟨rfl, rfl⟩) fun obj s₁ h₁ => ?_
  obtain ⟨rfl, rfl⟩ := h₁
  have hS : (s.heap.push { cls := .type "list", data := .seq #[] }).get? s.heap.objs.size = some { cls := .type "list", data := .seq #[] } := Heap.get?_push_size _ rfl
  have hSi : s.heap.objs.size ≠ it := by obtain ⟨o, ho, _⟩ := id hit; exact Nat.ne_of_gt (Heap.lt_size ho)
  have hSt : s.heap.objs.size ≠ t := by obtain ⟨o, ho, _⟩ := id ht; exact Nat.ne_of_gt (Heap.lt_size ho)
  refine ⟨⟨_, hS, rfl⟩, F.args_list_init_2 _ _, ?_⟩
  show wpAny _ _ (do let old ← Builtin.List.listItems (.ref s.heap.objs.size); Builtin.List.listUpdate (.ref s.heap.objs.size) (fun _ => #[]); letGo old.toList.reverse; Builtin.List.listExtendWith (.ref s.heap.objs.size) (.ref it) .none) _ _ _
  refine wpAny_bind ?_
  unfold Builtin.List.listItems
  refine wpAny_bind (wpAny_seqItems hS rfl (wpAny_pure ?_))
  show wpAny _ _ (updateSeq s.heap.objs.size (fun _ => #[]) >>= fun _ => letGo (#[] : Array Value).toList.reverse >>= fun _ => Builtin.List.listExtendWith (.ref s.heap.objs.size) (.ref it) .none) _ _ _
  refine wpAny_bind (wpAny_updateSeq hS rfl ?_)
  have hS₂ := Heap.get?_update_self (Obj.mapSeq (fun _ => (#[] : Array Value))) hS rfl
  have oth : ∀ b o, b ≠ s.heap.objs.size → s.heap.get? b = some o → ((s.heap.push { cls := .type "list", data := .seq #[] }).update s.heap.objs.size (Obj.mapSeq (fun _ => (#[] : Array Value)))).get? b = some o :=
    fun b o hb e => (Heap.get?_update_other _ _ (Ne.symm hb)).trans (Heap.get?_push_of_some _ e)
  refine wpAny_bind (wpAny_letGo ?_)
  refine extend_rt (A := A.in1) hh (hit.at fun o e => oth _ o (Ne.symm hSi) e) (IsTup.at' ht fun o e => oth _ o (Ne.symm hSt) e) hne hn _ _ _ hS₂ hSi hSt fun h' tk acc' c' hk hS' hacc => ?_
  exact ⟨rfl, hQ h' tk acc' c' (fun b o hb e => hk b o (Nat.ne_of_lt (Heap.lt_size e)) hb (oth b o (Nat.ne_of_lt (Heap.lt_size e)) e)) hS' hacc⟩
end
/-! ### t[::-1] -/
section
variable {prog : Program} {w : World} {A : Around} {E : Value → Shared → Prop} {s : Shared}
theorem sliceApplied_rev {sl : Addr} {vl vu vs : Value} {n : Nat} {Q : Int × Int × Nat → Shared → Prop} (hs : s.heap.IsSliceOf sl vl vu vs) (pl : IsPart vl none) (pu : IsPart vu none) (ps : IsPart vs (some (-1)))
    (h : Q ((n : Int) - 1, -1, n) s) : wpAny (model prog w) A (Builtin.Slice.sliceApplied (.ref sl) (pure (n : Int))) Q E s := by
  obtain ⟨os, hos, hcs, hds⟩ := id hs
  unfold Builtin.Slice.sliceApplied Builtin.Slice.sliceFields
  refine wpAny_bind (wpAny_bind (wpAny_field hos hds (x := vl) rfl (wpAny_bind (wpAny_field hos hds (x := vu) rfl (wpAny_bind (wpAny_field hos hds (x := vs) rfl (wpAny_pure ?_)))))))
  refine wpAny_bind (HT.slicePart_ ps ?_)
  show wpAny _ _ (if ((-1 : Int) == 0) = true then _ else _) _ _ s
  rw [if_neg (by decide)]
  refine wpAny_bind (HT.slicePart_ pl (wpAny_bind (HT.slicePart_ pu (wpAny_bind (wpAny_pure ?_)))))
  show wpAny _ _ (match Builtin.Slice.sliceAdjust none none (-1) (n : Int) with | (lo, hi) => pure (lo, (-1 : Int), Builtin.Slice.slicePlaces lo hi (-1))) _ _ s
  have e1 : Builtin.Slice.sliceAdjust none none (-1) (n : Int) = ((n : Int) - 1, -1) := by
    unfold Builtin.Slice.sliceAdjust
    simp
  rw [e1]
  show wpAny _ _ (pure ((n : Int) - 1, (-1 : Int), Builtin.Slice.slicePlaces ((n : Int) - 1) (-1) (-1))) _ _ s
  have e2 : Builtin.Slice.slicePlaces ((n : Int) - 1) (-1) (-1) = n := by
    unfold Builtin.Slice.slicePlaces
    have h1 : ¬ ((-1 : Int) > 0) := by omega
    simp only [h1, if_false]
    by_cases hn : (n : Int) - 1 > -1
    · simp only [hn, if_true]
      have h2 : (- (-1 : Int)) = 1 := by decide
      first
      | (rw [h2, Int.ediv_one]; omega)
      | (simp only [h2, Int.ediv_one]; omega)
      | (split <;> omega)
    · first
      | (simp only [hn, if_false]; omega)
      | (split <;> omega)
  rw [e2]
  exact wpAny_pure h
theorem fm_congr {α β : Type} {f g : α → Option β} : ∀ {l : List α}, (∀ x, x ∈ l → f x = g x) → l.filterMap f = l.filterMap g
  | [], _ => rfl
  | x :: l, h => by
    rw [List.filterMap_cons, List.filterMap_cons, h x List.mem_cons_self, fm_congr fun y hy => h y (List.mem_cons_of_mem _ hy)]
theorem pick_rev (xs : Array Value) : ((List.range xs.size).filterMap fun (m : Nat) => xs[(((xs.size : Int) - 1) + (m : Int) * (-1)).toNat]?).toArray = xs.toList.reverse.toArray := by
  have e : ∀ m, m ∈ List.range xs.size → xs[(((xs.size : Int) - 1) + (m : Int) * (-1)).toNat]? = xs[xs.size - 1 - m]? := by
    intro m hm
    have hm' := List.mem_range.mp hm
    have : (((xs.size : Int) - 1) + (m : Int) * (-1)).toNat = xs.size - 1 - m := by omega
    rw [this]
  have e2 : ((List.range xs.size).filterMap fun (m : Nat) => xs[(((xs.size : Int) - 1) + (m : Int) * (-1)).toNat]?) = (List.range xs.size).filterMap fun m => xs[xs.size - 1 - m]? := fm_congr e
  rw [e2]
  have e3 : ((List.range xs.size).filterMap fun m => xs[xs.size - 1 - m]?) = ((List.range xs.size).map fun m => xs.size - 1 - m).filterMap (xs[·]?) := by rw [List.filterMap_map]; rfl
  rw [e3, PySem.W.krv_range, List.filterMap_reverse, PySem.W.krv_all]
theorem getItem_tuple_rev {t sl : Addr} {items : Array Value} {vl vu vs : Value} {Q : Value → Shared → Prop} (ht : IsTup s.heap t items) (hs : s.heap.IsSliceOf sl vl vu vs) (pl : IsPart vl none) (pu : IsPart vu none) (ps : IsPart vs (some (-1)))
    (h : Q (.ref s.heap.objs.size) { s with heap := s.heap.push { cls := .type "tuple", data := .seq items.toList.reverse.toArray } })
    (hsz : items.size ≤ sizeLine) : wpAny (model prog w) A (getItem (.ref t) (.ref sl)) Q E s := by
  have htake : sizeOk (.seq items.toList.reverse.toArray) := by
    show items.toList.reverse.toArray.size ≤ sizeLine
    rw [List.size_toArray, List.length_reverse, Array.length_toList]
    exact hsz
  obtain ⟨os, hos, hcs, hds⟩ := id hs
  have hTs : s.TypeIs (.ref sl) "slice" := ⟨os, hos, hcs⟩
  unfold getItem
  try with_reducible refine wpAny_holding ?_
  first | refine wpAny_bind (wpAny_pure ?_) | skip
  refine wpAny_bind (wpAny_sequenceKey ht.typeIs (by decide) ?_)
  refine wpAny_bind (wpAny_callSpecial?_slot (name := Str.ofString "__getitem__") ht.typeIs PyProof.Rows.slot_tuple_getitem
    (wpAny_call_entry PyProof.Rows.slot_tuple_getitem ht.typeIs entry_tuple_getitem ?_ (args_tuple_getitem _ _)))
  show wpAny _ _ (Builtin.Tuple.tupleItemsOf (.ref t) >>= _) _ _ s
  refine wpAny_bind (tupleItemsOf_ ht ?_)
  refine wpAny_bind (wpAny_typeOf hTs ?_)
  rw [if_pos (by decide)]
  refine wpAny_bind (sliceApplied_rev hs pl pu ps ?_)
  have hno : ¬ ((((items.size : Int) - 1) == 0 && (-1 : Int) == 1 && items.size == items.size) = true) := by
    intro q
    rw [Bool.and_eq_true, Bool.and_eq_true] at q
    exact absurd (eq_of_beq q.1.2) (by decide)
  show wpAny _ _ (if ((((items.size : Int) - 1)) == 0 && (-1 : Int) == 1 && (items.size) == items.size) = true then _ else _) _ _ s
  rw [if_neg hno, pick_rev]
  first
    | exact wpAny_bind (m := Builtin.Tuple.tupleExact _) (wpAny_newObj_type (wpAny_pure ⟨_, rfl, wpAny_pure h⟩) htake)
    | exact wpAny_bind (m := Builtin.Tuple.tupleExact _) (wpAny_newObj_type (wpAny_bind (wpAny_pure (wpAny_pure ⟨_, rfl, wpAny_pure h⟩))) htake)
    | exact wpAny_bind (wpAny_bind (m := Builtin.Tuple.tupleExact _) (wpAny_newObj_type (wpAny_pure (wpAny_pure ⟨_, rfl, wpAny_pure h⟩)) htake))
    | exact wpAny_bind (wpAny_bind (m := Builtin.Tuple.tupleExact _) (wpAny_newObj_type (wpAny_pure ⟨_, rfl, wpAny_pure h⟩) htake))
end
end RT
end

section
set_option Elab.async false
set_option linter.all false
set_option maxRecDepth 100000
set_option maxHeartbeats 2000000
/-! # Turned rows, enumerate, texts, dicts, several targets -/
namespace ML
open PySem L2
open PySem.Spec PyProof.Rows in
/-- t[::-1] -/
def tRevT (K : PySem.W.Frag) (te : TE) : TE := fun σ H Q => te σ H fun x H1 => ∃ a xs, x = .ref a ∧ SqT K H1 a xs ∧ MK.NewT xs.reverse H1 Q
section
open PySem.Spec PyProof.Rows
variable {X : Cx}
theorem pe_revT {e : Expr} {te : TE} {k : Nat} {p1 p2 p3 pos : Pos} (he : PE X e te) : PE X (.Subscript e (.Slice none none (some (.UnaryOp .USub (.Constant (.int 1) k p1) p2)) p3) pos) (tRevT X.K te) := by
  refine ⟨fun pins s σ H Q I h => ?_⟩
  refine Subscript_ (thn (he.run pins s σ H _ I h) fun v s1 ⟨x, H1, I1, r1, q1⟩ => ?_)
  obtain ⟨a, xs, ex, hx, q⟩ := q1
  subst ex
  cases r1
  have hst : PO X (some (.UnaryOp .USub (.Constant (.int 1) k p1) p2)) (tPart (tUn (rU fun i => .int (-i)) (tC (.int 1)))) := po_some (pe_un un_neg pe_int)
  refine wpAny_Slice (thn (po_none.run pins s1 σ H1 (fun o H2 => o = none ∧ H2 = H1) I1 ⟨rfl, rfl⟩) fun vl s2 ⟨l, H2, I2, pl, el, e2⟩ => ?_)
  subst el e2
  refine thn (po_none.run pins s2 σ H2 (fun o H3 => o = none ∧ H3 = H2) I2 ⟨rfl, rfl⟩) fun vu s3 ⟨u, H3, I3, pu, eu, e3⟩ => ?_
  subst eu e3
  refine thn (hst.run pins s3 σ H3 (fun o H4 => o = some (-1) ∧ H4 = H3) I3 ⟨1, rfl, -1, rfl, rfl, rfl⟩) fun vs s4 ⟨o, H4, I4, ps, eo, e4⟩ => ?_
  subst eo e4
  have I5 : Inv X pins σ H4 { s4 with heap := s4.heap.push { cls := .type "slice", data := .fields #[vl, vu, vs] } } := I4.kept (t' := s4.toks) fun b ob q => Heap.get?_push_of_some _ q
  obtain ⟨its, r, ht, hz⟩ := I5.tuple hx
  have hlen := r.length
  show wpAny (model X.prog X.w) X.A (subscriptTail e (.Slice none none (some (.UnaryOp .USub (.Constant (.int 1) k p1) p2)) p3) (.ref a) (.ref s4.heap.objs.size)) (EP X pins σ Q) X.xe { s4 with heap := s4.heap.push { cls := .type "slice", data := .fields #[vl, vu, vs] } }
  refine tail_any (ops := [.ref a, .ref s4.heap.objs.size]) ht.typeIs (PyProof.Rows.slot_tuple_getitem.lookup) ?_ (by with_unfolding_all rfl)
  refine RT.getItem_tuple_rev ht (Heap.IsSliceOf.new _ vl vu vs) pl pu ps ?_ (by rw [List.size_toArray]; omega)
  exact MK.layT (t' := s4.toks) I5 (by rw [List.length_reverse]; exact hz) r.reverse q
/-- list(reversed(t)), t a tuple -/
def tLstRt (K : PySem.W.Frag) (te : TE) : TE := fun σ H Q => te σ H fun v H1 => ∃ (a : Addr) (xs : List V), v = .ref a ∧ SqT K H1 a xs ∧ ∀ q, H1 q = none → Q (.ref q) (upd H1 q (.lst xs.reverse))
theorem pe_listRt {e : Expr} {te : TE} {p p2 pos pos2 : Pos} (hc : X.calm = true) (hm : X.mg "list" = none) (hm2 : X.mg "reversed" = none) (he : PE X e te) (hg : Gl X "list" := by rfl) (hg2 : Gl X "reversed" := by rfl)
    (hs : starEach [e] X.env = (false, eval e X.env) :: starEach [] X.env := by rfl)
    (hs2 : starEach [.Call (.Name "reversed" p2) [e] [] pos2] X.env = (false, eval (.Call (.Name "reversed" p2) [e] [] pos2) X.env) :: starEach [] X.env := by rfl) :
    PE X (.Call (.Name "list" p) [.Call (.Name "reversed" p2) [e] [] pos2] [] pos) (tLstRt X.K te) := by
  refine ⟨fun pins s σ H Q I h => ?_⟩
  refine Call_ (ld_blt I hg hm boot_list (PyProof.Rows.callWith_type1 (args_cons ?_ hs2) hs2))
  refine Call_ (ld_blt I hg2 hm2 PyProof.Rows.boot_reversed (PyProof.Rows.callWith_type1 (args_cons (thn (he.run pins s σ H _ I h) fun u s1 ⟨v, H1, I1, r1, q1⟩ => args_nil ?_) hs) hs rfl))
  obtain ⟨a, xs, ev, hq, q⟩ := q1
  subst ev
  obtain rfl : u = Value.ref a := r1
  obtain ⟨its, rv, p', hz⟩ := I1.tuple hq
  have hl := rv.length
  have hn := line63
  have hsz : its.toArray.size ≤ sizeLine := by rw [List.size_toArray]; omega
  refine RT.call_reversed_tup p' (fun A E Q k => len_tuple p' (by simp only [List.size_toArray] <;> omega) k) (args_nil ?_)
  have p2 : IsTup (s1.heap.push (RT.rtObj a ((its.toArray.size : Int) - 1))) a its.toArray := RT.IsTup.at' p' fun o e => Heap.get?_push_of_some _ e
  have hne : a ≠ s1.heap.objs.size := by obtain ⟨o, ho, _⟩ := id p'; exact Nat.ne_of_lt (Heap.lt_size ho)
  refine RT.call_list_rt (s := { s1 with heap := s1.heap.push (RT.rtObj a ((its.toArray.size : Int) - 1)), toks := s1.toks + 1 + 1 }) (items := its.toArray) (I.ok.hd hc) ⟨_, Heap.get?_push_size _ rfl, rfl, rfl⟩ p2 hne hsz fun h' tk acc c' hk e' hi => ?_
  have hsl : s1.heap.objs.size ≤ (s1.heap.push (RT.rtObj a ((its.toArray.size : Int) - 1))).objs.size := by simp [Heap.push]
  refine ⟨.ref _, upd H1 _ (.lst xs.reverse), I1.laid (t' := tk) (fun b o z => hk b o (Nat.ne_of_lt (Heap.lt_size z)) (Heap.get?_push_of_some _ z)) hsl (show ObjOk X.prog X.w _ _ _ (.lst xs.reverse) from ⟨?_, acc.toList, c', RT.vals_rev rv hi, ?_⟩), rfl, q _ (I1.hok.fresh hsl)⟩
  · rw [List.length_reverse, hl]; simpa using hsz
  · rw [Array.toArray_toList]; exact e'
end
section
variable {ca : CA} {X : Cx} {pos : Pos} {tg e a b c : Expr} {es : List Expr}
@[simp] def dTup : D → Option (List D)
  | .tuple xs => some xs
  | _ => none
theorem dTup_some {d : D} {xs : List D} (h : dTup d = some xs) : d = .tuple xs := by
  cases d <;> first | cases h | skip
  rfl
def eRevT (m : M D) : M D := bind m fun x => lift ((dTup x).map fun xs => .tuple xs.reverse)
theorem me_revT {m : M D} {k : Nat} {p1 p2 p3 : Pos} (h : ME ca X e m) : ME ca X (.Subscript e (.Slice none none (some (.UnaryOp .USub (.Constant (.int 1) k p1) p2)) p3) pos) (eRevT m) := fun F W tk =>
  PE.imp (pe_revT (h F W tk)) fun σ H Q ⟨ow, env, R, g⟩ => go_bind R g fun x e1 v ow1 H1 g1 R1 p1 q1 => by
    obtain ⟨z, ez, q⟩ := lift_go q1
    obtain ⟨xs, ex, rfl⟩ := Option.map_eq_some_iff.mp ez
    have ed := dTup_some ex
    subst ed
    have p1' : Rp X.K ow1 H1 (.tuple xs) v := p1
    unfold Rp at p1'
    obtain ⟨a, us, rfl, h1, h2⟩ := p1'
    refine ⟨a, us, rfl, h1.sq, fun p o hc hd hp => go_val R1 q (Gr.new hp) ?_⟩
    unfold Rp
    exact ⟨p, _, rfl, .frz upd_same hd (R1.free hp), (h2.reverse).stp (Gr.new hp).stp⟩
def oRevL (m : M D) : M Ob := bind m fun x => lift ((dTup x).map fun xs => .lst xs.reverse)
theorem mo_listRt {m : M D} {p p2 pos2 : Pos} (h : ME ca X e m) (hm : X.mg "list" = none) (hm2 : X.mg "reversed" = none) (hc : X.calm = true := by rfl) (hg : Gl X "list" := by rfl) (hg2 : Gl X "reversed" := by rfl)
    (hs : starEach [e] X.env = (false, eval e X.env) :: starEach [] X.env := by rfl)
    (hs2 : starEach [.Call (.Name "reversed" p2) [e] [] pos2] X.env = (false, eval (.Call (.Name "reversed" p2) [e] [] pos2) X.env) :: starEach [] X.env := by rfl) :
    MO ca X (.Call (.Name "list" p) [.Call (.Name "reversed" p2) [e] [] pos2] [] pos) (oRevL m) := fun F W tk =>
  PE.imp (pe_listRt hc hm hm2 (h F W tk) hg hg2 hs hs2) fun σ H Q ⟨ow, env, R, g⟩ => go_bind R g fun x e1 v ow1 H1 g1 R1 p1 q1 => by
    obtain ⟨z, ez, q⟩ := lift_go q1
    obtain ⟨xs, ex, rfl⟩ := Option.map_eq_some_iff.mp ez
    have ed := dTup_some ex
    subst ed
    have p1' : Rp X.K ow1 H1 (.tuple xs) v := p1
    unfold Rp at p1'
    obtain ⟨a, us, rfl, h1, h2⟩ := p1'
    exact ⟨a, us, rfl, h1.sq, fun p hp => go_new R1 q (fun x h => g1.dom x h) hp h2.reverse⟩
/-! ### enumerate -/
def enumD : Nat → List D → List D
  | _, [] => []
  | i, d :: r => .tuple [.int (i : Nat), d] :: enumD (i + 1) r
theorem enumD_get : ∀ (ds : List D) (k i : Nat), (enumD k ds)[i]? = (ds[i]?).map fun d => .tuple [.int ((k + i : Nat) : Int), d]
  | [], k, i => by unfold enumD; simp
  | d :: r, k, 0 => by unfold enumD; rfl
  | d :: r, k, i + 1 => by
    unfold enumD
    rw [List.getElem?_cons_succ, List.getElem?_cons_succ, enumD_get r (k + 1) i]
    rw [show k + 1 + i = k + (i + 1) from by omega]
theorem enumD_len : ∀ (ds : List D) (k : Nat), (enumD k ds).length = ds.length
  | [], k => rfl
  | d :: r, k => by unfold enumD; rw [List.length_cons, List.length_cons, enumD_len r]
theorem wk_enum {K : PySem.W.Frag} {ow : Addr → Prop} {H : Hp} {a : Addr} {xs : List V} {ds : List D} (h : H a = some (.lst xs)) (n : ¬ ow a) (r : RpA K ow H ds xs) : Wk K (Ite K a) (enumD 0 ds) ow H := by
  refine ⟨fun ow H => H a = some (.lst xs) ∧ ¬ ow a ∧ RpA K ow H ds xs, ⟨h, n, r⟩, fun ow1 H1 ow2 H2 st ⟨h, n, r⟩ => ⟨(st a _ h n nt_lst).1, (st a _ h n nt_lst).2, r.stp st⟩, fun i ow H ⟨h, n, r⟩ tr hi => ?_, fun i ow H ⟨h, n, r⟩ hi => ⟨xs, SqL.of h, ?_⟩⟩
  · rw [enumD_len] at hi
    obtain ⟨x, hx⟩ := some_of_lt (xs := xs) (i := i) (by rw [← r.length]; exact hi)
    refine ⟨⟨xs, x, SqL.of h, hx⟩, fun v H' ⟨T, y, ev, hT, eH, hy⟩ => ?_⟩
    subst ev eH
    have exy : xs[i]? = some y := hy xs (SqL.of h)
    refine ⟨Gr.new hT, fun d hd => ?_⟩
    rw [enumD_get] at hd
    obtain ⟨d0, h0, rfl⟩ := Option.map_eq_some_iff.mp hd
    unfold Rp
    refine ⟨T, _, rfl, .weak upd_same (fun z => by obtain ⟨o, ho⟩ := tr T z; rw [hT] at ho; cases ho) rfl, ?_⟩
    unfold RpA
    refine ⟨_, _, rfl, by rw [Nat.zero_add]; exact rp_int, ?_⟩
    unfold RpA
    exact ⟨_, _, rfl, (r.get h0 exy).stp (Gr.new hT).stp, by unfold RpA; rfl⟩
  · rw [enumD_len] at hi
    rw [← r.length]; exact hi
@[simp] def dLst : D → Option (List D)
  | .list xs => some xs
  | _ => none
theorem dLst_some {d : D} {xs : List D} (h : dLst d = some xs) : d = .list xs := by
  cases d <;> first | cases h | skip
  rfl
def iEn (m : M D) : M (List D) := bind m fun x => lift ((dLst x).map (enumD 0))
theorem mi_enum {m : M D} {p tpos : Pos} {elts : List Expr} {kk : Nat} (h : ME ca X e m) (hm : X.mg "enumerate" = none) (hg : Gl X "enumerate" := by rfl) (hs : starEach [e] X.env = [(false, eval e X.env)] := by rfl) :
    MI ca X (.Tuple elts kk tpos) (.Call (.Name "enumerate" p) [e] [] pos) (iEn m) := fun F W tk =>
  PI.imp (pi_enum hg hm (pa_cons (h F W tk) pa_nil hs) hs) fun σ H R ⟨ow, env, rel, g⟩ => by
    refine ⟨ow, env, rel, ?_⟩
    unfold iEn bind at g
    cases hq : m env with
    | ok x e1 =>
      rw [hq] at g
      rintro v ow1 H1 g1 R1 p1
      dsimp only at g
      unfold lift at g
      cases hd : dLst x with
      | none => simp only [hd, Option.map_none] at g
      | some xs =>
        simp only [hd, Option.map_some] at g
        have ed := dLst_some hd
        subst ed
        have p1' : Rp X.K ow1 H1 (.list xs) v := p1
        unfold Rp at p1'
        obtain ⟨a, us, rfl, h1, n, h2⟩ := p1'
        exact ⟨a, us, rfl, SqL.of h1, g (Ite X.K a) ow1 H1 g1 R1 (wk_enum h1 n h2)⟩
    | ex c e1 => rw [hq] at g; exact g
    | bad => rw [hq] at g; exact g
/-! ### text * int -/
def mulS (x : Str) (n : Int) : Str := Txt.mul x n
theorem op_mulS : OpR X (binaryOp .Mult) (fun x y H Q => ∃ (z : Str) (n : Int), x = .str z ∧ y = .int n ∧ MulOk z n ∧ Q (.str (Txt.mul z n)) H) := by
  intro pins s σ H x y v u Q I rx ry h
  obtain ⟨z, n, rfl, rfl, hok, q⟩ := h
  obtain ⟨t, rfl⟩ := rx
  obtain ⟨t', rfl⟩ := ry
  exact SB.mul hok fun t' k => ⟨.str (Txt.mul z n), H, I.tok _, ⟨_, rfl⟩, q⟩
end
end ML
end

section
set_option Elab.async false
set_option linter.all false
set_option maxRecDepth 100000
set_option maxHeartbeats 2000000
/-! # Texts' methods, dicts, several targets -/
namespace ML
open PySem L2
section
variable {K : PySem.W.Frag} {ca : CA}
def gMulS : Sl → Sl → Option D
  | .d (.str z), .d (.int n) => if 0 ≤ n ∧ n ≤ 10000 ∧ z.length ≤ 100 then some (.str (Txt.mul z n)) else none
  | _, _ => none
theorem mulOk {z : Str} {n : Int} (h0 : 0 ≤ n) (h1 : n ≤ 10000) (h2 : z.length ≤ 100) : MulOk z n := by
  refine ⟨?_, fun _ _ => ?_, fun _ _ => ?_⟩
  · simp; omega
  · have hz : (z.length : Int) ≤ 100 := by omega
    rw [Int.not_lt]
    by_cases hn : n = 0
    · subst hn; simp at *
    · exact Int.le_trans hz (by
        have h3 : (0 : Int) < n := by omega
        rw [Int.le_ediv_iff_mul_le h3]
        omega)
  · unfold Builtin.Str.tooLong
    have : z.length * n.toNat ≤ 100 * 10000 := Nat.mul_le_mul h2 (by omega)
    rw [sizeLine_eq]
    exact decide_eq_false (by omega)
theorem s_mulS : OpS K ca (fun x y H Q => ∃ (z : Str) (n : Int), x = .str z ∧ y = .int n ∧ MulOk z n ∧ Q (.str (Txt.mul z n)) H) gMulS := fun s t z ow H v1 v2 Q e r1 r2 tr k => by
  unfold gMulS at e
  split at e
  · obtain ⟨⟨h0, h1, h2⟩, rfl⟩ := ite_some e
    exact ⟨_, _, sv_str r1, sv_int r2, mulOk h0 h1 h2, k _ H Gr.refl rp_str⟩
  · cases e
end
def bindO {α β : Type} (o : Option α) (f : α → M β) : M β := match o with
  | some a => f a
  | none => fun _ => .bad
theorem bindO_go {α β γ : Type} {K : PySem.W.Frag} {ca : CA} {F : Fr} {W : WX} {P : PP γ β} {ow : Addr → Prop} {env : List Sl} {Hs H : Hp} {σ : St} {Q : β → Hp → Prop} {o : Option α} {f : α → M γ} (g : GoG K ca F W P Hs ow env H σ Q (bindO o f env)) : ∃ z, o = some z ∧ GoG K ca F W P Hs ow env H σ Q (f z env) := by
  cases o with
  | none => exact g.elim
  | some z => exact ⟨z, rfl, g⟩
@[simp] def dStr : D → Option Str
  | .str x => some x
  | _ => none
theorem dStr_some {d : D} {x : Str} (h : dStr d = some x) : d = .str x := by
  cases d <;> first | cases h | skip
  rfl
section
variable {ca : CA} {X : Cx} {pos : Pos} {tg e a b c o : Expr} {es : List Expr}
theorem PE.start {X : Cx} {e : Expr} {te : TE} (h : PE X e te) : PE X e te := h
/-! ### s.index(t) -/
def eIndex (mo m : M D) : M D := bind mo fun x => bindO (dStr x) fun a => bind m fun y => bindO (dStr y) fun b => lift ((Txt.index0 a b).map fun k => .int (k : Nat))
theorem me_index {apos : Pos} {mo m : M D} (ho : ME ca X o mo) (he : ME ca X e m) (hc : X.calm = true := by rfl)
    (hbase : attributeBase o "index" X.env (eval o X.env) = eval o X.env := by rfl)
    (hfew : ((backTo pos (starEach [e] X.env)).all (fun x => !x.1) && (backToKw pos (keywordEach [] X.env)).all (fun x => x.1.isSome)
      && decide (([e] : List Expr).length + ([] : List Keyword).length + (if ([] : List Keyword).isEmpty then 0 else 1) < 30)) = true := by rfl)
    (hline : (apos.endLine == pos.line) = true := by rfl) (hs : starEach [e] X.env = (false, eval e X.env) :: starEach [] X.env := by rfl) (hplain : (backTo pos (starEach [] X.env)).any (·.1) = false := by rfl) :
    ME ca X (.Call (.Attribute o "index" apos) [e] [] pos) (eIndex mo m) := fun F W tk =>
  PE.imp (pe_bmS PySem.F.plainAttrs_str PySem.F.slot_str_index PySem.F.type_str_index (mt_indexX hc tk.t) (ho F W tk) (pa_cons (he F W tk) pa_nil hs) hbase hfew hline hs hplain) fun σ H Q ⟨ow, env, R, g⟩ =>
    go_bind R g fun x e1 v ow1 H1 g1 R1 p1 q1 => by
      obtain ⟨za, ea, q1⟩ := bindO_go q1
      have ed := dStr_some ea
      subst ed
      have p1' : Rp X.K ow1 H1 (.str za) v := p1
      unfold Rp at p1'
      subst p1'
      refine ⟨rfl, go_bind R1 q1 fun y e2 u ow2 H2 g2 R2 p2 q2 => ?_⟩
      obtain ⟨zb, eb, q2⟩ := bindO_go q2
      have ed := dStr_some eb
      subst ed
      have p2' : Rp X.K ow2 H2 (.str zb) u := p2
      unfold Rp at p2'
      subst p2'
      obtain ⟨z, ez, q3⟩ := lift_go q2
      obtain ⟨k, hk, rfl⟩ := Option.map_eq_some_iff.mp ez
      refine ⟨za, zb, rfl, rfl, fun k' hk' => ?_, fun hn => by rw [hk] at hn; cases hn⟩
      rw [hk] at hk'
      cases hk'
      exact q3 _ ow2 H2 Go.refl R2 rp_int
/-! ### s.join(list) -/
def joinOk (a : Str) (ys : List Str) : Bool := decide ((ys.map (·.length)).sum + ys.length * a.length ≤ 16777216)
def eJoin (mo : M D) (m : M AV) : M D := bind mo fun x => bindO (dStr x) fun a => bind m fun v => fun e => lift ((slL (content e v)).bind fun xs => (dStrs xs).bind fun ys => if joinOk a ys = true then some (.str (Txt.join a ys)) else none) e
theorem me_join {apos : Pos} {mo : M D} {m : M AV} (ho : ME ca X o mo) (he : MQ ca X e m) (hs : starEach [e] X.env = [(false, eval e X.env)] := by rfl) (hbase : attributeBase o "join" X.env (eval o X.env) = eval o X.env := by rfl) (hline : (apos.endLine == pos.line) = true := by rfl) :
    ME ca X (.Call (.Attribute o "join" apos) [e] [] pos) (eJoin mo m) := fun F W tk =>
  PE.imp (pe_join (ho F W tk) (he F W tk) hs hbase hline) fun σ H Q ⟨ow, env, R, g⟩ =>
    go_bind R g fun x e1 v ow1 H1 g1 R1 p1 q1 => by
      obtain ⟨za, ea, q1⟩ := bindO_go q1
      have ed := dStr_some ea
      subst ed
      have p1' : Rp X.K ow1 H1 (.str za) v := p1
      unfold Rp at p1'
      subst p1'
      refine ⟨⟨za, rfl⟩, go_bind R1 q1 fun y e2 u ow2 H2 g2 R2 p2 q2 => ?_⟩
      obtain ⟨z, ez, q3⟩ := lift_go q2
      obtain ⟨xs, hx, ez⟩ := Option.bind_eq_some_iff.mp ez
      obtain ⟨ys, hy, ez⟩ := Option.bind_eq_some_iff.mp ez
      obtain ⟨hj, rfl⟩ := ite_some ez
      obtain ⟨p, us, rfl, h1, h2⟩ := slL_ok hx fun n => p2.1.sv R2 n
      refine ⟨za, p, ys, rfl, rfl, .inl (by rw [← dStrs_ok hy h2]; exact SqL.of h1), of_decide_eq_true hj, q3 _ ow2 H2 Go.refl R2 rp_str⟩
/-! ### dicts -/
@[simp] def keyOf : D → Option Key
  | .int i => some (.inl i)
  | .str x => some (.inr x)
  | _ => none
theorem keyOf_ok {K : PySem.W.Frag} {ow : Addr → Prop} {H : Hp} {d : D} {k : Key} {v : V} (h : keyOf d = some k) (r : Rp K ow H d v) : v = kV k := by
  cases d <;> first | cases h | skip
  · unfold Rp at r; exact r
  · unfold Rp at r; exact r
/-- the pairs of a display -/
def PK (K : PySem.W.Frag) : PP (List (Key × D)) (List (V × V)) := fun kvs ps _ ow H _ _ => ∃ us : List (Key × V), ps = us.map (fun kv => (kV kv.1, kv.2)) ∧ RpE K ow H kvs us
def MPs (ca : CA) (X : Cx) (pos : Pos) (keys : List (Option Expr)) (values : List Expr) (m : M (List (Key × D))) : Prop :=
  ∀ F W, Tk X F W → ∃ trs, PPs X pos keys values trs ∧ ∀ σ H Q, tG X.K ca F W (PK X.K) m σ H Q → tPairs trs σ H Q
def kNil : M (List (Key × D)) := ret []
def kCons (mk mv : M D) (r : M (List (Key × D))) : M (List (Key × D)) := bind mk fun x => bindO (keyOf x) fun k => bind mv fun y => bind r fun kvs => ret ((k, y) :: kvs)
theorem mps_nil : MPs ca X pos [] [] kNil := fun F W tk => ⟨[], pps_nil, fun σ H Q ⟨ow, env, R, g⟩ => g [] ow H Go.refl R ⟨[], rfl, .nil⟩⟩
theorem mps_cons {k v : Expr} {ks : List (Option Expr)} {vs : List Expr} {mk mv : M D} {r : M (List (Key × D))} (hk : ME ca X k mk) (hv : ME ca X v mv) (hr : MPs ca X pos ks vs r) : MPs ca X pos (some k :: ks) (v :: vs) (kCons mk mv r) := fun F W tk => by
  obtain ⟨trs, hp, ht⟩ := hr F W tk
  refine ⟨_, pps_cons (hk F W tk) (hv F W tk) hp, fun σ H Q ⟨ow, env, R, g⟩ => ?_⟩
  exact go_bind R g fun x e1 v ow1 H1 g1 R1 p1 q1 => by
    obtain ⟨k, ek, q1⟩ := bindO_go q1
    have ev := keyOf_ok ek p1
    subst ev
    exact go_bind R1 q1 fun y e2 u ow2 H2 g2 R2 p2 q2 => ht _ _ _ (go_bind R2 q2 fun kvs e3 ps ow3 H3 g3 R3 ⟨us, eps, re⟩ q3 => by
      subst eps
      exact q3 _ ow3 H3 Go.refl R3 ⟨(k, u) :: us, rfl, .cons ⟨rfl, Rp.stp g3.stp _ _ p2⟩ re⟩)
def nodupK : List (Key × D) → Bool
  | [] => true
  | p :: r => r.all (fun q => decide (q.1 ≠ p.1)) && nodupK r
theorem RpE.keys {K : PySem.W.Frag} {ow : Addr → Prop} {H : Hp} : ∀ {kvs : List (Key × D)} {us : List (Key × V)}, RpE K ow H kvs us → us.map (·.1) = kvs.map (·.1)
  | _, _, .nil => rfl
  | _, _, .cons h t => by rw [List.map_cons, List.map_cons, h.1, RpE.keys t]
theorem putK_new {κ : Type} [DecidableEq κ] {acc : List (κ × V)} {k : κ} {v : V} (h : ∀ p ∈ acc, p.1 ≠ k) : putK acc k v = acc ++ [(k, v)] := by
  unfold putK
  rw [if_neg]
  intro z
  obtain ⟨p, hp, e⟩ := List.any_eq_true.mp z
  exact h p hp (of_decide_eq_true e)
theorem merge_new : ∀ (us acc : List (Key × V)), (acc.map (·.1) ++ us.map (·.1)).Nodup → mergeK acc us = acc ++ us
  | [], acc, _ => by unfold mergeK; rw [List.foldl_nil, List.append_nil]
  | u :: us, acc, n => by
    show mergeK (putK acc u.1 u.2) us = _
    rw [putK_new fun p hp e => ?_, merge_new us (acc ++ [(u.1, u.2)]) (by
      rw [List.map_append, List.append_assoc]; exact n), List.append_assoc]
    · rfl
    · rw [List.map_cons] at n
      have := List.nodup_append.mp n
      exact this.2.2 _ (List.mem_map_of_mem hp) _ List.mem_cons_self e
theorem nodupK_ok : ∀ {kvs : List (Key × D)}, nodupK kvs = true → (kvs.map (·.1)).Nodup
  | [], _ => List.nodup_nil
  | p :: r, h => by
    unfold nodupK at h
    obtain ⟨h1, h2⟩ := Bool.and_eq_true_iff.mp h
    rw [List.map_cons]
    refine List.nodup_cons.mpr ⟨fun z => ?_, nodupK_ok h2⟩
    obtain ⟨q, hq, e⟩ := List.mem_map.mp z
    exact of_decide_eq_true (List.all_eq_true.mp h1 q hq) e
def oDct (m : M (List (Key × D))) : M Ob := bind m fun kvs => lift (if nodupK kvs = true ∧ kvs.length ≤ 15 then some (.dct kvs) else none)
theorem RpE.length {K : PySem.W.Frag} {ow : Addr → Prop} {H : Hp} {kvs : List (Key × D)} {us : List (Key × V)} (h : RpE K ow H kvs us) : us.length = kvs.length := by
  have := congrArg List.length h.keys
  rwa [List.length_map, List.length_map] at this
theorem mo_disp {keys : List (Option Expr)} {values : List Expr} {m : M (List (Key × D))} (h : MPs ca X pos keys values m) (hall : keys.all (·.isSome) = true := by rfl) (hl : keys.length = values.length := by rfl) (h0 : keys ≠ [] := by intro z; cases z) (h15 : keys.length ≤ 15 := by decide) :
    MO ca X (.Dict keys values pos) (oDct m) := fun F W tk => by
  obtain ⟨trs, hp, ht⟩ := h F W tk
  refine PE.imp (pe_disp hp hall hl h0 h15) fun σ H Q ⟨ow, env, R, g⟩ p hn => ht _ _ _ ?_
  obtain ⟨R1, L⟩ := R.more (o := .dK []) hn
  have g0 := Go.more R (o := .dK []) hn
  refine ⟨more ow p, env, R1, ?_⟩
  unfold oDct bind at g
  cases hm : m env with
  | ex c e1 => rw [hm] at g; exact fun ow' H' st R' => g ow' H' (g0.trans st) R'
  | bad => rw [hm] at g; exact g
  | ok kvs e1 =>
    rw [hm] at g
    rintro ps ow1 H1 g1 R1 ⟨us, eps, re⟩
    dsimp only at g
    by_cases hc : nodupK kvs = true ∧ kvs.length ≤ 15
    rotate_left
    · rw [if_neg hc] at g; exact g.elim
    rw [if_pos hc] at g
    obtain ⟨hn1, hn2⟩ := hc
    have q := g
    obtain ⟨L1, eq⟩ := L.go g1 (fun ⟨_, e⟩ => by rw [upd_same] at e; cases e)
    have hp1 : H1 p = some (.dK []) := by rw [eq]; exact upd_same
    refine ⟨hp1, us, eps, by rw [re.length]; exact hn2, ?_⟩
    have em : mergeK [] us = us := by
      rw [merge_new us [] (by rw [List.map_nil, List.nil_append, re.keys]; exact nodupK_ok hn1), List.nil_append]
    rw [em]
    have sm : Stp ow1 H1 ow1 (upd H1 p (.dK us)) := stp_mut L1.1
    have R3 := R1.mutL (o := .dK us) L1
    refine q (.ref p) ow1 _ ⟨(g0.stp.trans g1.stp).trans sm, fun q w nt n => ?_, fun a ha => ?_⟩ R3 ⟨p, rfl, hn, ⟨us, upd_same, re.stp sm⟩, L1⟩
    · obtain ⟨a1, b1, c1⟩ := g0.lo q w nt n
      obtain ⟨a2, b2, c2⟩ := g1.lo q a1 (by rw [b1]; exact nt) c1
      obtain ⟨u, hu⟩ := R.trk q w
      exact ⟨a2, by rw [upd_ne (fun z => by rw [z, hn] at hu; cases hu)]; exact b2.trans b1, c2⟩
    · by_cases z : a = p
      · rw [z]; exact hn
      · rw [upd_ne z] at ha; exact g0.dom a (g1.dom a ha)
theorem mo_dict0 : MO ca X (.Dict [] [] pos) (ret (.dct [])) := fun F W tk =>
  PE.imp pe_dnewK fun σ H Q ⟨ow, env, R, g⟩ p hn => by
    obtain ⟨R1, L⟩ := R.more (o := .dK []) hn
    exact g (.ref p) _ _ (Go.more R hn) R1 ⟨p, rfl, hn, ⟨[], upd_same, .nil⟩, L⟩
/-- {..}[y] -/
def valD (kvs : List (Key × D)) (k : Key) : Option D := (kvs.find? fun kv => decide (kv.1 = k)).map (·.2)
theorem RpE.val {K : PySem.W.Frag} {ow : Addr → Prop} {H : Hp} : ∀ {kvs : List (Key × D)} {us : List (Key × V)} {k : Key} {d : D}, RpE K ow H kvs us → valD kvs k = some d → ∃ v, valV us k = some v ∧ Rp K ow H d v
  | _, _, k, d, .nil, e => by cases e
  | p :: kvs, q :: us, k, d, .cons h t, e => by
    by_cases hk : p.1 = k
    · have e1 : valD (p :: kvs) k = some p.2 := by simp [valD, List.find?_cons, hk]
      rw [e1] at e
      cases e
      exact ⟨q.2, valV_pos (h.1.symm.trans hk), h.2⟩
    · have e1 : valD (p :: kvs) k = valD kvs k := by simp [valD, List.find?_cons, hk]
      rw [e1] at e
      obtain ⟨v, hv, r⟩ := RpE.val t e
      exact ⟨v, by rw [valV_neg (fun z => hk (h.1.trans z))]; exact hv, r⟩
@[simp] def obK : Ob → Option (List (Key × D))
  | .dct kvs => some kvs
  | _ => none
theorem obK_some {k : Ob} {kvs : List (Key × D)} (h : obK k = some kvs) : k = .dct kvs := by
  cases k <;> first | cases h | skip
  rfl
def eDGet (mo : M Ob) (my : M D) : M D := bind mo fun k => bindO (obK k) fun kvs => bind my fun y => bindO (keyOf y) fun ky => lift (valD kvs ky)
theorem me_dget {mo : M Ob} {my : M D} (hu : X.A.units + 1 < cLine) (ho : MO ca X o mo) (hi : ME ca X e my) (hs : NoSl e) : ME ca X (.Subscript o e pos) (eDGet mo my) := fun F W tk =>
  PE.imp (pe_dget hu (ho F W tk) (hi F W tk) hs) fun σ H Q ⟨ow, env, R, g⟩ => go_bind R g fun k e1 v ow1 H1 g1 R1 ⟨p, ev, n, r, L⟩ q1 => by
    obtain ⟨kvs, ek, q1⟩ := bindO_go q1
    have ed := obK_some ek
    subst ed
    subst ev
    exact go_bind R1 q1 fun y e2 u ow2 H2 g2 R2 p2 q2 => by
      obtain ⟨ky, eky, q2⟩ := bindO_go q2
      obtain ⟨z, ez, q3⟩ := lift_go q2
      obtain ⟨L2, eq⟩ := L.go g2 r.noT
      obtain ⟨us, h1, h2⟩ := r.stp g2.stp eq
      obtain ⟨w, hw, rw_⟩ := h2.val ez
      have eu := keyOf_ok eky p2
      refine ⟨p, w, rfl, ?_, q3 _ ow2 H2 Go.refl R2 rw_⟩
      rw [eu, ← hw]
      exact DGet.k h1
/-! ### several targets -/
def sAsg (g : GF) (m : M D) : MStm := xS m fun x => fun e => match g x e with
  | some e' => .nx e'
  | none => .bad
theorem ms_asg {js : List Nat} {g : GF} {m : M D} (h : ME ca X e m) (hg : MG ca X tg js g) (hs : swapsWithSole [tg] e pos.line X.env = pure false := by rfl) (hw : swappedStores [tg] e X.env = pure none := by rfl)
    (h1 : (assignEach [tg] X.env).map (·.2) = [assign tg X.env] := by rfl) : MS ca X (.Assign [tg] e pos) (sAsg g m) := fun F W tk hp =>
  PS.imp (ps_asg (h F W tk) (hg F) hs hw h1) fun Dn σ H ⟨ow, env, R, gg⟩ => go_stm R gg fun x e1 v ow1 H1 g1 R1 p1 q1 => by
    split at q1
    · rename_i e' he
      exact ⟨ow1, e1, x, e', R1, p1, he, fun σ' _ _ R' _ => q1 σ' ow1 H1 Stp.refl R'⟩
    · exact q1.elim
end
end ML
end

section
set_option Elab.async false
set_option linter.all false
set_option maxRecDepth 100000
set_option maxHeartbeats 4000000
/-! # An own exception class whose __init__ calls the class's above, without fields -/
namespace ML
open PySem L2 PySem.Spec PyProof.Rows
structure InitOf (K : PySem.W.Frag) (B : Addr) (mc : Value) : Prop where
  rd : PySem.W.readsIn K B mc = true
  ga : PySem.W.specialIn K (.ref B) "__getattribute__" = some (some (.builtin "type.__getattribute__"))
  at_ : PySem.W.findCls K (.ref B) mc "__init__" = some (.val (.builtin "ValueError.__init__"))
def tOwI (K : PySem.W.Frag) (ta : TA) : TE := fun σ H Q => ta σ H fun vs H1 => ∃ (a C : Addr), vs = [.ref a] ∧ OexC K C ∧ H1 a = some (exo a C none) ∧ Q .non H1
section
variable {X : Cx} {o e : Expr} {es : List Expr} {to te : TE} {ta : TA} {f : Str} {p p' p1 p2 pos : Pos}
theorem pe_ownI {x : Str} {B : Addr} {mc : Value} {pl : Sem Bool} (hm : X.mg x = some (.ref B)) (IB : InitOf X.K B mc) (ha : PA X [e] ta) (hg : Gl X x := by rfl) (hdb : (x == ("__debug__" : Str)) = false := by decide)
    (hc : eval (.Call (.Attribute (.Name x p1) "__init__" p2) [e] [] pos) X.env = (do
      let ov ← eval (.Name x p1) X.env
      standAt p2.atName
      let (f, first) ← holding [ov] (getMethod ov "__init__" pl)
      callWith pos f first (backTo pos (starEach [e] X.env)) (backToKw pos (keywordEach [] X.env))) := by rfl)
    (he : starEach [e] X.env = (false, eval e X.env) :: starEach [] X.env := by rfl) (hpl : (backTo pos (starEach [] X.env)).any (·.1) = false := by rfl) :
    PE X (.Call (.Attribute (.Name x p1) "__init__" p2) [e] [] pos) (tOwI X.K ta) := by
  refine ⟨fun pins s σ H Q I h => ?_⟩
  refine PySem.W.methodCall_KW (ld_glob I hg hm ?_ hdb) hc
  refine PySem.W.method_cls I.kIn IB.ga (PySem.W.cls_value I.kIn IB.rd IB.at_ (by decide +kernel) ?_)
  show wpAny _ _ (callWith pos (Value.builtin "ValueError.__init__") [] (backTo pos (starEach [e] X.env)) []) _ _ _
  refine PyProof.Rows.callWith_method1 (thn (ha.run pos pins _ σ H _ (I.tok _) h) fun us s1 ⟨vs, H1, I1, r1, a, C, ev, T, ea, q⟩ => ?_) he hpl
  subst ev
  cases r1 with
  | @cons _ u0 _ ur ra rw' =>
    obtain rfl : u0 = Value.ref a := ra
    cases rw'
    exact oinit_ok T I1 ea (Nat.zero_le _) fun s' J => ⟨.non, H1, J, rfl, q⟩
end
/-- what an __init__ of that kind does -/
def spI (K : PySem.W.Frag) : Sp := fun vs H Q E => ∃ (a C : Addr), vs = [.ref a] ∧ OexC K C ∧ H a = some (exo a C none) ∧ Q .non H
section
variable {P : Program} {w : World} {K : PySem.W.Frag} {mg : Str → Option Value} {base : Heap}
theorem fnI {x qual : Str} {st : Stmt} {f : Addr} {fd : FuncData} {N : List Str} {y : Str} {k : Nat} (Fn : Fun K x qual st f fd) (S : FnScope [y] [y] (defScope st))
    (hbody : ∀ (cdv : Value) (A : Around) (outer : List Env) (s : Shared) (H : Hp) (E : XK), PSs (cxOf (L2.CX P w) P w K mg base [y] qual (defScope st) f cdv A outer s H E) (defBody st) (tDrop (tOwI K (tCons (fun σ H Q => ∃ v, σ[0]? = some (some v) ∧ Q v H) tNil)))) :
    FnOk P w K mg base (L2.CX P w) (k + 1) f fd [y] (spI K) := by
  refine Fn.okX S (fun vs H Q E ⟨a, C, e, _⟩ => by rw [e]; rfl) fun cdv A outer s H vs Q E hr ⟨a, C, e, T, ea, q⟩ => ?_
  subst e
  exact ⟨_, hbody cdv A outer s H E, .ref a, rfl, a, C, rfl, T, ea, q⟩
end
section
variable {X : Cx}
theorem mk_endN {pins : List (Addr × Obj)} {σ : L2.St} {H1 : Hp} {hp hp2 h2 : Heap} {g1 g2 : Array GenState} {d1 d2 : Drawn} {t1 t2 : Nat} {os1 os2 : OsState} {a C : Addr} (I1 : Inv X pins σ H1 ⟨hp, g1, d1, t1, os1⟩)
    (ha : hp.objs.size ≤ a) (k : ∀ b o, hp.get? b = some o → hp2.get? b = some o) (un : Un (frs X.stack) [] (upd H1 a (exo a C none)) (upd H1 a (exo a C none)) hp2 h2) (hok : HOk X.prog X.w (upd H1 a (exo a C none)) h2) (ho : os2 = os1) (hb : AllBare g2) :
    ∃ (t0 : Addr) (G : Heap), Inv X pins σ H1 ⟨G, g2, d2, t2, os2⟩ ∧ (∀ b o, G.get? b = some o → h2.get? b = some o) ∧ G.get? a = none ∧
      h2.get? a = some ({ cls := .ref C, dict := none, data := .fields #[.ref t0, .none, .none, .none, .bool false, .none] } : Obj) := by
  obtain ⟨t0, hoe⟩ := exo_at hok upd_same
  have hn : H1 a = none := I1.hok.fresh ha
  obtain ⟨G, g1', g2'⟩ := restrict h2 fun b => decide (b ≠ a)
  have gk : ∀ b, b ≠ a → G.get? b = h2.get? b := fun b hb => g1' b (decide_eq_true hb)
  have ge : G.get? a = none := g2' a (by simp)
  have nha : ∀ {b : Addr} {o : Obj}, hp.get? b = some o → b ≠ a := fun {b o} z => Nat.ne_of_lt (Nat.lt_of_lt_of_le (Heap.lt_size z) ha)
  have up : ∀ {b : Addr}, b ≠ a → H1 b = none → upd H1 a (exo a C none) b = none := fun {b} hb n => by rw [upd_ne hb]; exact n
  have U : Un (frs X.stack) [] H1 H1 hp G := {
    keep := fun b o z n hf hx => by
      rw [gk b (nha z)]
      exact un.keep b o (k b o z) (up (nha z) n) hf hx
    slot := fun b o z n hf hx => by
      rw [gk b (nha z)]
      exact un.slot b o (k b o z) (up (nha z) n) hf hx
    free := fun b o z n hx => n
    there := fun b o z hx => by
      rw [gk b (nha z)]
      exact un.there b o (k b o z) hx
    tups := fun b xs z => z
    frzs := fun b o v z => z
    tbls := fun b ps z => ⟨#[], by rw [z]; simp⟩ }
  have hok3 : HOk X.prog X.w H1 G := fun b o z => by
    have hba : b ≠ a := fun e => by rw [e, hn] at z; cases z
    have z2 : upd H1 a (exo a C none) b = some o := by rw [upd_ne hba]; exact z
    have noa : ∀ {c : Addr}, upd H1 a (exo a C none) c = some (.own b) → c ≠ a := fun {c} hc => at_ne upd_same hc exo_own
    exact (hok b o z2).stay (fun c v hc y => by
        have hca : c ≠ a := by
          rcases hc with hc | hc
          · rw [hc]; exact hba
          · exact noa hc
        rw [gk c hca]
        exact y)
      (fun c hc => by have := noa hc; rw [upd_ne this] at hc; exact hc) (fun c xs hc => by have := at_ne upd_same hc exo_tup; rw [upd_ne this] at hc; exact hc)
  have J : Inv X pins σ H1 ⟨G, g2, d2, t2, os2⟩ := I1.call' (ch := []) ho U hok3 hb (fun b z => absurd z (by simp))
  refine ⟨t0, G, J, fun b o z => ?_, ge, hoe⟩
  by_cases hba : b = a
  · rw [hba, ge] at z
    cases z
  · exact (gk b hba).symm.trans z
theorem pmk_oex0 {x : Str} {p pos : Pos} {C fI : Addr} {k : Nat} {fd : FuncData} {ps : List Str} (T : OexC X.K C) (iC : PySem.W.findIn X.K (.ref C) "__init__" = some (some (.ref fI))) (tI : PySem.W.typeIn X.K (.ref fI) = some (.type "function"))
    (F1 : FnOk X.prog X.w X.K X.mg X.base (L2.CX X.prog X.w) k fI fd ps (spI X.K)) (hr : Room (k + 1) X.A) (hb : Binds X.K fd ps []) (hm : X.mg x = some (.ref C)) (hg : Gl X x := by rfl)
    (hdb : (x == ("__debug__" : Str)) = false := by decide) :
    PMk X (.Call (.Name x p) [] [] pos) (fun _ H Q => Q (.ref C) none H) := by
  intro pins s σ H Q I h
  obtain ⟨nm, q, N, bs, bm, sn, sub, ab, col, dd, k0, k1, k2, k3, k5, hC, hbm⟩ := T.cls
  refine wpAny_Call_Name_kw (ld_glob I hg hm ?_ hdb)
  refine PySem.W.callWith_K0 I.kIn T.kC ?_
  show wpAny _ _ (call (.ref C) []) _ _ _
  have I1 := I
  obtain ⟨hp, g, dr, tk, os⟩ := s
  have hsz : hp.objs.size ≤ hp.objs.size + 1 := Nat.le_succ _
  have hn : H (hp.objs.size + 1) = none := I1.hok.fresh hsz
  have kk : ∀ b o, hp.get? b = some o → ((hp.push (PySem.W.kdv_tup [])).push (PySem.HandSPX.excO C hp.objs.size)).get? b = some o := fun b o e => Heap.get?_push_of_some _ (Heap.get?_push_of_some _ e)
  have hget : ((hp.push (PySem.W.kdv_tup [])).push (PySem.HandSPX.excO C hp.objs.size)).get? (hp.objs.size + 1) = some (PySem.HandSPX.excO C hp.objs.size) := by heap_get
  have I2 : Inv X pins σ (upd H (hp.objs.size + 1) (exo (hp.objs.size + 1) C none)) ⟨(hp.push (PySem.W.kdv_tup [])).push (PySem.HandSPX.excO C hp.objs.size), g, dr, tk, os⟩ :=
    I1.laid (t' := tk) (a := hp.objs.size + 1) (o := exo (hp.objs.size + 1) C none) (h' := (hp.push (PySem.W.kdv_tup [])).push (PySem.HandSPX.excO C hp.objs.size)) kk hsz (exo_ok hget)
  have hq : spI X.K [V.ref (hp.objs.size + 1)] (upd H (hp.objs.size + 1) (exo (hp.objs.size + 1) C none)) (fun v H2 => v = .non ∧ H2 = upd H (hp.objs.size + 1) (exo (hp.objs.size + 1) C none)) (fun _ _ _ => False) :=
    ⟨_, C, rfl, T, upd_same, rfl, rfl⟩
  have r2 : Vals [V.ref (hp.objs.size + 1)] [Value.ref (hp.objs.size + 1)] := .cons rfl .nil
  have hl : ([Value.ref (hp.objs.size + 1)] ++ ([] : List Value)).length = ps.length := by
    have e := r2.length
    rw [F1.len _ _ _ _ hq] at e
    exact e.symm
  have hx : Passes (L2.CX X.prog X.w) X (fun _ _ _ => False) := passL
  refine wpAny_call (PySem.HandSPX.call_own (rest := []) F.excBase_ValueError (fun Y => PySem.HandSPX.refsVE_contains Y bm hbm) (I1.kIn _ _ hC) (PySem.W.looks_findIn I1.kIn iC) (fun self => PySem.W.bind_fn I1.kIn self tI) (Nat.zero_le _)
    (codeAny_mono (F1.run _ X.stack _ _ ⟨[Value.ref (hp.objs.size + 1)], []⟩ [Value.ref (hp.objs.size + 1)] _ _ (fun _ _ _ => False) (hr.make C [] []) (I2.env0.make C [] []) (hb _ [Value.ref (hp.objs.size + 1)] I2.kIn hl) r2 hq) fun r s' hq' => ?_))
  cases r with
  | error er => exact hx pins σ _ _ er s' I2 hq'
  | ok fl =>
    cases fl with
    | ret u =>
      obtain ⟨v, H2, os2, bare2, un2, hok2, rv, ev, eH⟩ := hq'
      subst ev eH
      obtain ⟨h2, g2, d2, t2, os'⟩ := s'
      obtain ⟨t0, G, J, kG, ge, hoe⟩ := mk_endN (d2 := d2) (t2 := t2) I1 hsz kk un2 hok2 os2 bare2
      exact ⟨rv, _, _, _, ⟨G, g2, d2, t2, os'⟩, H, .ref C, none, rfl, J, kG, ge, hoe, ⟨rfl, rfl⟩, rfl, rfl, hn, rfl, bare2, raises_own T.exC T.tyC, h⟩
    | next => exact False.elim hq'
    | brk => exact False.elim hq'
    | cont => exact False.elim hq'
end
end ML
end

section
set_option Elab.async false
set_option linter.all false
set_option maxRecDepth 100000
set_option maxHeartbeats 2000000
/-! # Defs of a program's top, by facts -/
namespace ML
open PySem L2
open PyProof.Rows (envOfC)
def eRv (m : M RV) : M D := bind m fun r => lift (rvD r)
def oRv (m : M RV) : M Ob := bind m fun r => lift (rvO r)
section
variable {ca : CA} {X : Cx} {pos : Pos}
theorem me_gi {x : Str} {i : Int} (h : ∃ t, X.mg x = some (.int i t)) (hg : Gl X x := by rfl) (hd : (x == ("__debug__" : Str)) = false := by decide) : ME ca X (.Name x pos) (eC (.int i)) := by
  obtain ⟨t, h⟩ := h
  exact me_gl (v := .int i) h ⟨t, rfl⟩ (fun ow H => rp_int) hg hd
theorem me_gs {x : Str} {z : Str} (h : ∃ t, X.mg x = some (.str z t)) (hg : Gl X x := by rfl) (hd : (x == ("__debug__" : Str)) = false := by decide) : ME ca X (.Name x pos) (eC (.str z)) := by
  obtain ⟨t, h⟩ := h
  exact me_gl (v := .str z) h ⟨t, rfl⟩ (fun ow H => rp_str) hg hd
/-- the module's name x is a tuple of data -/
def TupG (K : PySem.W.Frag) (mg : Str → Option Value) (x : Str) (ds : List D) : Prop := ∃ (a : Addr), mg x = some (.ref a) ∧ ∀ ow H, Rp K ow H (.tuple ds) (.ref a)
theorem me_gt {x : Str} {ds : List D} (h : TupG X.K X.mg x ds) (hg : Gl X x := by rfl) (hd : (x == ("__debug__" : Str)) = false := by decide) : ME ca X (.Name x pos) (eC (.tuple ds)) := by
  obtain ⟨a, h, r⟩ := h
  exact me_gl (v := .ref a) h rfl r hg hd
end
theorem len1 {m : M (List AV)} {n : Nat} (h : Len m n) : ∀ env as e', m env = .ok as e' → as.length + 1 = n + 1 := fun env as e' q => by rw [h env as e' q]
section
variable {P : Program} {w : World} {K : PySem.W.Frag} {mg : Str → Option Value} {base : Heap} {ca : CA}
theorem fnMD {x qual : Str} {params : Arguments} {body : List Stmt} {scope : Scope} {f : Addr} {fd : FuncData} {N ps : List Str} {k : Nat} {m : MStm} (Fn : FunD K x qual params body scope [] [] f fd) (S : FnScope N ps scope) (hl : ps.length ≤ N.length)
    (hbody : ∀ (cdv : Value) (A : Around) (outer : List Env) (s : Shared) (H : Hp) (E : XK), Room k (A.deeper (envOfC qual scope s.heap.objs.size f cdv)) → MSs ca (cxOf (L2.CX P w) P w K mg base N qual scope f cdv A outer s H E) body m) :
    FnOk P w K mg base (L2.CX P w) (k + 1) f fd ps (spM K ca ps.length (runBody ps.length N.length m)) := by
  refine Fn.ok S (fun vs H Q E ⟨_, _, h, _⟩ => h) fun cdv A outer s H vs Q E hr ⟨ow, args, hv, AO, tr, g⟩ => ?_
  have hp : PassesOwn (model P w) (cxOf (L2.CX P w) P w K mg base N qual scope f cdv A outer s H E).A (cxOf (L2.CX P w) P w K mg base N qual scope f cdv A outer s H E).env (cxOf (L2.CX P w) P w K mg base N qual scope f cdv A outer s H E).xe := PassesOwn.leaving
  refine ⟨_, hbody cdv A outer s H E hr ⟨H, ow, IoA ca args vs, vs, 0⟩ (fun cls d _ H => E cls d H) ⟨takes_of rfl rfl rfl rfl, fun a h => by have z := hr.hd; rw [show (A.deeper (envOfC qual scope s.heap.objs.size f cdv)).handled = some (.ref a) from h] at z; cases z⟩ hp, ?_⟩
  have ha : args.length = ps.length := AO.len.trans hv
  refine ⟨ow, _, AO.rel tr (by omega), ?_⟩
  show GoS K ca _ _ ow H _ _
  unfold runBody at g
  rw [if_pos ha] at g
  rw [← hv] at g
  rw [hv] at g ⊢
  cases hm : m (args ++ List.replicate (N.length - ps.length) .un) with
  | nx e =>
    rw [hm] at g
    dsimp only at g
    by_cases io : ioOk args e = true
    · rw [if_pos io] at g
      exact fun σ' ow' H' s' R' => g .non H' R'.kept (outs_of R' ha io R'.sub) (by unfold Rp; rfl)
    · rw [if_neg io] at g; exact g.elim
  | rt r e =>
    rw [hm] at g
    dsimp only at g
    by_cases io : ioOk args e = true
    · rw [if_pos io] at g
      cases r with
      | d x => exact fun v σ' ow' H' s' R' rp => g v H' R'.kept (outs_of R' ha io R'.sub) (rp.stp (anti R'.sub))
      | o k =>
        intro p σ' ow' H' s' R' ro L
        have sub : ∀ a, more ow p a → ow' a := fun a z => by
          rcases z with z | z
          · exact R'.sub a z
          · rw [z]; exact L.1
        exact g p H' R'.kept L.2.1 ro.there (outs_of R' ha io sub) (ro.stp (anti sub) rfl)
    · rw [if_neg io] at g; exact g.elim
  | ex c e =>
    rw [hm] at g
    dsimp only at g
    by_cases io : ioOk args e = true
    · rw [if_pos io] at g
      exact fun σ' ow' H' s' R' => g H' R'.kept (outs_of R' ha io R'.sub)
    · rw [if_neg io] at g; exact g.elim
  | bk e => rw [hm] at g; exact g.elim
  | ct e => rw [hm] at g; exact g.elim
  | bad => rw [hm] at g; exact g.elim
/-- a function of the top -/
theorem calD {x qual : Str} {params : Arguments} {body : List Stmt} {scope : Scope} {f : Addr} {fd : FuncData} {N ps : List Str} {k : Nat} {m : MStm} (Fn : FunD K x qual params body scope [] [] f fd) (hm : mg x = some (.ref f)) (S : FnScope N ps scope)
    (hb : ∀ (kV doc pm : Value) (an : Option Addr) (cdv ct : Value) (us : List Value), us.length = ps.length → bindArgs (PySem.W.fnOf x qual params body scope .none kV doc pm an cdv ct) ⟨us, []⟩ = pure (ps.zip us))
    (hbody : ∀ (cdv : Value) (A : Around) (outer : List Env) (s : Shared) (H : Hp) (E : XK), Room k (A.deeper (envOfC qual scope s.heap.objs.size f cdv)) → MSs ca (cxOf (L2.CX P w) P w K mg base N qual scope f cdv A outer s H E) body m)
    (hl : ps.length ≤ N.length := by decide) : Cal P w K mg base ca (k + 1) x ps.length (runBody ps.length N.length m) :=
  ⟨f, fd, ps, hm, Fn.kp, Fn.bindsN hb, fnMD Fn S hl hbody⟩
/-- a method -/
theorem mcalD {c x qual : Str} {params : Arguments} {body : List Stmt} {scope : Scope} {f : Addr} {fd : FuncData} {N ps : List Str} {k : Nat} {m : MStm} (Fn : FunD K x qual params body scope [] [] f fd) (hc : Cls K (ca c)) (hm : Meth K (ca c) x f) (S : FnScope N ps scope)
    (hb : ∀ (kV doc pm : Value) (an : Option Addr) (cdv ct : Value) (us : List Value), us.length = ps.length → bindArgs (PySem.W.fnOf x qual params body scope .none kV doc pm an cdv ct) ⟨us, []⟩ = pure (ps.zip us))
    (hbody : ∀ (cdv : Value) (A : Around) (outer : List Env) (s : Shared) (H : Hp) (E : XK), Room k (A.deeper (envOfC qual scope s.heap.objs.size f cdv)) → MSs ca (cxOf (L2.CX P w) P w K mg base N qual scope f cdv A outer s H E) body m)
    (hl : ps.length ≤ N.length := by decide) : MCal P w K mg base ca (k + 1) c x ps.length (runBody ps.length N.length m) :=
  ⟨hc, f, fd, ps, hm, Fn.bindsN hb, fnMD Fn S hl hbody⟩
theorem MCal.mono {j k : Nat} {c m : Str} {n : Nat} {mf : List Sl → CR} (h : MCal P w K mg base ca j c m n mf) (z : j ≤ k) : MCal P w K mg base ca k c m n mf := by
  obtain ⟨f, fd, ps, a, b, d⟩ := h.ex
  exact ⟨h.cls, f, fd, ps, a, b, d.mono z⟩
/-- making -/
theorem makeD {c qual : Str} {params : Arguments} {body : List Stmt} {scope : Scope} {f : Addr} {fd : FuncData} {N ps : List Str} {k : Nat} {m : MStm} (Fn : FunD K "__init__" qual params body scope [] [] f fd) (hc : mg c = some (.ref (ca c))) (hm : Mk K (ca c) f) (S : FnScope N ps scope)
    (hb : ∀ (kV doc pm : Value) (an : Option Addr) (cdv ct : Value) (us : List Value), us.length = ps.length → bindArgs (PySem.W.fnOf "__init__" qual params body scope .none kV doc pm an cdv ct) ⟨us, []⟩ = pure (ps.zip us))
    (hbody : ∀ (cdv : Value) (A : Around) (outer : List Env) (s : Shared) (H : Hp) (E : XK), Room k (A.deeper (envOfC qual scope s.heap.objs.size f cdv)) → MSs ca (cxOf (L2.CX P w) P w K mg base N qual scope f cdv A outer s H E) body m)
    (hl : ps.length ≤ N.length := by decide) : Make P w K mg base ca (k + 1) c ps.length (runBody ps.length N.length m) :=
  ⟨hc, f, fd, ps, hm, Fn.bindsN hb, fnMD Fn S hl hbody⟩
theorem Make.mono {j k : Nat} {c : Str} {n : Nat} {mf : List Sl → CR} (h : Make P w K mg base ca j c n mf) (z : j ≤ k) : Make P w K mg base ca k c n mf := by
  obtain ⟨f, fd, ps, a, b, d⟩ := h.ex
  exact ⟨h.at_, f, fd, ps, a, b, d.mono z⟩
/-- an own error that can be raised -/
structure Rz (P : Program) (w : World) (K : PySem.W.Frag) (mg : Str → Option Value) (base : Heap) (ca : CA) (c : Str) : Prop where
  at_ : mg c = some (.ref (ca c))
  T : OexC K (ca c)
  ex : ∃ (fI : Addr) (fd : FuncData) (ps : List Str), PySem.W.findIn K (.ref (ca c)) "__init__" = some (some (.ref fI)) ∧ PySem.W.typeIn K (.ref fI) = some (.type "function") ∧ FnOk P w K mg base (L2.CX P w) 1 fI fd ps (spI K) ∧ Binds K fd ps []
theorem pmk_r {X : Cx} {p pos : Pos} {c : Str} (r : Rz X.prog X.w X.K X.mg X.base ca c) (hr : Room 2 X.A) (hg : Gl X c := by rfl) (hdb : (c == ("__debug__" : Str)) = false := by decide) : PMk X (.Call (.Name c p) [] [] pos) (fun _ H Q => Q (.ref (ca c)) none H) := by
  obtain ⟨fI, fd, ps, h1, h2, h3, h4⟩ := r.ex
  exact pmk_oex0 r.T h1 h2 h3 hr h4 r.at_ hg hdb
theorem fnID {x qual : Str} {params : Arguments} {body : List Stmt} {scope : Scope} {f : Addr} {fd : FuncData} {y : Str} {k : Nat} (Fn : FunD K x qual params body scope [] [] f fd) (S : FnScope [y] [y] scope)
    (hbody : ∀ (cdv : Value) (A : Around) (outer : List Env) (s : Shared) (H : Hp) (E : XK), PSs (cxOf (L2.CX P w) P w K mg base [y] qual scope f cdv A outer s H E) body (tDrop (tOwI K (tCons (fun σ H Q => ∃ v, σ[0]? = some (some v) ∧ Q v H) tNil)))) :
    FnOk P w K mg base (L2.CX P w) (k + 1) f fd [y] (spI K) := by
  refine Fn.ok S (fun vs H Q E ⟨a, C, e, _⟩ => by rw [e]; rfl) fun cdv A outer s H vs Q E hr ⟨a, C, e, T, ea, q⟩ => ?_
  subst e
  exact ⟨_, hbody cdv A outer s H E, .ref a, rfl, a, C, rfl, T, ea, q⟩
end
/-! ### facts of the written part -/
open He
def oexB (K : PySem.W.Frag) (C : Addr) : Bool := match K.lookup C with
  | some ⟨.type "type", dd, .cls cd, sl⟩ => (match cd.mro, sl.toList with
    | .ref C' :: bm, [k0, k1, k2, k3, some (.builtin n), k5] => C' == C && n == "ValueError.__new__" && !cd.hasDel && cd.hasDict && PySem.HandSPX.refsVE bm
    | _, _ => false) && (eqO (PySem.W.findIn K (.ref C) "__setattr__") (some (some (.builtin "object.__setattr__"))) && decide (PySem.W.subIn K (.ref C) (.type "BaseException") = some true) && decide (PySem.W.typeIn K (.ref C) = some (.type "type")) && PySem.W.keepIn K (.ref C))
  | _ => false
theorem oexB_ok {K : PySem.W.Frag} {C : Addr} (h : oexB K C = true) : OexC K C := by
  unfold oexB at h
  split at h
  · rename_i dd cd sl ho
    obtain ⟨h1, h2⟩ := Bool.and_eq_true_iff.mp h
    obtain ⟨h2, hk⟩ := Bool.and_eq_true_iff.mp h2
    obtain ⟨h2, ht⟩ := Bool.and_eq_true_iff.mp h2
    obtain ⟨h2, hb⟩ := Bool.and_eq_true_iff.mp h2
    split at h1
    · rename_i C' bm k0 k1 k2 k3 n k5 hm hs
      simp only [Bool.and_eq_true, beq_iff_eq, Bool.not_eq_true'] at h1
      obtain ⟨⟨⟨⟨rfl, rfl⟩, hdel⟩, hdict⟩, hve⟩ := h1
      refine ⟨?_, eqO_ok h2, of_decide_eq_true hb, of_decide_eq_true ht, hk⟩
      obtain ⟨nm, bs, mro, ns, qn, hd, sn, sub, ab, col, del⟩ := cd
      dsimp only at hm hdel hdict
      subst hm hdel hdict
      have hsl : sl = #[k0, k1, k2, k3, some (.builtin "ValueError.__new__"), k5] := by
        obtain ⟨l⟩ := sl
        simp only at hs
        rw [hs]
      subst hsl
      exact ⟨nm, qn, ns, bs, bm, sn, sub, ab, col, dd, k0, k1, k2, k3, k5, ho, hve⟩
    · cases h1
  · cases h
def initB (K : PySem.W.Frag) (B : Addr) : Bool := PySem.W.readsIn K B (.type "type") && eqO (PySem.W.specialIn K (.ref B) "__getattribute__") (some (some (.builtin "type.__getattribute__"))) && (match PySem.W.findCls K (.ref B) (.type "type") "__init__" with
  | some (.val v) => decide (v = .builtin "ValueError.__init__")
  | _ => false)
theorem initB_ok {K : PySem.W.Frag} {B : Addr} (h : initB K B = true) : InitOf K B (.type "type") := by
  unfold initB at h
  obtain ⟨h, h3⟩ := Bool.and_eq_true_iff.mp h
  obtain ⟨h1, h2⟩ := Bool.and_eq_true_iff.mp h
  refine ⟨h1, eqO_ok h2, ?_⟩
  split at h3
  · rename_i v hv
    rw [hv, of_decide_eq_true h3]
  · cases h3
def excCB (K : PySem.W.Frag) (C : Addr) : Bool := eqO (PySem.W.findIn K (.ref C) "__getattribute__") (some (some (.builtin "BaseException.__getattribute__"))) && (eqO (PySem.W.findIn K (.ref C) "__getattr__") (some none) && (decide (PySem.W.subIn K (.ref C) (.type "BaseException") = some true) && (PySem.W.hasDictIn K C &&
  (eqO (PySem.W.findIn K (.ref C) "__class__") (some (some (.builtin "object.__class__"))) && (eqO (PySem.W.specialIn K (.builtin "object.__class__") "__get__") (some (some (.builtin "getset_descriptor.__get__"))) && (decide (PySem.W.takesIn K (.builtin "object.__class__") = some true) && decide (PySem.W.mroIn K C (.type "object") = some true)))))))
theorem excCB_ok {K : PySem.W.Frag} {C : Addr} (h : excCB K C = true) : ExcC K C := by
  unfold excCB at h
  obtain ⟨h1, h⟩ := Bool.and_eq_true_iff.mp h
  obtain ⟨h2, h⟩ := Bool.and_eq_true_iff.mp h
  obtain ⟨h3, h⟩ := Bool.and_eq_true_iff.mp h
  obtain ⟨h4, h⟩ := Bool.and_eq_true_iff.mp h
  obtain ⟨h5, h⟩ := Bool.and_eq_true_iff.mp h
  obtain ⟨h6, h⟩ := Bool.and_eq_true_iff.mp h
  obtain ⟨h7, h8⟩ := Bool.and_eq_true_iff.mp h
  exact ⟨eqO_ok h1, eqO_ok h2, of_decide_eq_true h3, h4, eqO_ok h5, eqO_ok h6, of_decide_eq_true h7, of_decide_eq_true h8⟩
/-- a method of an error's class -/
def metB (K : PySem.W.Frag) (C : Addr) (m : Str) : Bool := eqO (PySem.W.findIn K (.ref C) m) (some (some (.ref (ma K C m)))) && decide (PySem.W.typeIn K (.ref (ma K C m)) = some (.type "function"))
/-- a tuple of scalars -/
def dV' : D → Option V := dV
theorem tup_data {K : PySem.W.Frag} {a : Addr} {ds : List D} {vs : List V} (h : SqT K (fun _ => none) a vs) (e : dVs ds = some vs) : ∀ ow H, Rp K ow H (.tuple ds) (.ref a) := fun ow H => by
  unfold Rp
  have sg : sigD ds = false := by
    cases ds with
    | nil => rfl
    | cons d ds =>
      unfold dVs at e
      obtain ⟨v, hv, _⟩ := Option.bind_eq_some_iff.mp e
      have : sigP d = false := by cases d <;> first | rfl | cases hv
      show (true && (sigP d && ds.all sigP)) = false
      rw [this]; rfl
  refine ⟨a, vs, rfl, ⟨?_, fun z => by rw [sg] at z; cases z⟩, ?_⟩
  · rcases h with h | h
    · rcases h with h | ⟨o, h⟩ <;> cases h
    · exact .inr (.inr h)
  · have key : ∀ (ds : List D) (vs : List V), dVs ds = some vs → RpA K ow H ds vs := by
      intro ds
      induction ds with
      | nil => intro vs e; cases e; unfold RpA; rfl
      | cons d ds ih =>
        intro vs e
        unfold dVs at e
        obtain ⟨v, hv, e⟩ := Option.bind_eq_some_iff.mp e
        obtain ⟨us, hus, rfl⟩ := Option.map_eq_some_iff.mp e
        unfold RpA
        refine ⟨v, us, rfl, ?_, ih us hus⟩
        cases d <;> first | cases hv | skip
        all_goals (unfold Rp; rfl)
    exact key ds vs e
/-! ### the hook: what mainGlobals and more roots reach -/
abbrev AlM : Type := AlD × Bool
def obsM (rt : List Addr) (fa : List Fa) (fn : List DefD) (ex : PySem.W.Frag → Bool) (n : Nat) (g : Addr → Option Obj) : AlM := (obsD fa fn (frG g (asD g n ++ rt)), ex (frG g (asD g n ++ rt)))
def valM (fn : List DefD) : AlM := (He.valD fn, true)
structure SaysM (fa : List Fa) (fn : List DefD) (ex : PySem.W.Frag → Bool) (K : PySem.W.Frag) : Prop where
  d : SaysD fa fn K
  more : ex K = true
def hookM (rt : List Addr) (n : Nat) (fa : List Fa) (fn : List DefD) (ex : PySem.W.Frag → Bool) : PySem.W.Hook where
  α := AlM
  obs := fun s => obsM rt fa fn ex n s.heap.get?
  val := fun _ => valM fn
  says := fun _ h => ∃ K : PySem.W.Frag, K.In h ∧ SaysM fa fn ex K
  of := fun _ _ e => ⟨_, frG_in, congrArg (fun z : AlM => z.1) e, congrArg (fun z : AlM => z.2) e⟩
  keeps := fun _ _ _ ⟨K, hK, c⟩ k => ⟨K, PySem.W.Frag.In.keeps hK k, c⟩
theorem obsM_eq {rt : List Addr} {n : Nat} {fa : List Fa} {fn : List DefD} {ex : PySem.W.Frag → Bool} {g : Addr → Option Obj} {s : Shared} (h : ∀ a, g a = s.heap.get? a) : obsM rt fa fn ex n g = (hookM rt n fa fn ex).obs s := by
  have e : g = s.heap.get? := funext h
  rw [e] <;> rfl
end ML
end

section
set_option Elab.async false
set_option linter.all false
set_option maxRecDepth 100000
set_option maxHeartbeats 2000000
/-! # A lambda without parameters handed to a def that calls it once, within a try -/
namespace ML
open PySem L2 LamX
open PyProof.Rows (envOfC)
/-- how a lambda's making may change the heap -/
def LamStep (H : Hp) (P : Addr) (q : Str) (H1 : Hp) : Prop := H1 = H ∨ ∃ (ps more : Array Value) (c' : Addr), H P = some (.tbl ps) ∧ H c' = none ∧ TriplesOk (ps ++ more).toList ∧
  (∀ (pos : Pos) (cv : Value), codeAmong pos (ps ++ more).toList = some cv → codeAmong pos ps.toList = some cv ∨ cv = .ref c') ∧ H1 = upd (upd H P (.tbl (ps ++ more))) c' (CodeO c' q)
section
variable {X : Cx} {pins : List (Addr × Obj)} {σ : L2.St} {H : Hp} {s : Shared}
theorem lamMake {c P : Addr} {ps : Array Value} {params : Arguments} {body : Expr} {scope : Scope} {pos : Pos} {E : Value → Shared → Prop} {Q : Value → Shared → Prop} (I : Inv X pins σ H s) (TB : TabB X.base X.mg c P) (hcode : X.env.code = .ref c)
    (hP : H P = some (.tbl ps)) (ht : TriplesOk ps.toList) (ha : ∀ (pos : Pos) (cv : Value), codeAmong pos ps.toList = some cv → ∃ c, cv = .ref c ∧ H c = some (CodeO c (X.env.qual ++ "<lambda>")))
    (hdef : defaultsOf params X.env = ([], [])) (hfree : ∀ y ∈ scope.names, y.2 = .free → ∃ c, X.env.cells.lookup y.1 = some c)
    (go : ∀ (f c' : Addr) (pm ctv : Value) (H1 : Hp) (s' : Shared), Inv X pins σ H1 s' → LamStep H P (X.env.qual ++ "<lambda>") H1 →
      s'.heap.get? f = some (PySem.W.kla_obj "<lambda>" (X.env.qual ++ "<lambda>") params body scope (cloFrom X.env.cells scope.names []) pm c' ctv) → H1 f = none → f ∉ frs X.stack → H1 c' = some (CodeO c' (X.env.qual ++ "<lambda>")) → Q (.ref f) s') :
    wpAny (model X.prog X.w) X.A (eval (.Lambda params body scope pos) X.env) Q E s := by
  have hb := TB.bm.keeps I.bk
  have hPh : s.heap.get? P = some { cls := .none, data := .fields ps } := I.hok P _ hP
  have away : ∀ f, s.heap.objs.size ≤ f → f ∉ frs X.stack := fun f hf z => (List.mem_cons.mp (I.stkSub _ z)).elim (fun e => Nat.lt_irrefl _ (Nat.lt_of_lt_of_le (e ▸ I.lt) hf)) (I.nofs hf)
  refine PySem.W.kla_eval hdef ?_
  rcases hc : codeAmong pos ps.toList with _ | cv
  · refine PySem.W.kla_makeFunction (closure_ok hfree) I.ok.glob (I.mod.glob.keeps I.bk) hcode (TB.code.keeps I.bk) hPh ht hc TB.gP hb fun c' ctv h' tk hx hge hlt ⟨c2, oc, vs, t, e2, hoc, hd, hv⟩ htb => ?_
    obtain rfl : c' = c2 := by cases e2; rfl
    have fresh : H c' = none := I.hok.fresh hge
    have big := Nat.le_trans hge (Nat.le_of_lt hlt)
    have J := inv_table (t' := tk) (more := #[rawInt pos.line, rawInt pos.col, .ref c']) (h' := h'.push (PySem.W.kla_obj "<lambda>" (X.env.qual ++ "<lambda>") params body scope (cloFrom X.env.cells scope.names []) ((X.mg "__name__").getD .none) c' ctv)) I hP
      (fun b o nb e => Heap.get?_push_of_some _ (hx b o nb e)) (Heap.get?_push_of_some _ htb) hge ⟨oc, vs, t, Heap.get?_push_of_some _ hoc, hd, hv⟩
    have lst : (ps ++ #[rawInt pos.line, rawInt pos.col, .ref c']).toList = ps.toList ++ [rawInt pos.line, rawInt pos.col, .ref c'] := by simp
    refine go h'.objs.size c' _ ctv _ _ J (.inr ⟨ps, _, c', hP, fresh, ?_, fun p cv h => ?_, rfl⟩) (Heap.get?_push_size _ rfl) ?_ (away _ big) upd_same
    · rw [lst]; exact PySem.TriplesOk_snoc _ _ _ _ ht
    · rw [lst] at h; exact among_app _ ht h
    · rw [upd_ne (Nat.ne_of_gt hlt), upd_ne (Nat.ne_of_gt (Nat.lt_of_lt_of_le (Heap.lt_size hPh) big))]
      exact I.hok.fresh big
  · obtain ⟨c', rfl, hco⟩ := ha pos cv hc
    refine PySem.W.kla_makeFunctionHit (closure_ok hfree) I.ok.glob (I.mod.glob.keeps I.bk) hcode (TB.code.keeps I.bk) hPh ht hc hb fun ctv h' tk hx big => ?_
    exact go h'.objs.size c' _ ctv H _ (I.kept fun b o e => Heap.get?_push_of_some _ (hx b o e)) (.inl rfl) (Heap.get?_push_size _ rfl) (I.hok.fresh big) (away _ big) hco
end
section
variable {K : PySem.W.Frag} {ca : CA} {F : Fr} {ow : Addr → Prop} {env : List Sl} {H H1 : Hp} {σ : St}
theorem Rel.lam (R : Rel K ca F ow env σ H) {P : Addr} {q : Str} (hP : (P, q) ∈ ca.tb) (hu : ∀ p ∈ ca.tb, p.1 = P → p.2 = q) (l : LamStep H P q H1) : Rel K ca F ow env σ H1 ∧ Go σ ow env H ow env H1 := by
  rcases l with rfl | ⟨ps, more, c', h1, h2, h3, h4, rfl⟩
  · exact ⟨R, Go.refl⟩
  have nP : ¬ P = c' := fun z => by rw [z, h2] at h1; cases h1
  obtain ⟨wP, ioP, thP, _⟩ := R.tab _ hP
  have at_ : ∀ {a : Addr} {o : HO}, H a = some o → a ≠ P → upd (upd H P (.tbl (ps ++ more))) c' (CodeO c' q) a = some o := fun {a o} e n => by
    rw [upd_ne (fun z => by rw [z, h2] at e; cases e), upd_ne n]; exact e
  have nw : ¬ ow c' := fun z => by
    obtain ⟨o, e⟩ := R.trk _ z
    rw [h2] at e; cases e
  have st : Stp ow H ow (upd (upd H P (.tbl (ps ++ more))) c' (CodeO c' q)) := fun a o e n _ => ⟨at_ e (fun z => n (z ▸ wP)), n⟩
  have sl : ∀ {p : Addr} {k : Ob}, OwnR K ca ow H p k → upd (upd H P (.tbl (ps ++ more))) c' (CodeO c' q) p = H p := fun {p k} r => by
    obtain ⟨o, e⟩ := r.there
    rw [e]
    exact at_ e fun z => r.noTbl (ps := ps) (by rw [z]; exact h1)
  refine ⟨R.step rfl (fun i s' h => .inl ⟨h, fun l k p hs hp => ?_⟩) st (fun _ h => h) (fun a z => ?_) (fun a z => ?_) (fun a o e n nt => ?_) (fun a e => ?_) (fun p hp => ?_), ⟨st, fun p w nt n => ⟨w, ?_, n⟩, fun a e => ?_⟩⟩
  · subst hs
    obtain ⟨p', ep, _, r⟩ := R.own h
    rw [hp] at ep; cases ep
    exact sl r
  · by_cases e : a = P
    · exact ⟨.tbl (ps ++ more), by rw [e, upd_ne nP, upd_same]⟩
    · obtain ⟨o, ho⟩ := R.trk a z
      exact ⟨o, at_ ho e⟩
  · refine (R.knd a z).imp id fun m => ?_
    obtain ⟨o, ho⟩ := m.there
    rw [ho] at m
    rw [at_ ho fun e => m.nt ps (by rw [e, h1] at ho; exact (Option.some.inj ho).symm)]
    exact m
  · exact at_ (R.keep a o e n nt) fun z => nt ps (by have := R.keep a o e n nt; rw [z, h1] at this; exact (Option.some.inj this).symm)
  · cases h : H a with
    | none => rfl
    | some o =>
      exfalso
      by_cases z : a = P
      · rw [z, upd_ne nP, upd_same] at e; cases e
      · rw [at_ h z] at e; cases e
  · by_cases z : p.1 = P
    · rw [hu p hp z, z]
      refine ⟨_, by rw [upd_ne nP, upd_same], h3, fun pos cv h => ?_⟩
      obtain ⟨ps', a1, a2, a3⟩ := (R.tab _ hP).2.2.2
      have a1' : H P = some (.tbl ps') := a1
      rw [h1] at a1'
      cases a1'
      rcases h4 pos cv h with h5 | rfl
      · obtain ⟨c, e1, e2, n⟩ := a3 pos cv h5
        refine ⟨c, e1, at_ e2 (fun z => ?_), n⟩
        rw [z, h1] at e2
        exact nt_code ps (Option.some.inj e2).symm
      · exact ⟨c', rfl, upd_same, nw⟩
    · exact (R.tab p hp).2.2.2.stp st (by
        obtain ⟨ps', e⟩ := (R.tab p hp).2.2.2.tbl
        rw [e]; exact at_ e z)
  · obtain ⟨o, ho⟩ := R.trk p w
    rw [ho]
    exact at_ ho fun z => nt ⟨ps, by rw [z]; exact h1⟩
  · cases h : H a with
    | none => rfl
    | some o =>
      exfalso
      by_cases z : a = P
      · rw [z, upd_ne nP, upd_same] at e; cases e
      · rw [at_ h z] at e; cases e
end
end ML
end

section
set_option Elab.async false
set_option linter.all false
set_option maxRecDepth 100000
set_option maxHeartbeats 2000000
namespace ML
open PySem L2 LamX
open PyProof.Rows (envOfC)
/-- which word the handlers have for an error of a class -/
def chain (K : PySem.W.Frag) : List (Value × Str) → (Str → Prop) → Value → Prop
  | [], _, _ => False
  | (c, w) :: r, k, cls => ∃ b, PySem.W.exmOne K cls c = some b ∧ (b = true → k w) ∧ (b = false → chain K r k cls)
/-- a def that calls what it got: kT behind a value, kW behind a handled error -/
def TTw (K : PySem.W.Frag) (l : List (Value × Str)) (kT : V → Hp → VK → Prop) (kW : Str → Hp → VK → Prop) : (XK → Hp → VK → Prop) → Hp → VK → Prop := fun tl H Q => tl (fun cls _ H' => chain K l (fun w => kW w H' Q) cls) H (fun v H' => kT v H' Q)
def eSaid (rT : D → D) (rW : Str → D) (pk : Str → Option Str) (m : M D) : M D := fun e => match m e with
  | .ok x e' => .ok (rT x) e'
  | .ex c e' => match pk c with
    | some w => .ok (rW w) e'
    | none => .bad
  | .bad => .bad
/-- what the def gives of a value, of a word -/
def GvT (K : PySem.W.Frag) (kT : V → Hp → VK → Prop) (rT : D → D) : Prop := ∀ (v : V) (x : D) (ow : Addr → Prop) (H : Hp) (Q : VK), Trk ow H → Rp K ow H x v → (∀ v' H', Gr H H' → Rp K ow H' (rT x) v' → Q v' H') → kT v H Q
def GvW (K : PySem.W.Frag) (kW : Str → Hp → VK → Prop) (rW : Str → D) : Prop := ∀ (w : Str) (ow : Addr → Prop) (H : Hp) (Q : VK), Trk ow H → (∀ v' H', Gr H H' → Rp K ow H' (rW w) v' → Q v' H') → kW w H Q
structure SaidD (X : Cx) (x a : Str) (Ng : List Str) (sg : Scope) (bg : List Stmt) (l : List (Value × Str)) (kT : V → Hp → VK → Prop) (kW : Str → Hp → VK → Prop) : Prop where
  ex : ∃ (g : Addr) (pg : Arguments) (dV kV doc pm cdv ct oc : Value) (an od : Option Addr) (osl : Array (Option Value)), X.mg x = some (.ref g) ∧ PySem.W.keepIn X.K (.ref g) = true ∧
    X.K.lookup g = some ⟨oc, od, .func (PySem.W.fnOf x x pg bg sg dV kV doc pm an cdv ct), osl⟩ ∧ PySem.W.codeIn X.K cdv x = true ∧ L2.Binds X.K (PySem.W.fnOf x x pg bg sg dV kV doc pm an cdv ct) [a] []
  S : FnScope Ng [a] sg
  at0 : Ng[0]? = some a
  vis : Vis sg a
section
variable {ca : CA} {X : Cx}
theorem me_said {x a : Str} {c P : Addr} {k : Nat} {Ng : List Str} {sg : Scope} {bg : List Stmt} {l : List (Value × Str)} {kT : V → Hp → VK → Prop} {kW : Str → Hp → VK → Prop} {rT : D → D} {rW : Str → D} {pk : Str → Option Str} {params : Arguments} {body : Expr} {scope : Scope} {m : M D} {p lpos pos : Pos}
    (sd : SaidD X x a Ng sg bg l kT kW) (hT : GvT X.K kT rT) (hW : GvW X.K kW rW) (hpk : ∀ (e w : Str) (q : Str → Prop), pk e = some w → q w → chain X.K l q (.ref (ca e)))
    (hG : ∀ (g : Addr) (cdv : Value), GivesTo X Ng x sg g cdv bg a (X.env.qual ++ "<lambda>") (TTw X.K l kT kW))
    (TB : TabB X.base X.mg c P) (hcode : X.env.code = .ref c) (hmT : (P, X.env.qual ++ "<lambda>") ∈ ca.tb) (hu : ∀ p ∈ ca.tb, p.1 = P → p.2 = X.env.qual ++ "<lambda>") (hr : Room (k + 2) X.A)
    (L : LamS X.env.scope scope) (hbody : ∀ (A : Around) (outer : List Env) (s : Shared) (H : Hp) (E : XK) (f c' : Addr), Room k (A.deeper (lamEnv X scope s.heap.objs.size f c')) → ME ca (lamCx X A outer s H E scope f c') body m)
    (hg : Gl X x := by rfl) (hdef : defaultsOf params X.env = ([], []) := by rfl)
    (hbind : ∀ (q : Str) (cl : List (Str × Addr)) (pm cv ctv : Value), bindArgs (PySem.W.kla_fn "<lambda>" q params body scope cl pm cv ctv) ⟨[], []⟩ = pure [] := by intro _ _ _ _ _; rfl)
    (hdb : (x == ("__debug__" : Str)) = false := by decide) (hd : (a == ("__debug__" : Str)) = false := by decide) (hcd : (a == ("__classdict__" : Str)) = false := by decide) :
    ME ca X (.Call (.Name x p) [.Lambda params body scope lpos] [] pos) (eSaid rT rW pk m) := fun F W tk => ⟨fun pins s σ H Q I ⟨ow, env, R, q⟩ => by
  obtain ⟨g, pg, dV, kV, doc, pm, cdv, ct, oc, an, od, osl, hm, hk, lk, hcg, hb⟩ := sd.ex
  obtain ⟨wP, ioP, thP, ps, t1, t2, t3⟩ := R.tab _ hmT
  refine wpAny_Call_Name_kw (ld_glob I hg hm (PySem.W.callWith_K (h₀ := X.base) I.ok.mod.kin hk (Calls.spliced_cons (lamMake I TB hcode t1 t2 (fun pos cv h => (t3 pos cv h).elim fun d z => ⟨d, z.1, z.2.1⟩) hdef (L.has I.ok) fun f c' pm' ctv H1 s' J ls hf hfn hfr hco => Calls.spliced_nil ⟨J.kIn, ?_⟩)) rfl rfl) hdb)
  obtain ⟨R1, g1⟩ := R.lam hmT hu ls
  have key : TTw X.K l kT kW (fun E H' Q' => tE X.K ca F (fun cls d _ H => E cls d H) m σ H' Q') H1 Q := by
    refine ⟨ow, env, R1, ?_⟩
    unfold eSaid at q
    cases hme : m env with
    | bad => rw [hme] at q; exact q.elim
    | ok y e' =>
      rw [hme] at q
      exact fun v ow2 H2 go2 R2 rp => hT v y ow2 H2 Q R2.trk rp fun v' H' gr rp' => q v' ow2 H' ((g1.trans go2).trans (Go.gr R2 gr)) (R2.gr gr) rp'
    | ex d e' =>
      simp only [hme] at q
      cases hw : pk d with
      | none => rw [hw] at q; exact q.elim
      | some w =>
        rw [hw] at q
        exact fun ow2 H2 go2 R2 => hpk d w _ hw (hW w ow2 H2 Q R2.trk fun v' H' gr rp' => q v' ow2 H' ((g1.trans go2).trans (Go.gr R2 gr)) (R2.gr gr) rp')
  have run : codeAny (model X.prog X.w) X.A (.call (.ref g) ⟨[.ref f], []⟩) (L2.CR C8.CX0 X.stack X.prog X.w H1 s' Q C8.E0) s' := run_ofS (N := Ng) (ps := [a]) (us := [.ref f]) (vs := [.ref f]) lk hcg sd.S hr J.env0 (hb s' [.ref f] J.kIn rfl) (.cons rfl .nil) rfl fun hr' => by
    obtain ⟨t, ht, hq⟩ := hG g cdv f c' s' H1 Q (fun E H' Q' => tE X.K ca F (fun cls d _ H => E cls d H) m σ H' Q') (fun W pn xe E p1 p2 tk2 hW2 => pe_act (i := 0) (k := k) J L hf hfn hfr (hbind _ _ _ _ _) tk2 hW2 hr' (fun A2 o2 s2 H2 r2 => hbody A2 o2 s2 H2 E f c' r2 F (fun cls d _ H => E cls d H) ⟨takes_of rfl rfl rfl rfl, fun a h => by
      have z := r2.hd
      rw [show (A2.deeper (lamEnv X scope s2.heap.objs.size f c')).handled = some (.ref a) from h] at z
      cases z⟩) sd.at0 sd.vis hd hcd) hco key
    exact ⟨t, ht.nox, hq⟩
  exact wpAny_call (codeAny_mono run fun r s2 hq => match r, hq with
    | .error e, hq => (show False from hq).elim
    | .ok (.ret u), hq => J.after hq
    | .ok .next, hq => False.elim hq
    | .ok .brk, hq => False.elim hq
    | .ok .cont, hq => False.elim hq)⟩
end
end ML
end

section
set_option Elab.async false
set_option linter.all false
set_option maxRecDepth 100000
set_option maxHeartbeats 2000000
/-! # The two shapes of such a def; the defs with lambdas; the law's end with tables -/
namespace ML
open PySem L2 LamX He
open PyProof.Rows (envOfC)
section
variable {X : Cx} {sg : Scope}
def kTId : V → Hp → VK → Prop := fun v H Q => Q v H
def kWLst : Str → Hp → VK → Prop := fun w H Q => ∀ p, H p = none → Q (.ref p) (upd H p (.lst [.str w]))
def kTStr (t : Str) : V → Hp → VK → Prop := fun _ H Q => Q (.str t) H
def kWStr : Str → Hp → VK → Prop := fun w H Q => Q (.str w) H
theorem gvT_id {K : PySem.W.Frag} : GvT K kTId id := fun v x ow H Q _ r k => k v H Gr.refl r
theorem gvW_lst {K : PySem.W.Frag} : GvW K kWLst (fun w => .list [.str w]) := fun w ow H Q tr k p hp => k _ _ (Gr.new hp) (by
  unfold Rp
  refine ⟨p, [.str w], rfl, upd_same, fun z => ?_, ?_⟩
  · obtain ⟨o, h⟩ := tr p z
    rw [hp] at h; cases h
  · unfold RpA
    exact ⟨_, _, rfl, rp_str, by unfold RpA; rfl⟩)
theorem gvT_str {K : PySem.W.Frag} {t : Str} : GvT K (kTStr t) (fun _ => .str t) := fun v x ow H Q _ r k => k _ H Gr.refl rp_str
theorem gvW_str {K : PySem.W.Frag} : GvW K kWStr (fun w => .str w) := fun w ow H Q tr k => k _ H Gr.refl rp_str
/-- handlers that hand back a written list of one word -/
inductive HdA (mg : Str → Option Value) (sg : Scope) : List ExceptHandler → List (Value × Str) → Prop
  | nil : HdA mg sg [] []
  | cons {e w : Str} {v : Value} {hds : List ExceptHandler} {l : List (Value × Str)} {j : Nat} {p1 p2 p3 p4 p5 : Pos} (h1 : mg e = some v) (r : HdA mg sg hds l) (h2 : sg.names.lookup e = some .globalImplicit := by rfl) (h3 : (e == ("__debug__" : Str)) = false := by decide) :
      HdA mg sg (.ExceptHandler (some (.Name e p1)) none [.Return (some (.List [.Constant (.str w) j p2] p3)) p4] p5 :: hds) ((v, w) :: l)
/-- .. that store a word in slot i -/
inductive HdB (mg : Str → Option Value) (sg : Scope) (y : Str) : List ExceptHandler → List (Value × Str) → Prop
  | nil : HdB mg sg y [] []
  | cons {e w : Str} {v : Value} {hds : List ExceptHandler} {l : List (Value × Str)} {j : Nat} {p1 p2 p3 p4 p5 : Pos} (h1 : mg e = some v) (r : HdB mg sg y hds l) (h2 : sg.names.lookup e = some .globalImplicit := by rfl) (h3 : (e == ("__debug__" : Str)) = false := by decide) :
      HdB mg sg y (.ExceptHandler (some (.Name e p1)) none [.Assign [.Name y p2] (.Constant (.str w) j p3) p4] p5 :: hds) ((v, w) :: l)
theorem chain_many {K : PySem.W.Frag} {Wout : WX} {D : Ends} {ts : Str → TS} {σ : L2.St} {H : Hp} {cls : Value} {d : Option Addr} : ∀ {l : List (Value × Str)}, chain K l (fun w => ts w D σ H) cls → wMany K Wout D (l.map fun q => (q.1, fun _ _ _ => ts q.2)) cls d σ H
  | [], h => h.elim
  | (c, w) :: r, h => by
    obtain ⟨b, e, h1, h2⟩ := h
    exact ⟨b, e, fun z _ _ => h1 z, fun z => chain_many (h2 z)⟩
theorem hdA_ok {Z : Cx} {hds : List ExceptHandler} {l : List (Value × Str)} (h : HdA Z.mg Z.env.scope hds l) : HdsOk Z hds (l.map fun q => (q.1, fun _ _ _ => (fun D σ H => kWLst q.2 H D.rt : TS))) := by
  induction h with
  | nil => exact .nil
  | cons h1 r h2 h3 ih =>
    refine .cons ⟨h2, h3, .inl h1⟩ (fun a oe cls d pn _ _ => ?_) ih
    exact PSs.imp (pss_one (ps_ret (pe_lst (pa_cons pe_str pa_nil)))) fun D σ H q => ⟨by show 1 ≤ sizeLine; rw [sizeLine_eq]; decide, fun p hp => q p hp⟩
/-- try: return a() except ..: return [..] -/
theorem gives_A {Ng : List Str} {x a q : Str} {g : Addr} {cdg : Value} {hds : List ExceptHandler} {l : List (Value × Str)} {p1 p2 p3 p8 : Pos} (h : HdA X.mg sg hds l) (hne : hds ≠ []) (h0 : ∀ f : Addr, (L2.start Ng [V.ref f])[0]? = some (some (V.ref f))) :
    GivesTo X Ng x sg g cdg [.Try [.Return (some (.Call (.Name a p1) [] [] p2)) p3] hds [] [] p8] a q (TTw X.K l kTId kWLst) := fun f c' s H Q tl act hc told => by
  obtain ⟨hd, tls, rfl⟩ : ∃ hd tls, hds = hd :: tls := by
    cases hds with
    | nil => exact absurd rfl hne
    | cons hd tls => exact ⟨hd, tls, rfl⟩
  refine ⟨_, pss_one (ps_try_many (X := (cxOf C8.CX0 X.prog X.w X.K X.mg X.base Ng x sg g cdg X.A X.stack s H C8.E0).nox) (Wout := fun _ _ _ _ => False)
    (tb := fun W D σ H => ∃ E : XK, (∀ cls d σ' H', E cls d H' → W cls d σ' H') ∧ σ[0]? = some (some (.ref f)) ∧ H c' = some (CodeO c' q) ∧ tl E H D.rt) rfl rfl L2.takes0 (fun W pn xe tk _ => ⟨fun pins s' σ H' D I ⟨E, hW, z1, z2, z3⟩ => (pss_one (ps_ret (pos := p3) (act W pn xe E p1 p2 tk hW))).run pins s' σ H' D I ⟨z1, z2, z3⟩⟩) (hdA_ok h)), ?_⟩
  exact ⟨fun cls _ H' => chain X.K l (fun w => kWLst w H' Q) cls, fun cls d σ' H' z => chain_many (ts := fun w => (fun D σ H => kWLst w H D.rt)) z, h0 f, hc, told⟩
theorem hdB_ok {Z : Cx} {y : Str} {i : Nat} {hds : List ExceptHandler} {l : List (Value × Str)} (hN : Z.N.Nodup) (hi : Z.N[i]? = some y) (hx : Loc Z.env.scope y) (hf : Z.fn y = true) (h : HdB Z.mg Z.env.scope y hds l) :
    HdsOk Z hds (l.map fun q => (q.1, fun _ _ _ => (fun D σ H => D.nx (σ.set i (some (.str q.2))) H : TS))) := by
  induction h with
  | nil => exact .nil
  | cons h1 r h2 h3 ih =>
    refine .cons ⟨h2, h3, .inl h1⟩ (fun a oe cls d pn _ _ => ?_) ih
    exact PSs.imp (pss_one (ps_set (i := i) hN hi hx pe_str rfl (.inl hf))) fun D σ H q => q
/-- y = ".."; try: a() except ..: y = ".."; return y -/
theorem gives_B {x a y q told : Str} {g : Addr} {cdg : Value} {hds : List ExceptHandler} {l : List (Value × Str)} {j1 : Nat} {p1 p2 p3 p4 p5 p6 p7 p8 p9 : Pos} (h : HdB X.mg sg y hds l) (hne : hds ≠ []) (hN : [a, y].Nodup) (hx : Loc sg y) (hv : Vis sg y) (hd : (y == ("__debug__" : Str)) = false := by decide) (hcd : (y == ("__classdict__" : Str)) = false := by decide) :
    GivesTo X [a, y] x sg g cdg [.Assign [.Name y p1] (.Constant (.str told) j1 p2) p3, .Try [.Expr (.Call (.Name a p4) [] [] p5) p6] hds [] [] p7, .Return (some (.Name y p8)) p9] a q (TTw X.K l (kTStr told) kWStr) := fun f c' s H Q tl act hc tl0 => by
  obtain ⟨hd1, tls, rfl⟩ : ∃ hd tls, hds = hd :: tls := by
    cases hds with
    | nil => exact absurd rfl hne
    | cons hd tls => exact ⟨hd, tls, rfl⟩
  refine ⟨_, pss_cons (ps_set (X := (cxOf C8.CX0 X.prog X.w X.K X.mg X.base [a, y] x sg g cdg X.A X.stack s H C8.E0).nox) (i := 1) hN rfl hx pe_str rfl (.inl rfl))
    (pss_cons (ps_try_many (X := (cxOf C8.CX0 X.prog X.w X.K X.mg X.base [a, y] x sg g cdg X.A X.stack s H C8.E0).nox) (Wout := fun _ _ _ _ => False)
      (tb := fun W D σ H => ∃ E : XK, (∀ cls d σ' H', E cls d H' → σ'.length = 2 → W cls d σ' H') ∧ σ = [some (.ref f), some (.str told)] ∧ H c' = some (CodeO c' q) ∧ tl E H (fun _ H' => D.nx σ H')) rfl rfl L2.takes0
      (fun W pn xe tk _ => ⟨fun pins s' σ H' D I ⟨E, hW, z1, z2, z3⟩ => (pss_one (ps_expr (pos := p6) (act (fun cls d σ H => σ.length = 2 → W cls d σ H) pn xe E p4 p5 (fun u s' ⟨a, B, sI, pins, σ, H, cls, d, e, I, nb, up, sky, na, os, ag, w⟩ => tk u s' ⟨a, B, sI, pins, σ, H, cls, d, e, I, nb, up, sky, na, os, ag, w I.len⟩) hW))).run pins s' σ H' D I ⟨by rw [z1]; rfl, z2, z3⟩⟩) (hdB_ok (i := 1) hN rfl hx rfl h))
    (pss_one (ps_ret (pe_var (i := 1) rfl hv hd hcd)))), ?_⟩
  refine ⟨fun cls _ H' => chain X.K l (fun w => kWStr w H' Q) cls, fun cls d σ' H' z hl => ?_, rfl, hc, ?_⟩
  · refine chain_many (ts := fun w => (fun D σ H => D.nx (σ.set 1 (some (.str w))) H)) ?_
    have e : (fun w => ∃ v, (σ'.set 1 (some (V.str w)))[1]? = some (some v) ∧ Q v H') = fun w => kWStr w H' Q := by
      funext w
      rw [List.getElem?_set_self (by omega)]
      refine propext ⟨fun ⟨v, h1, h2⟩ => by cases h1; exact h2, fun h => ⟨_, rfl, h⟩⟩
    show chain X.K l (fun w => ∃ v, (σ'.set 1 (some (V.str w)))[1]? = some (some v) ∧ Q v H') cls
    rw [e]; exact z
  · have e : (fun (_ : V) (H' : Hp) => ∃ v, ([some (V.ref f), some (V.str told)] : L2.St)[1]? = some (some v) ∧ Q v H') = fun v H' => kTStr told v H' Q := by
      funext v H'
      exact propext ⟨fun ⟨v, h1, h2⟩ => by cases h1; exact h2, fun h => ⟨_, rfl, h⟩⟩
    show tl _ H (fun (_ : V) (H' : Hp) => ∃ v, ([some (V.ref f), some (V.str told)] : L2.St)[1]? = some (some v) ∧ Q v H')
    rw [e]; exact tl0
end
section
variable {P : Program} {w : World} {K : PySem.W.Frag} {mg : Str → Option Value} {base : Heap} {ca : CA}
theorem fnMDc {x qual : Str} {params : Arguments} {body : List Stmt} {scope : Scope} {f : Addr} {fd : FuncData} {N ps : List Str} {k : Nat} {m : MStm} (Fn : FunD K x qual params body scope [] [] f fd) (S : FnScope N ps scope) (p : He.Defn) (hf : f = He.fAd K p) (hl : ps.length ≤ N.length)
    (hbody : ∀ (cdv : Value), cdv = .ref (He.codeOf K p) → ∀ (A : Around) (outer : List Env) (s : Shared) (H : Hp) (E : XK), Room k (A.deeper (envOfC qual scope s.heap.objs.size f cdv)) → MSs ca (cxOf (L2.CX P w) P w K mg base N qual scope f cdv A outer s H E) body m) :
    FnOk P w K mg base (L2.CX P w) (k + 1) f fd ps (spM K ca ps.length (runBody ps.length N.length m)) := by
  match Fn.ex with
  | ⟨_, _, _, _, _, _, _, cdv, _, _, e1, lk, hcd, _⟩ =>
  subst e1
  have hc : cdv = .ref (He.codeOf K p) := by
    obtain ⟨c, e⟩ := He.codeIn_ref hcd
    rw [He.codeOf_eq (p := p) (hf ▸ lk) e]; exact e
  refine fn_of lk hcd S (fun vs H Q E z => z.elim fun _ z => z.elim fun _ z => z.1) fun A outer s H vs Q E hr ⟨ow, args, hv, AO, tr, g⟩ => ?_
  have hp : PassesOwn (model P w) (cxOf (L2.CX P w) P w K mg base N qual scope f cdv A outer s H E).A (cxOf (L2.CX P w) P w K mg base N qual scope f cdv A outer s H E).env (cxOf (L2.CX P w) P w K mg base N qual scope f cdv A outer s H E).xe := PassesOwn.leaving
  refine ⟨_, hbody cdv hc A outer s H E hr ⟨H, ow, IoA ca args vs, vs, 0⟩ (fun cls d _ H => E cls d H) ⟨takes_of rfl rfl rfl rfl, fun a h => by have z := hr.hd; rw [show (A.deeper (envOfC qual scope s.heap.objs.size f cdv)).handled = some (.ref a) from h] at z; cases z⟩ hp, ?_⟩
  have ha : args.length = ps.length := AO.len.trans hv
  refine ⟨ow, _, AO.rel tr (by omega), ?_⟩
  show GoS K ca _ _ ow H _ _
  unfold runBody at g
  rw [if_pos ha] at g
  rw [← hv] at g
  rw [hv] at g ⊢
  cases hm : m (args ++ List.replicate (N.length - ps.length) .un) with
  | nx e =>
    rw [hm] at g
    dsimp only at g
    by_cases io : ioOk args e = true
    · rw [if_pos io] at g
      exact fun σ' ow' H' s' R' => g .non H' R'.kept (outs_of R' ha io R'.sub) (by unfold Rp; rfl)
    · rw [if_neg io] at g; exact g.elim
  | rt r e =>
    rw [hm] at g
    dsimp only at g
    by_cases io : ioOk args e = true
    · rw [if_pos io] at g
      cases r with
      | d x => exact fun v σ' ow' H' s' R' rp => g v H' R'.kept (outs_of R' ha io R'.sub) (rp.stp (anti R'.sub))
      | o k =>
        intro p σ' ow' H' s' R' ro L
        have sub : ∀ a, more ow p a → ow' a := fun a z => by
          rcases z with z | z
          · exact R'.sub a z
          · rw [z]; exact L.1
        exact g p H' R'.kept L.2.1 ro.there (outs_of R' ha io sub) (ro.stp (anti sub) rfl)
    · rw [if_neg io] at g; exact g.elim
  | ex c e =>
    rw [hm] at g
    dsimp only at g
    by_cases io : ioOk args e = true
    · rw [if_pos io] at g
      exact fun σ' ow' H' s' R' => g H' R'.kept (outs_of R' ha io R'.sub)
    · rw [if_neg io] at g; exact g.elim
  | bk e => rw [hm] at g; exact g.elim
  | ct e => rw [hm] at g; exact g.elim
  | bad => rw [hm] at g; exact g.elim
theorem calDc {x qual : Str} {params : Arguments} {body : List Stmt} {scope : Scope} {f : Addr} {fd : FuncData} {N ps : List Str} {k : Nat} {m : MStm} (Fn : FunD K x qual params body scope [] [] f fd) (hm : mg x = some (.ref f)) (S : FnScope N ps scope)
    (hb : ∀ (kV doc pm : Value) (an : Option Addr) (cdv ct : Value) (us : List Value), us.length = ps.length → bindArgs (PySem.W.fnOf x qual params body scope .none kV doc pm an cdv ct) ⟨us, []⟩ = pure (ps.zip us))
    (p : He.Defn) (hf : f = He.fAd K p) (hbody : ∀ (cdv : Value), cdv = .ref (He.codeOf K p) → ∀ (A : Around) (outer : List Env) (s : Shared) (H : Hp) (E : XK), Room k (A.deeper (envOfC qual scope s.heap.objs.size f cdv)) → MSs ca (cxOf (L2.CX P w) P w K mg base N qual scope f cdv A outer s H E) body m)
    (hl : ps.length ≤ N.length := by decide) : Cal P w K mg base ca (k + 1) x ps.length (runBody ps.length N.length m) :=
  ⟨f, fd, ps, hm, Fn.kp, Fn.bindsN hb, fnMDc Fn S p hf hl hbody⟩
end
/-! ### the hook with tables and more roots -/
structure SaysN (fa : List Fa) (fn : List DefD) (tf : List Defn) (ex : PySem.W.Frag → Bool) (h : Heap) (K : PySem.W.Frag) : Prop where
  d : SaysD fa fn K
  more : ex K = true
  hd : ∀ p ∈ tf, PySem.W.codeHdIn K (cT K p).1 (cT K p).2 = true
  out : ∀ p ∈ tf, K.lookup (cT K p).2 = none
  empty : ∀ p ∈ tf, h.get? (cT K p).2 = some { cls := .none, data := .fields #[] }
def obsN (rt : List Addr) (fa : List Fa) (fn : List DefD) (tf : List Defn) (ex : PySem.W.Frag → Bool) (n : Nat) (g : Addr → Option Obj) : AlM := (obsD fa fn (frT g (asD g n ++ rt)), ex (frT g (asD g n ++ rt)) && tabsB g tf (frT g (asD g n ++ rt)))
theorem saysN_of {rt : List Addr} {n : Nat} {fa : List Fa} {fn : List DefD} {tf : List Defn} {ex : PySem.W.Frag → Bool} {h : Heap} (e : obsN rt fa fn tf ex n h.get? = valM fn) : SaysN fa fn tf ex h (frT h.get? (asD h.get? n ++ rt)) := by
  have e2 := congrArg (fun z : AlM => z.2) e
  obtain ⟨h1, h2⟩ := Bool.and_eq_true_iff.mp e2
  have all := List.all_eq_true.mp h2
  refine ⟨congrArg (fun z : AlM => z.1) e, h1, fun p hp => (Bool.and_eq_true_iff.mp (all p hp)).1, fun p hp => ?_, fun p hp => ?_⟩
  all_goals
    have z := (Bool.and_eq_true_iff.mp (all p hp)).2
    cases q : h.get? (cT (frT h.get? (asD h.get? n ++ rt)) p).2 with
    | none => rw [q] at z; cases z
    | some o =>
      rw [q] at z
      first | exact frT_none q z | (rw [emptyTab_eq z])
def hookN (rt : List Addr) (n : Nat) (fa : List Fa) (fn : List DefD) (tf : List Defn) (ex : PySem.W.Frag → Bool) : PySem.W.Hook where
  α := AlM
  obs := fun s => obsN rt fa fn tf ex n s.heap.get?
  val := fun _ => valM fn
  says := fun _ h => ∃ K : PySem.W.Frag, K.In h ∧ SaysN fa fn tf ex h K
  of := fun _ _ e => ⟨_, frT_in, saysN_of e⟩
  keeps := fun _ _ _ ⟨K, hK, c⟩ k => ⟨K, PySem.W.Frag.In.keeps hK k, ⟨c.d, c.more, c.hd, c.out, fun p hp => k _ _ (c.empty p hp)⟩⟩
theorem obsN_eq {rt : List Addr} {n : Nat} {fa : List Fa} {fn : List DefD} {tf : List Defn} {ex : PySem.W.Frag → Bool} {g : Addr → Option Obj} {s : Shared} (h : ∀ a, g a = s.heap.get? a) : obsN rt fa fn tf ex n g = (hookN rt n fa fn tf ex).obs s := by
  have e : g = s.heap.get? := funext h
  rw [e] <;> rfl
end ML
end

section
set_option Elab.async false
set_option linter.all false
set_option maxRecDepth 100000
set_option maxHeartbeats 2000000
/-! # A law's end, with tables -/
namespace ML
open PySem PySem.Spec PyProof.Rows L2 LamX He
theorem cx0 {P : Program} {w : World} {K : PySem.W.Frag} {mg : Str → Option Value} {base : Heap} {k : Nat} {f : Addr} {fd : FuncData} {ps : List Str} {sp : Sp} (F : FnOk P w K mg base (L2.CX P w) k f fd ps sp) :
    FnOk P w K mg base CX0 k f fd ps (fun vs H Q _ => sp vs H Q (fun _ _ _ => False)) :=
  ⟨fun vs H Q E h => F.len _ _ _ _ h, fun A outer s H args us vs Q E hr e0 hb hv hs => codeAny_mono (F.run A outer s H args us vs Q (fun _ _ _ => False) hr e0 hb hv hs) fun r s' h => by
    cases r with
    | error e =>
      obtain ⟨_, _, _, _, _, _, _, _, _, _, _, _, z⟩ := h
      exact z.elim
    | ok fl => cases fl <;> exact h⟩
/-- the law's promise, if its function answers True -/
theorem sp_lawT {K : PySem.W.Frag} {ca : CA} {mf : List Sl → CR} {n : Nat} (math : ∀ ns : List Int, ns.length ≤ n → ∃ outs, mf [.sc ns] = .ok (.d (.bool true)) outs) (H : Hp) (a : Addr) (ns : List Int) (hl : ns.length ≤ n) (hT : ∀ q ∈ ca.tb, H q.1 = some (.tbl #[])) (hS : SqL K H a (ns.map V.int)) :
    spM K ca 1 mf [.ref a] H (fun v _ => v = .bl true) fun _ _ _ => False := by
  obtain ⟨outs, e⟩ := math ns hl
  have off : ∀ {o : HO}, H a = some o → NT o → ¬ ∃ q ∈ ca.tb, q.1 = a := fun {o} h nt ⟨q, hq, z⟩ => by
    rw [← z, hT q hq] at h
    exact nt #[] (Option.some.inj h).symm
  refine ⟨fun a => ∃ q ∈ ca.tb, q.1 = a, [.sc ns], rfl, ⟨rfl, fun i s v h1 h2 => ?_, fun i k z => ?_, fun i j p k k' h1 => ?_, fun q hq => ⟨⟨q, hq, rfl⟩, #[], hT q hq, trivial, fun pos cv h => by cases h⟩, fun a z => .inl z⟩, fun a ⟨q, hq, z⟩ => ⟨_, z ▸ hT q hq⟩, ?_⟩
  · cases i with
    | succ i => cases h1
    | zero =>
      cases h1
      cases h2
      refine ⟨a, rfl, ?_⟩
      rcases hS with (h | ⟨o, h⟩) | h
      · exact .inr (.inl ⟨h, off h nt_lst⟩)
      · exact .inl ⟨o, h, off h nt_frz⟩
      · exact .inr (.inr h)
  · cases i with
    | succ i => cases z
    | zero => cases z
  · cases i with
    | succ i => cases h1
    | zero => cases h1
  · rw [e]
    intro v H' _ _ r
    unfold Rp at r
    exact r
/-- from the facts of the head to the law's end -/
theorem law_end {l : PySem.W.OpenLaw} {w : World} {K : PySem.W.Frag} {ca : CA} {k n : Nat} {mg : Str → Option Value} {fa : Addr} {h : Heap} {F1 : List Fa} {fn : List DefD} {tf : List Defn} {ex : PySem.W.Frag → Bool} {mf : List Sl → CR} (KX : K.In h) (c : SaysN F1 fn tf ex h K) (htb : ∀ q ∈ ca.tb, ∃ p ∈ tf, q.1 = (cT K p).2)
    (facts : ∃ fd : FuncData, (∀ (s : Shared) (v : Value), BindsTo s fd ⟨[v], []⟩ [("script", v)]) ∧ ∀ base : Heap, K.In base → base.Ns mainGlobals mg → (∀ p ∈ tf, TabB base mg (cT K p).1 (cT K p).2) → FnOk l.prog w K mg base (L2.CX l.prog w) k fa fd ["script"] (spM K ca 1 mf))
    (math : ∀ ns : List Int, ns.length ≤ n → ∃ outs, mf [.sc ns] = .ok (.d (.bool true)) outs) : LawAtS l w K L2.CX0 k n "script" mg fa h := by
  obtain ⟨fd, hb, hF⟩ := facts
  refine ⟨fd, tf.map (cT K), fun vs H Q _ => spM K ca 1 mf vs H Q (fun _ _ _ => False), fun p hp => ?_, fun p hp => ?_, fun p hp => ?_, hb, fun H a ns hl _ hT hS => ?_, fun base h1 h2 h3 => ?_⟩
  · obtain ⟨q, hq, rfl⟩ := List.mem_map.mp hp
    exact c.empty q hq
  · obtain ⟨q, hq, rfl⟩ := List.mem_map.mp hp
    exact c.out q hq
  · obtain ⟨q, hq, rfl⟩ := List.mem_map.mp hp
    exact PySem.W.codeHd_of_K KX (c.hd q hq)
  · refine sp_lawT math H a ns hl (fun q hq => ?_) hS
    obtain ⟨p, hp, e⟩ := htb q hq
    rw [e]
    exact hT _ (List.mem_map.mpr ⟨p, hp, rfl⟩)
  · exact cx0 (hF base h1 h2 fun p hp => h3 _ (List.mem_map.mpr ⟨p, hp, rfl⟩))
/-- the walk of a law whose facts tell the written part, too -/
theorem walk_N {l : PySem.W.OpenLaw} {n k : Nat} {q : Program} {loose : List Str} {XP : (Str → Option Value) → Heap → Prop} {YP : World → Heap → Prop} {d : DefRec} {x : Str} (hn : l.most = some n) (small : n ≤ sizeLine) (hdf : d.params.defaults = []) (room : Room k callerA)
    (tells : ∀ (w : World) (mg : Str → Option Value) (fa : Addr) (h : Heap), YP w h → h.Ns mainGlobals mg → mg d.name = some (.ref fa) → ∃ K : PySem.W.Frag, K.In h ∧ LawAtS l w K L2.CX0 k n x mg fa h) : PySem.W.WalkO q loose XP YP l.row.toRowW d [] (fun f vs => PySem.call f vs) := by
  refine Att.attach_callB hn hdf fun w s0 s1 mg mb fa o pm cd doc a vs ns G Y _ _ _ hmg hobj hints len bits hg => ?_
  obtain ⟨K, KX, fd, cs, sp, e1, e2, e3, e4, e5, e6⟩ := tells w mg fa _ Y G.T.g hmg
  exact law_callTs (K := K) KX G.T.g G.T.b G.T.builtins G.T.nolimit hg e1 e2 e3 G.T.bmain hobj hints (Nat.le_trans len small) room e6 e4 (fun H => e5 H a ns len bits) fun _ _ _ z => z
end ML
end

section
set_option Elab.async false
set_option linter.all false
set_option maxRecDepth 100000
set_option maxHeartbeats 2000000
/-! # dict(t), in and [..] of dicts, extend by a tuple, l[::-1], isinstance of two types, repr -/
namespace ML
open PySem L2
section
variable {K : PySem.W.Frag} {ca : CA} {ow : Addr → Prop} {H : Hp}
/-! ### dict(t) -/
@[simp] def pairD : D → Option (Key × D)
  | .tuple [.str x, .int i] => some (.inr x, .int i)
  | _ => none
@[simp] def pairsD : List D → Option (List (Key × D))
  | [] => some []
  | d :: r => (pairD d).bind fun p => (pairsD r).map fun ps => p :: ps
@[simp] def dictOf : D → Option Ob
  | .tuple ds => if sigD ds = true then (pairsD ds).bind fun kvs => if nodupK kvs = true then some (.dct kvs) else none else none
  | _ => none
theorem pairD_ok {d : D} {p : Key × D} {v : V} (h : pairD d = some p) (r : Rp K ow H d v) : ∃ a w, v = .ref a ∧ SqT K H a [kV p.1, w] ∧ Rp K ow H p.2 w := by
  unfold pairD at h
  split at h
  · cases h
    unfold Rp at r
    obtain ⟨a, xs, rfl, h1, h2⟩ := r
    unfold RpA at h2
    obtain ⟨v1, vs1, rfl, r1, h2⟩ := h2
    unfold RpA at h2
    obtain ⟨v2, vs2, rfl, r2, h2⟩ := h2
    unfold RpA at h2
    subst h2
    unfold Rp at r1
    subst r1
    exact ⟨a, v2, rfl, h1.sq, r2⟩
  · cases h
theorem pairsD_ok : ∀ {ds : List D} {kvs : List (Key × D)} {xs : List V}, pairsD ds = some kvs → RpA K ow H ds xs → ∃ (ps : List Addr) (us : List (Key × V)), xs = ps.map V.ref ∧ Paired (fun p kv => SqT K H p [kV kv.1, kv.2]) ps us ∧ RpE K ow H kvs us
  | [], _, _, h, r => by
    cases h
    unfold RpA at r
    subst r
    exact ⟨[], [], rfl, .nil, .nil⟩
  | d :: ds, _, _, h, r => by
    unfold pairsD at h
    obtain ⟨p, hp, h⟩ := Option.bind_eq_some_iff.mp h
    obtain ⟨ps', hps, rfl⟩ := Option.map_eq_some_iff.mp h
    unfold RpA at r
    obtain ⟨v, vs, rfl, r1, r2⟩ := r
    obtain ⟨a, w, rfl, h1, h2⟩ := pairD_ok hp r1
    obtain ⟨ps, us, rfl, h3, h4⟩ := pairsD_ok hps r2
    exact ⟨a :: ps, (p.1, w) :: us, rfl, .cons h1 h3, .cons ⟨rfl, h2⟩ h4⟩
theorem StrT.k {a : Addr} (h : StrT K ow H a) : MK.StrK K H a := by
  rcases h with ⟨o, xs, h, d, _⟩ | h
  · exact .inl ⟨o, _, h, d⟩
  · exact .inr h
end
section
variable {ca : CA} {X : Cx} {pos : Pos} {tg e a b c o : Expr} {es : List Expr}
def oDictT (m : M D) : M Ob := bind m fun x => lift (dictOf x)
theorem mo_dictT {m : M D} {p : Pos} (h : ME ca X e m) (hm : X.mg "dict" = none) (hc : X.calm = true := by rfl) (hg : Gl X "dict" := by rfl) (he : starEach [e] X.env = (false, eval e X.env) :: starEach [] X.env := by rfl) (hpl : (backTo pos (starEach [] X.env)).any (·.1) = false := by rfl) :
    MO ca X (.Call (.Name "dict" p) [e] [] pos) (oDictT m) := fun F W tk =>
  PE.imp (pe_callTy (MK.cr_dictT hc) hg hm (by decide +kernel) (pa_cons (h F W tk) pa_nil he) (by decide) (by decide) he hpl) fun σ H Q ⟨ow, env, R, g⟩ => go_bind R g fun x e1 v ow1 H1 g1 R1 p1 q1 => by
    obtain ⟨k, ek, q⟩ := lift_go q1
    unfold dictOf at ek
    split at ek
    · rename_i ds
      obtain ⟨hs, ek⟩ := ite_opt ek
      obtain ⟨kvs, hk, ek⟩ := Option.bind_eq_some_iff.mp ek
      obtain ⟨hn, rfl⟩ := ite_some ek
      have p1' : Rp X.K ow1 H1 (.tuple ds) v := p1
      unfold Rp at p1'
      obtain ⟨a, xs, rfl, ht, ra⟩ := p1'
      obtain ⟨ps, us, rfl, h3, h4⟩ := pairsD_ok hk ra
      refine ⟨a, ps, us, rfl, ht.sq, (ht.sg hs).k, h3, fun p hp => ?_⟩
      rw [merge_new us [] (by rw [List.map_nil, List.nil_append, h4.keys]; exact nodupK_ok hn), List.nil_append]
      obtain ⟨R2, L⟩ := R1.more (o := .dK us) hp
      exact q (.ref p) _ _ (Go.more R1 hp) R2 ⟨p, rfl, g1.dom _ hp, ⟨us, upd_same, h4.stp (stp_more hp)⟩, L⟩
    · cases ek
/-! ### k in d, d[k] -/
@[simp] def keysD : List (D × D) → Option (List (Key × D))
  | [] => some []
  | kd :: r => (keyOf kd.1).bind fun k => (keysD r).map fun ps => (k, kd.2) :: ps
@[simp] def dctOf : Sl → Option (List (Key × D))
  | .o _ (.dct kvs) => some kvs
  | .d (.dict kvs) => keysD kvs
  | _ => none
theorem keysD_ok {K : PySem.W.Frag} {ow : Addr → Prop} {H : Hp} : ∀ {kvs : List (D × D)} {ks : List (Key × D)} {us : List (Key × V)}, keysD kvs = some ks → RpK K ow H kvs us → RpE K ow H ks us
  | [], _, _, h, r => by
    cases h
    unfold RpK at r
    subst r
    exact .nil
  | kd :: kvs, _, _, h, r => by
    unfold keysD at h
    obtain ⟨k, hk, h⟩ := Option.bind_eq_some_iff.mp h
    obtain ⟨ps, hps, rfl⟩ := Option.map_eq_some_iff.mp h
    unfold RpK at r
    obtain ⟨k', v, us', rfl, ek, r1, r2⟩ := r
    have : k = k' := by
      rw [ek] at hk
      cases k' <;> (cases hk; rfl)
    subst this
    exact .cons ⟨rfl, r1⟩ (keysD_ok hps r2)
theorem dctOf_ok {K : PySem.W.Frag} {ow : Addr → Prop} {H : Hp} {s : Sl} {v : V} {kvs : List (Key × D)} (h : dctOf s = some kvs) (r : s ≠ .un → SvR K ca ow H s v) : ∃ a us, v = .ref a ∧ H a = some (.dK us) ∧ RpE K ow H kvs us := by
  unfold dctOf at h
  split at h
  · cases h
    obtain ⟨p, e, w, us, h1, h2⟩ := r (by simp)
    exact ⟨p, us, e, h1, h2⟩
  · have r' : Rp K ow H (.dict _) v := r (by simp)
    unfold Rp at r'
    obtain ⟨a, us, e, h1, _, h2⟩ := r'
    exact ⟨a, us, e, h1, keysD_ok h h2⟩
  · cases h
theorem RpE.val_none {K : PySem.W.Frag} {ow : Addr → Prop} {H : Hp} : ∀ {kvs : List (Key × D)} {us : List (Key × V)} {k : Key}, RpE K ow H kvs us → (valV us k).isSome = (valD kvs k).isSome
  | _, _, k, .nil => rfl
  | p :: kvs, q :: us, k, .cons h t => by
    by_cases hk : p.1 = k
    · have e1 : valD (p :: kvs) k = some p.2 := by simp [valD, List.find?_cons, hk]
      rw [e1, valV_pos (h.1.symm.trans hk)]; rfl
    · have e1 : valD (p :: kvs) k = valD kvs k := by simp [valD, List.find?_cons, hk]
      rw [e1, valV_neg (fun z => hk (h.1.trans z))]
      exact RpE.val_none t
def eDIn (neg : Bool) (my : M D) (md : M AV) : M D := bind my fun y => bindO (keyOf y) fun k => bind md fun d => fun e => lift ((dctOf (content e d)).map fun kvs => .bool (neg ^^ (valD kvs k).isSome)) e
theorem din_go {F : Fr} {W : WX} {my : M D} {md : M AV} {neg : Bool} {σ : L2.St} {H : Hp} {Q : VK} (h : tE X.K ca F W (eDIn neg my md) σ H Q) :
    tE X.K ca F W my σ H fun y H1 => tQ X.K ca F W md σ H1 fun x H2 => ∃ a o, x = .ref a ∧ DGet H2 a y o ∧ Q (.bl (neg ^^ o.isSome)) H2 := by
  obtain ⟨ow, env, R, g⟩ := h
  exact go_bind R g fun y e1 v ow1 H1 g1 R1 p1 q1 => by
    obtain ⟨k, ek, q1⟩ := bindO_go q1
    have ev := keyOf_ok ek p1
    subst ev
    exact go_bind R1 q1 fun d e2 u ow2 H2 g2 R2 p2 q2 => by
      obtain ⟨z, ez, q3⟩ := lift_go q2
      obtain ⟨kvs, hk, rfl⟩ := Option.map_eq_some_iff.mp ez
      obtain ⟨a, us, rfl, h1, h2⟩ := dctOf_ok hk fun n => p2.1.sv R2 n
      refine ⟨a, valV us k, rfl, DGet.k h1, ?_⟩
      rw [h2.val_none]
      exact q3 _ ow2 H2 Go.refl R2 rp_bool
theorem me_din {my : M D} {md : M AV} (hu : X.A.units + 1 < cLine) (hk : ME ca X a my) (hd : MQ ca X b md) (hm : behindInMarks .In b = false := by with_unfolding_all rfl) : ME ca X (.Compare a [.In] [b] pos) (eDIn false my md) := fun F W tk =>
  PE.imp (pe_cmp (pc_din hu (hk F W tk) (hd F W tk)) hm) fun σ H Q h => by
    have z := din_go h
    simp only [Bool.false_xor] at z
    exact z
theorem me_dnin {my : M D} {md : M AV} (hu : X.A.units + 1 < cLine) (hk : ME ca X a my) (hd : MQ ca X b md) (hm : behindInMarks .NotIn b = false := by with_unfolding_all rfl) : ME ca X (.Compare a [.NotIn] [b] pos) (eDIn true my md) := fun F W tk =>
  PE.imp (pe_cmp (pc_dnotin hu (hk F W tk) (hd F W tk)) hm) fun σ H Q h => by
    have z := din_go h
    simp only [Bool.true_xor] at z
    exact z
/-- d[k] -/
def eDGetQ (md : M AV) (my : M D) : M D := bind md fun d => bind my fun y => bindO (keyOf y) fun k => fun e => lift ((dctOf (content e d)).bind fun kvs => valD kvs k) e
theorem me_dgetQ {my : M D} {md : M AV} (hu : X.A.units + 1 < cLine) (hd : MQ ca X o md) (hk : ME ca X e my) (hs : NoSl e) : ME ca X (.Subscript o e pos) (eDGetQ md my) := fun F W tk =>
  PE.imp (pe_dget hu (hd F W tk) (hk F W tk) hs) fun σ H Q ⟨ow, env, R, g⟩ => go_bind R g fun d e1 v ow1 H1 g1 R1 p1 q1 => go_bind R1 q1 fun y e2 u ow2 H2 g2 R2 p2 q2 => by
    obtain ⟨k, ek, q2⟩ := bindO_go q2
    obtain ⟨z, ez, q3⟩ := lift_go q2
    obtain ⟨kvs, hk, hv⟩ := Option.bind_eq_some_iff.mp ez
    obtain ⟨a, us, rfl, h1, h2⟩ := dctOf_ok hk fun n => (p1.1.go g2).sv R2 n
    obtain ⟨w, hw, rw_⟩ := h2.val hv
    have eu := keyOf_ok ek p2
    refine ⟨a, w, rfl, ?_, q3 _ ow2 H2 Go.refl R2 rw_⟩
    rw [eu, ← hw]
    exact DGet.k h1
/-! ### l.extend(t) -/
def rExtA (K : PySem.W.Frag) : V → List V → Hp → VK → Prop := fun x vs H Q => rExtend x vs H Q ∨ ∃ l b xs zs, x = .ref l ∧ vs = [.ref b] ∧ H l = some (.lst xs) ∧ SqT K H b zs ∧ xs.length + zs.length ≤ sizeLine ∧ Q .non (upd H l (.lst (xs ++ zs)))
open PyProof.Rows in
theorem mt_extA : MtM X "list.extend" (rExtA X.K) := fun pins s σ H x vs v us Q I rx rv h => by
  rcases h with h | ⟨l, b, xs, zs, rfl, rfl, hH, hB, hz, q⟩
  · exact mt_extend pins s σ H x vs v us Q I rx rv h
  cases rx
  obtain ⟨u, rfl, ru⟩ := rv.one
  cases ru
  obtain ⟨z, its, n, r, hl, e⟩ := I.lstM hH
  obtain ⟨its2, r2, ⟨⟨c2, d2, t2, s2⟩, e2, hc, n2, hd⟩, z2⟩ := I.tuple hB
  simp only at hc hd
  subst hc hd
  have l1 := r.length
  have l2 := r2.length
  have fits : its.toArray.size + its2.toArray.size ≤ sizeLine := by rw [List.size_toArray, List.size_toArray]; omega
  refine call_meets PySem.F.slot_list_extend ⟨_, e, rfl⟩ PySem.F.entry_list_extend (PySem.F.args_list_extend_2 _ _) (MK.ext_tup l b its.toArray its2.toArray n n2 d2 s2 (by rw [notLongL fits, Bool.and_false]; exact Bool.false_ne_true) (by rw [List.size_toArray]; omega) (by omega)) ⟨e, e2, ?_⟩
  exact ⟨.non, _, I.lset (its' := its ++ its2) hH e (by simp) (r.append r2) (by rw [List.length_append]; omega), rfl, q⟩
@[simp] def fExtA : List D → List Sl → Option (D × List D) := fun xs ss => match ss with
  | [s] => (seqOf s).bind fun ys => if xs.length + ys.length ≤ LIM then some (.none, xs ++ ys) else none
  | _ => none
theorem mts_extA {K : PySem.W.Frag} {ca : CA} : MtS (ca := ca) K (rExtA K) fExtA := fun xs ss z ys ow H p vs us Q hf h1 w h2 h3 k => by
  unfold fExtA at hf
  split at hf
  · rename_i s
    obtain ⟨ys', ey, hf⟩ := Option.bind_eq_some_iff.mp hf
    obtain ⟨hl, e⟩ := ite_some hf
    cases e
    unfold SvA at h3
    obtain ⟨v, us', rfl, hv, t⟩ := h3
    unfold SvA at t
    subst t
    unfold seqOf at ey
    split at ey
    · cases ey
      have q : Rp K ow H (.list _) v := hv (by simp)
      unfold Rp at q
      obtain ⟨b, zs, rfl, h4, _, h5⟩ := q
      exact .inl ⟨p, b, vs, zs, rfl, rfl, h1, h4, lim_line (by rw [← h2.length, ← h5.length]; exact hl), k .non _ (by unfold Rp; rfl) (RpA.append h2 h5)⟩
    · cases ey
      obtain ⟨b, zs, rfl, h4, h5⟩ := sv_tup hv
      exact .inr ⟨p, b, vs, zs, rfl, rfl, h1, h4.sq, lim_line (by rw [← h2.length, ← h5.length]; exact hl), k .non _ (by unfold Rp; rfl) (RpA.append h2 h5)⟩
    · cases ey
      obtain ⟨b, rfl, _, zs, h4, h5⟩ := hv (by simp)
      exact .inl ⟨p, b, vs, zs, rfl, rfl, h1, h4, lim_line (by rw [← h2.length, ← h5.length]; exact hl), k .non _ (by unfold Rp; rfl) (RpA.append h2 h5)⟩
    · cases ey
  · cases hf
/-! ### l[::-1] -/
@[simp] def seqL : Sl → Option (List D)
  | .d (.list xs) => some xs
  | .o _ (.lst xs) => some xs
  | .sc ns => some (ns.map PyData.int)
  | _ => none
theorem rpA_ints {K : PySem.W.Frag} {ow : Addr → Prop} {H : Hp} : ∀ {ns : List Int}, RpA K ow H (ns.map PyData.int) (ns.map V.int)
  | [] => by unfold RpA; rfl
  | n :: ns => by
    show RpA K ow H (_ :: _) (_ :: _)
    unfold RpA
    exact ⟨_, _, rfl, rp_int, rpA_ints⟩
theorem seqL_ok {K : PySem.W.Frag} {ca : CA} {ow : Addr → Prop} {H : Hp} {s : Sl} {v : V} {xs : List D} (h : seqL s = some xs) (r : s ≠ .un → SvR K ca ow H s v) : ∃ a us, v = .ref a ∧ SqL K H a us ∧ RpA K ow H xs us := by
  unfold seqL at h
  split at h
  · cases h
    have r' : Rp K ow H (.list xs) v := r (by simp)
    unfold Rp at r'
    obtain ⟨a, us, e, h1, _, h2⟩ := r'
    exact ⟨a, us, e, SqL.of h1, h2⟩
  · cases h
    obtain ⟨p, e, w, us, h1, h2⟩ := r (by simp)
    exact ⟨p, us, e, SqL.of h1, h2⟩
  · cases h
    obtain ⟨a, e, h1⟩ := r (by simp)
    exact ⟨a, _, e, h1.sq, rpA_ints⟩
  · cases h
def oRevQ (m : M AV) : M Ob := bind m fun x => fun e => lift ((seqL (content e x)).map fun xs => Ob.lst xs.reverse) e
theorem mo_revQ {m : M AV} {k : Nat} {p1 p2 p3 : Pos} (h : MQ ca X e m) : MO ca X (.Subscript e (.Slice none none (some (.UnaryOp .USub (.Constant (.int 1) k p1) p2)) p3) pos) (oRevQ m) := fun F W tk =>
  PE.imp (pe_revL (h F W tk)) fun σ H Q ⟨ow, env, R, g⟩ => go_bind R g fun x e1 v ow1 H1 g1 R1 p1 q1 => by
    obtain ⟨z, ez, q⟩ := lift_go q1
    obtain ⟨xs, ex, rfl⟩ := Option.map_eq_some_iff.mp ez
    obtain ⟨a, us, rfl, h1, h2⟩ := seqL_ok ex fun n => p1.1.sv R1 n
    exact ⟨a, us, rfl, h1, fun p hp => go_new R1 q (fun x h => g1.dom x h) hp h2.reverse⟩
/-- slices of lists, the script too -/
@[simp] def gSlX (s : Sl) (lo hi : Option Int) : Option (List D) := (seqL s).map fun xs => cut xs lo hi
theorem s_slX {K : PySem.W.Frag} {ca : CA} : SlF K ca (rSlL K) gSlX := fun s lo hi z ow H v Q e r tr k => by
  obtain ⟨xs, hx, rfl⟩ := Option.map_eq_some_iff.mp e
  obtain ⟨a, us, rfl, h1, h2⟩ := seqL_ok hx r
  exact ⟨a, us, rfl, h1, fun p hp => k p _ hp h2.cut⟩
/-! ### isinstance(e, (T, U)) -/
@[simp] def eIsi2 (T U : String) (m : M D) : M D := bind m fun x => ret (.bool (isTy T x || isTy U x))
theorem me_isi2 {p p2 p3 tpos : Pos} {k : Nat} {T U : String} {m : M D} (h : ME ca X e m) (hm : X.mg "isinstance" = none) (hmT : X.mg (Str.ofString T) = none) (hmU : X.mg (Str.ofString U) = none) (hT : TyKnown T) (hU : TyKnown U) (hb : bootBuiltins (Str.ofString T) = some (.type T)) (hb2 : bootBuiltins (Str.ofString U) = some (.type U))
    (hg : Gl X "isinstance" := by rfl) (hgT : Gl X (Str.ofString T) := by rfl) (hgU : Gl X (Str.ofString U) := by rfl) (hnT : (Str.ofString T) ≠ "__name__" := by decide) (hdT : ((Str.ofString T) == ("__debug__" : Str)) = false := by decide) (hnU : (Str.ofString U) ≠ "__name__" := by decide) (hdU : ((Str.ofString U) == ("__debug__" : Str)) = false := by decide)
    (he1 : starEach [e, .Tuple [.Name (Str.ofString T) p2, .Name (Str.ofString U) p3] k tpos] X.env = (false, eval e X.env) :: starEach [.Tuple [.Name (Str.ofString T) p2, .Name (Str.ofString U) p3] k tpos] X.env := by rfl)
    (he2 : starEach [.Tuple [.Name (Str.ofString T) p2, .Name (Str.ofString U) p3] k tpos] X.env = (false, eval (.Tuple [.Name (Str.ofString T) p2, .Name (Str.ofString U) p3] k tpos) X.env) :: starEach [] X.env := by rfl)
    (he3 : starEach [.Name (Str.ofString T) p2, .Name (Str.ofString U) p3] X.env = (false, eval (.Name (Str.ofString T) p2) X.env) :: starEach [.Name (Str.ofString U) p3] X.env := by rfl)
    (he4 : starEach [.Name (Str.ofString U) p3] X.env = (false, eval (.Name (Str.ofString U) p3) X.env) :: starEach [] X.env := by rfl)
    (hpl : (backTo pos (starEach [.Tuple [.Name (Str.ofString T) p2, .Name (Str.ofString U) p3] k tpos] X.env)).any (·.1) = false := by rfl) :
    ME ca X (.Call (.Name "isinstance" p) [e, .Tuple [.Name (Str.ofString T) p2, .Name (Str.ofString U) p3] k tpos] [] pos) (eIsi2 T U m) := fun F W tk =>
  PE.imp (pe_callB call_isiT hg hm (by decide +kernel) (pa_cons (h F W tk) (pa_cons (pe_tup (pa_cons (pe_bltn (v := .ty T) hgT hmT hb rfl hnT hdT) (pa_cons (pe_bltn (v := .ty U) hgU hmU hb2 rfl hnU hdU) pa_nil he4) he3)) pa_nil he2) he1) (by decide) (by decide) he1 hpl) fun σ H Q ⟨ow, env, R, g⟩ => go_bind R g fun x e1 v ow1 H1 g1 R1 p1 q1 => by
    refine ⟨by show 2 ≤ sizeLine; rw [sizeLine_eq]; decide, fun q hq => ?_⟩
    have gr : Gr H1 (upd H1 q (.tup [.ty T, .ty U])) := Gr.new hq
    refine ⟨v, q, [.ty T, .ty U], .type (tyName x), [.type T, .type U], _, rfl, upd_same, .cons (.ty T) (.cons (.ty U) .nil), tyX_of (Rp.stp gr.stp _ _ p1), kitAny_cons (kit_ty (hT _ (tyName_mem x))) (fun hf => kitAny_cons (kit_ty (hU _ (tyName_mem x))) (fun hf2 => ?_) (fun ht => ?_)) (fun ht => ?_), q1 _ ow1 _ (Go.gr R1 gr) (R1.gr gr) rp_bool⟩
    · show some false = some (isTy T x || isTy U x)
      have a : isTy T x = false := hf
      have b : isTy U x = false := hf2
      rw [a, b]; rfl
    · have b : isTy U x = true := ht
      rw [b, Bool.or_true]
    · have b : isTy T x = true := ht
      rw [b, Bool.true_or]
end
end ML
end

section
set_option Elab.async false
set_option linter.all false
set_option maxRecDepth 100000
set_option maxHeartbeats 2000000
/-! # The order of data in the layer: <, sorted, min; repr of plain data; zip -/
namespace ML
open PySem PyProof.Rows L2
section
variable {K : PySem.W.Frag} {ca : CA}
theorem nn_of {x : D} (h : (!isNone x) = true) : x ≠ .none := fun e => by subst e; cases h
def ltOk (x y : D) : Bool := noDct x && noDct y && PySem.W.alike x y && !isNone x && decide (x.depth ≤ MK.DEEP)
@[simp] def gLtD (f : D → D → Bool) (s t : Sl) : Option D := (slD s).bind fun x => (slD t).bind fun y => if ltOk x y = true then some (.bool (f x y)) else none
theorem s_ltD {f : D → D → Bool} : OpS K ca (MK.rLtD K f) (gLtD f) := fun s t z ow H v1 v2 Q e r1 r2 tr k => by
  obtain ⟨x, ex, e⟩ := Option.bind_eq_some_iff.mp e
  obtain ⟨y, ey, e⟩ := Option.bind_eq_some_iff.mp e
  obtain ⟨h, rfl⟩ := ite_some e
  obtain ⟨h, h5⟩ := Bool.and_eq_true_iff.mp h
  obtain ⟨h, h4⟩ := Bool.and_eq_true_iff.mp h
  obtain ⟨h, h3⟩ := Bool.and_eq_true_iff.mp h
  obtain ⟨h1, h2⟩ := Bool.and_eq_true_iff.mp h
  exact ⟨x, y, slD_dp ex r1 h1, slD_dp ey r2 h2, h3, nn_of h4, of_decide_eq_true h5, k _ H Gr.refl rp_bool⟩
/-! ### sorted -/
@[simp] def isT1 : D → Bool
  | .tuple (_ :: _) => true
  | _ => false
@[simp] def notT : D → Bool
  | .none => false
  | .tuple _ => false
  | _ => true
def sortOk (xs : List D) : Bool := noDctA xs && (xs.all fun x => xs.all fun y => PySem.W.alike x y) && (xs.all isT1 || xs.all notT) && xs.all fun x => decide (x.depth ≤ MK.DEEP)
theorem sortOk_so {xs : List D} (h : sortOk xs = true) : noDctA xs = true ∧ PySem.W.AllAlike xs ∧ PySem.W.Sortable xs ∧ ∀ x ∈ xs, x.depth ≤ MK.DEEP := by
  obtain ⟨h, h4⟩ := Bool.and_eq_true_iff.mp h
  obtain ⟨h, h3⟩ := Bool.and_eq_true_iff.mp h
  obtain ⟨h1, h2⟩ := Bool.and_eq_true_iff.mp h
  refine ⟨h1, fun x hx y hy => List.all_eq_true.mp (List.all_eq_true.mp h2 x hx) y hy, ?_, fun x hx => of_decide_eq_true (List.all_eq_true.mp h4 x hx)⟩
  rcases Bool.or_eq_true_iff.mp h3 with h | h
  · refine .inl fun d hd => ?_
    have z := List.all_eq_true.mp h d hd
    unfold isT1 at z
    split at z
    · exact ⟨_, _, rfl⟩
    · cases z
  · refine .inr fun d hd => ?_
    have z := List.all_eq_true.mp h d hd
    constructor
    · intro e
      subst e
      cases z
    · intro ys e
      subst e
      cases z
theorem RpA.zip_dp {ow : Addr → Prop} {H : Hp} : ∀ {ds : List D} {us : List V}, RpA K ow H ds us → noDctA ds = true → (ds.zip us).map (·.1) = ds ∧ (ds.zip us).map (·.2) = us ∧ ∀ b ∈ ds.zip us, Dp K H b.2 b.1 ∧ Rp K ow H b.1 b.2
  | [], _, h, _ => by
    unfold RpA at h
    subst h
    exact ⟨rfl, rfl, fun b hb => by cases hb⟩
  | d :: ds, _, h, n => by
    unfold RpA at h
    unfold noDctA at n
    obtain ⟨v, us, rfl, h1, h2⟩ := h
    obtain ⟨n1, n2⟩ := Bool.and_eq_true_iff.mp n
    obtain ⟨e1, e2, k⟩ := RpA.zip_dp h2 n2
    refine ⟨by rw [List.zip_cons_cons, List.map_cons, e1], by rw [List.zip_cons_cons, List.map_cons, e2], fun b hb => ?_⟩
    rw [List.zip_cons_cons] at hb
    rcases List.mem_cons.mp hb with z | z
    · subst z; exact ⟨dp_of _ _ h1 n1, h1⟩
    · exact k b z
theorem rpA_of {ow : Addr → Prop} {H : Hp} : ∀ {bs : List (D × V)}, (∀ b ∈ bs, Rp K ow H b.1 b.2) → RpA K ow H (bs.map (·.1)) (bs.map (·.2))
  | [], _ => by
    show RpA K ow H [] []
    unfold RpA; rfl
  | b :: bs, h => by
    show RpA K ow H (b.1 :: bs.map (·.1)) (b.2 :: bs.map (·.2))
    unfold RpA
    exact ⟨_, _, rfl, h b List.mem_cons_self, rpA_of fun x hx => h x (List.mem_cons_of_mem _ hx)⟩
@[simp] def bSortD : List Sl → Option (List D)
  | [s] => (seqL s).bind fun xs => if sortOk xs = true then some (xs.mergeSort MK.leD) else none
  | _ => none
theorem b_sortD : BltF K ca (MK.rSortD K) bSortD := fun ss z ow H vs Q e h tr k => by
  unfold bSortD at e
  split at e
  · rename_i s
    obtain ⟨xs, ex, e⟩ := Option.bind_eq_some_iff.mp e
    obtain ⟨ho, rfl⟩ := ite_some e
    unfold SvA at h
    obtain ⟨v, us, rfl, hv, t⟩ := h
    unfold SvA at t
    subst t
    obtain ⟨a, us, rfl, h1, h2⟩ := seqL_ok ex hv
    obtain ⟨o1, o2, o3, o4⟩ := sortOk_so ho
    obtain ⟨e1, e2, kk⟩ := h2.zip_dp o1
    refine ⟨a, xs.zip us, rfl, by rw [e2]; exact h1, fun b hb => (kk b hb).1, by rw [e1]; exact o2, by rw [e1]; exact o3, fun b hb => o4 _ (by rw [← e1]; exact List.mem_map_of_mem hb), fun p hp => k p _ hp ?_⟩
    have ms : xs.mergeSort MK.leD = ((xs.zip us).mergeSort fun x y => MK.leD x.1 y.1).map (·.1) := by
      have z := List.map_mergeSort (r := fun x y : D × V => MK.leD x.1 y.1) (s := MK.leD) (f := (·.1)) (l := xs.zip us) (fun a _ b _ => rfl)
      rw [e1] at z
      exact z.symm
    rw [ms]
    exact rpA_of fun b hb => (kk b (List.mem_mergeSort.mp hb)).2
  · cases e
/-! ### min of a list -/
def minOk (xs : List D) : Bool := noDctA xs && (xs.all fun x => xs.all fun y => PySem.W.alike x y) && (xs.all fun x => !isNone x) && decide (PyData.depthAll xs ≤ MK.DEEP)
@[simp] def bMinD : List Sl → Option D
  | [s] => (seqL s).bind fun l => match l with
    | x :: xs => if minOk (x :: xs) = true then some (PySem.W.minD x xs) else none
    | [] => none
  | _ => none
theorem b_minD : BltS K ca (MK.rMinD K) bMinD := fun ss z ow H vs Q e h tr k => by
  unfold bMinD at e
  split at e
  · rename_i s
    obtain ⟨l, ex, e⟩ := Option.bind_eq_some_iff.mp e
    split at e
    · rename_i x xs
      obtain ⟨ho, rfl⟩ := ite_some e
      unfold SvA at h
      obtain ⟨v, us, rfl, hv, t⟩ := h
      unfold SvA at t
      subst t
      obtain ⟨a, us, rfl, h1, h2⟩ := seqL_ok ex hv
      obtain ⟨ho, o4⟩ := Bool.and_eq_true_iff.mp ho
      obtain ⟨ho, o3⟩ := Bool.and_eq_true_iff.mp ho
      obtain ⟨o1, o2⟩ := Bool.and_eq_true_iff.mp ho
      refine ⟨a, x, xs, us, rfl, h1, dpA_of _ _ h2 o1, ⟨fun x hx y hy => List.all_eq_true.mp (List.all_eq_true.mp o2 x hx) y hy, fun x hx => nn_of (List.all_eq_true.mp o3 x hx)⟩, of_decide_eq_true o4, fun i v d hi hd ed => k v H Gr.refl ?_⟩
      rw [← ed]
      exact h2.get hd hi
    · cases e
  · cases e
/-! ### repr -/
def rRepr : List V → Hp → VK → Prop := fun xs H Q => (∃ i, xs = [.int i] ∧ i.natAbs.log2 < 1920 ∧ Q (.str (toString i)) H) ∨ (∃ z, xs = [.str z] ∧ (reprText z).length ≤ sizeLine ∧ Q (.str (reprText z)) H) ∨ (∃ b, xs = [.bl b] ∧ Q (.str (if b then "True" else "False")) H) ∨ xs = [.non] ∧ Q (.str "None") H
theorem cr_repr {X : Cx} : CallR X (.builtin "repr") rRepr := fun pins s σ H xs us Q I r h => by
  rcases h with ⟨i, rfl, hz, q⟩ | ⟨z, rfl, hz, q⟩ | ⟨b, rfl, q⟩ | ⟨rfl, q⟩
  · obtain ⟨u, rfl, t, rfl⟩ := vals1 r
    exact PySem.P.repr_of_int hz ⟨.str _, H, I.tok _, ⟨_, rfl⟩, q⟩
  · obtain ⟨u, rfl, t, rfl⟩ := vals1 r
    exact PySem.P.repr_of_str ⟨.str _, H, I.tok _, ⟨_, rfl⟩, q⟩ hz
  · obtain ⟨u, rfl, ru⟩ := vals1 r
    obtain rfl : u = Value.bool b := ru
    exact PySem.P.repr_of_bool ⟨.str _, H, I.tok _, ⟨_, rfl⟩, q⟩
  · obtain ⟨u, rfl, ru⟩ := vals1 r
    obtain rfl : u = Value.none := ru
    exact PySem.P.repr_of_none ⟨.str _, H, I.tok _, ⟨_, rfl⟩, q⟩
@[simp] def bRepr : List Sl → Option D
  | [.d (.int i)] => if i.natAbs.log2 < 1920 then some (.str (toString i)) else none
  | [.d (.str z)] => if (reprText z).length ≤ LIM then some (.str (reprText z)) else none
  | [.d (.bool b)] => some (.str (if b then "True" else "False"))
  | [.d .none] => some (.str "None")
  | _ => none
theorem b_repr : BltS K ca rRepr bRepr := fun ss z ow H vs Q e h tr k => by
  unfold bRepr at e
  split at e
  · obtain ⟨hl, rfl⟩ := ite_some e
    unfold SvA at h
    obtain ⟨v, us, rfl, hv, t⟩ := h
    unfold SvA at t
    subst t
    exact .inl ⟨_, by rw [sv_int hv], hl, k _ H Gr.refl rp_str⟩
  · obtain ⟨hl, rfl⟩ := ite_some e
    unfold SvA at h
    obtain ⟨v, us, rfl, hv, t⟩ := h
    unfold SvA at t
    subst t
    exact .inr (.inl ⟨_, by rw [sv_str hv], lim_line hl, k _ H Gr.refl rp_str⟩)
  · cases e
    unfold SvA at h
    obtain ⟨v, us, rfl, hv, t⟩ := h
    unfold SvA at t
    subst t
    exact .inr (.inr (.inl ⟨_, by rw [sv_bool hv], k _ H Gr.refl rp_str⟩))
  · cases e
    unfold SvA at h
    obtain ⟨v, us, rfl, hv, t⟩ := h
    unfold SvA at t
    subst t
    have ev : v = .non := by
      have q : Rp K ow H .none v := hv (by simp)
      unfold Rp at q
      exact q
    subst ev
    exact .inr (.inr (.inr ⟨rfl, k _ H Gr.refl rp_str⟩))
  · cases e
/-! ### zip -/
def zipD : List D → List D → List D
  | x :: xs, y :: ys => .tuple [x, y] :: zipD xs ys
  | _, _ => []
theorem zipD_get : ∀ (xs ys : List D) (i : Nat), (zipD xs ys)[i]? = (xs[i]?).bind fun x => (ys[i]?).map fun y => .tuple [x, y]
  | [], ys, i => by unfold zipD; simp
  | x :: xs, [], i => by unfold zipD; cases (x :: xs)[i]? <;> simp
  | x :: xs, y :: ys, 0 => by unfold zipD; rfl
  | x :: xs, y :: ys, i + 1 => by
    unfold zipD
    rw [List.getElem?_cons_succ, List.getElem?_cons_succ, List.getElem?_cons_succ, zipD_get xs ys i]
theorem zipD_len : ∀ (xs ys : List D), (zipD xs ys).length = min xs.length ys.length
  | [], ys => by unfold zipD; simp
  | x :: xs, [] => by unfold zipD; simp
  | x :: xs, y :: ys => by
    unfold zipD
    rw [List.length_cons, List.length_cons, List.length_cons, zipD_len xs ys]
    omega
def pairOk : D → Bool
  | .tuple ds => !sigD ds
  | _ => false
theorem pairZ {x y : D} {xs ys : List D} {i : Nat} (hok : (zipD xs ys).all pairOk = true) (h : (zipD xs ys)[i]? = some (.tuple [x, y])) : sigD [x, y] = false := by
  have z := List.all_eq_true.mp hok _ (List.mem_of_getElem? h)
  have z : (!sigD [x, y]) = true := z
  cases hs : sigD [x, y] with
  | false => rfl
  | true =>
    rw [hs] at z
    cases z
theorem rp_pair {ow : Addr → Prop} {H : Hp} {xs ys : List D} {us ws : List V} {i : Nat} {x y : V} {d : D} {T : Addr} (hok : (zipD xs ys).all pairOk = true) (r1 : RpA K ow H xs us) (r2 : RpA K ow H ys ws) (hx : us[i]? = some x) (hy : ws[i]? = some y) (tr : Trk ow H) (hT : H T = none) (hd : (zipD xs ys)[i]? = some d) : Rp K ow (upd H T (.tup [x, y])) d (.ref T) := by
  have hd2 := hd
  rw [zipD_get] at hd
  obtain ⟨a, ha, hd⟩ := Option.bind_eq_some_iff.mp hd
  obtain ⟨b, hb, rfl⟩ := Option.map_eq_some_iff.mp hd
  unfold Rp
  refine ⟨T, _, rfl, .weak upd_same (fun z => by obtain ⟨o, ho⟩ := tr T z; rw [hT] at ho; cases ho) (pairZ hok hd2), ?_⟩
  unfold RpA
  refine ⟨_, _, rfl, (r1.get ha hx).stp (Gr.new hT).stp, ?_⟩
  unfold RpA
  exact ⟨_, _, rfl, (r2.get hb hy).stp (Gr.new hT).stp, by unfold RpA; rfl⟩
theorem wk_zipL {ow : Addr → Prop} {H : Hp} {a b : Addr} {us ws : List V} {xs ys : List D} (h : H a = some (.lst us)) (n : ¬ ow a) (h2 : H b = some (.lst ws)) (n2 : ¬ ow b) (r : RpA K ow H xs us) (r2 : RpA K ow H ys ws) (hok : (zipD xs ys).all pairOk = true) : Wk K (Itz K a b) (zipD xs ys) ow H := by
  refine ⟨fun ow H => (H a = some (.lst us) ∧ ¬ ow a ∧ RpA K ow H xs us) ∧ (H b = some (.lst ws) ∧ ¬ ow b ∧ RpA K ow H ys ws), ⟨⟨h, n, r⟩, h2, n2, r2⟩, fun ow1 H1 ow2 H2 st ⟨⟨h, n, r⟩, h2, n2, r2⟩ => ⟨⟨(st a _ h n nt_lst).1, (st a _ h n nt_lst).2, r.stp st⟩, (st b _ h2 n2 nt_lst).1, (st b _ h2 n2 nt_lst).2, r2.stp st⟩, fun i ow H ⟨⟨h, n, r⟩, h2, n2, r2⟩ tr hi => ?_, fun i ow H ⟨⟨h, n, r⟩, h2, n2, r2⟩ hi => ⟨us, ws, SqL.of h, SqL.of h2, ?_⟩⟩
  · rw [zipD_len] at hi
    obtain ⟨x, hx⟩ := some_of_lt (xs := us) (i := i) (by rw [← r.length]; omega)
    obtain ⟨y, hy⟩ := some_of_lt (xs := ws) (i := i) (by rw [← r2.length]; omega)
    refine ⟨⟨us, ws, x, y, SqL.of h, SqL.of h2, hx, hy⟩, fun v H' ⟨T, x', y', ev, hT, eH, k1, k2⟩ => ?_⟩
    subst ev eH
    have e1 := k1 us (SqL.of h)
    have e2 := k2 ws (SqL.of h2)
    exact ⟨Gr.new hT, fun d hd => rp_pair hok r r2 e1 e2 tr hT hd⟩
  · rw [zipD_len] at hi
    have l1 := r.length
    have l2 := r2.length
    omega
theorem wk_zipT {ow : Addr → Prop} {H : Hp} {a b : Addr} {us ws : List V} {xs ys zs zs2 : List D} (h : TupAt K ow H zs a us) (h2 : TupAt K ow H zs2 b ws) (r : RpA K ow H xs us) (r2 : RpA K ow H ys ws) (hok : (zipD xs ys).all pairOk = true) : Wk K (RZ.ItzT K a b) (zipD xs ys) ow H := by
  refine ⟨fun ow H => (TupAt K ow H zs a us ∧ RpA K ow H xs us) ∧ (TupAt K ow H zs2 b ws ∧ RpA K ow H ys ws), ⟨⟨h, r⟩, h2, r2⟩, fun ow1 H1 ow2 H2 st ⟨⟨h, r⟩, h2, r2⟩ => ⟨⟨h.stp st, r.stp st⟩, h2.stp st, r2.stp st⟩, fun i ow H ⟨⟨h, r⟩, h2, r2⟩ tr hi => ?_, fun i ow H ⟨⟨h, r⟩, h2, r2⟩ hi => ⟨us, ws, h.sq, h2.sq, ?_⟩⟩
  · rw [zipD_len] at hi
    obtain ⟨x, hx⟩ := some_of_lt (xs := us) (i := i) (by rw [← r.length]; omega)
    obtain ⟨y, hy⟩ := some_of_lt (xs := ws) (i := i) (by rw [← r2.length]; omega)
    refine ⟨⟨us, ws, x, y, h.sq, h2.sq, hx, hy⟩, fun v H' ⟨T, x', y', ev, hT, eH, k1, k2⟩ => ?_⟩
    subst ev eH
    have e1 := k1 us h.sq
    have e2 := k2 ws h2.sq
    exact ⟨Gr.new hT, fun d hd => rp_pair hok r r2 e1 e2 tr hT hd⟩
  · rw [zipD_len] at hi
    have l1 := r.length
    have l2 := r2.length
    omega
@[simp] def zipOf : List AV → Option (List D)
  | [.d (.list xs), .d (.list ys)] => if (zipD xs ys).all pairOk = true then some (zipD xs ys) else none
  | [.d (.tuple xs), .d (.tuple ys)] => if (zipD xs ys).all pairOk = true then some (zipD xs ys) else none
  | _ => none
def iZip (m : M (List AV)) : M (List D) := bind m fun as => lift (zipOf as)
theorem mi_zip {X : Cx} {e e2 : Expr} {pos : Pos} {m : M (List AV)} {p tpos : Pos} {elts : List Expr} {kk : Nat} (h : MA ca X [e, e2] m) (hm : X.mg "zip" = none) (hg : Gl X "zip" := by rfl)
    (hs : starEach [e, e2] X.env = (false, eval e X.env) :: starEach [e2] X.env := by rfl) (hpl : (backTo pos (starEach [e2] X.env)).any (·.1) = false := by rfl) :
    MI ca X (.Tuple elts kk tpos) (.Call (.Name "zip" p) [e, e2] [] pos) (iZip m) := fun F W tk =>
  PI.imp (RZ.pi_zipA hg hm (h F W tk) hs hpl) fun σ H R ⟨ow, env, rel, g⟩ => by
    refine ⟨ow, env, rel, ?_⟩
    unfold iZip bind at g
    cases hq : m env with
    | ok as e1 =>
      rw [hq] at g
      rintro vs ow1 H1 g1 R1 p1
      dsimp only at g
      unfold lift at g
      have p1' : AvA X.K ca F H ow1 H1 e1 σ as vs := p1
      cases hz : zipOf as with
      | none => rw [hz] at g; exact g.elim
      | some ds =>
        rw [hz] at g
        unfold zipOf at hz
        split at hz
        · obtain ⟨hok, rfl⟩ := ite_some hz
          unfold AvA at p1'
          obtain ⟨v, us, rfl, ra, fa, t⟩ := p1'
          unfold AvA at t
          obtain ⟨w, us2, rfl, rb, fb, t2⟩ := t
          unfold AvA at t2
          subst t2
          have ra' : Rp X.K ow1 H1 (.list _) v := ra
          have rb' : Rp X.K ow1 H1 (.list _) w := rb
          unfold Rp at ra' rb'
          obtain ⟨a, us, rfl, h1, n1, q1⟩ := ra'
          obtain ⟨b, ws, rfl, h2, n2, q2⟩ := rb'
          exact ⟨a, b, us, ws, rfl, .inl ⟨SqL.of h1, SqL.of h2, g _ ow1 H1 g1 R1 (wk_zipL h1 n1 h2 n2 q1 q2 hok)⟩⟩
        · obtain ⟨hok, rfl⟩ := ite_some hz
          unfold AvA at p1'
          obtain ⟨v, us, rfl, ra, fa, t⟩ := p1'
          unfold AvA at t
          obtain ⟨w, us2, rfl, rb, fb, t2⟩ := t
          unfold AvA at t2
          subst t2
          have ra' : Rp X.K ow1 H1 (.tuple _) v := ra
          have rb' : Rp X.K ow1 H1 (.tuple _) w := rb
          unfold Rp at ra' rb'
          obtain ⟨a, us, rfl, h1, q1⟩ := ra'
          obtain ⟨b, ws, rfl, h2, q2⟩ := rb'
          exact ⟨a, b, us, ws, rfl, .inr ⟨h1.sq, h2.sq, g _ ow1 H1 g1 R1 (wk_zipT h1 h2 q1 q2 hok)⟩⟩
        · cases hz
    | ex c e1 => rw [hq] at g; exact g
    | bad => rw [hq] at g; exact g
end
end ML
end

section
set_option Elab.async false
set_option linter.all false
set_option maxRecDepth 100000
set_option maxHeartbeats 2000000
/-! # A def that calls itself -/
namespace ML
open PySem L2
open PyProof.Rows (envOfC)
section
variable {P : Program} {w : World} {K : PySem.W.Frag} {mg : Str → Option Value} {base : Heap} {ca : CA}
theorem calBad {x qual : Str} {params : Arguments} {body : List Stmt} {scope : Scope} {f : Addr} {fd : FuncData} {N ps : List Str} {k : Nat} (Fn : FunD K x qual params body scope [] [] f fd) (hm : mg x = some (.ref f)) (S : FnScope N ps scope)
    (hb : ∀ (kV doc pm : Value) (an : Option Addr) (cdv ct : Value) (us : List Value), us.length = ps.length → bindArgs (PySem.W.fnOf x qual params body scope .none kV doc pm an cdv ct) ⟨us, []⟩ = pure (ps.zip us)) :
    Cal P w K mg base ca (k + 1) x ps.length (fun _ => .bad) :=
  ⟨f, fd, ps, hm, Fn.kp, Fn.bindsN hb, Fn.ok S (fun vs H Q E ⟨_, _, h, _⟩ => h) fun cdv A outer s H vs Q E hr ⟨ow, args, hv, AO, tr, g⟩ => g.elim⟩
end
end ML
end

section
set_option Elab.async false
set_option linter.all false
set_option maxRecDepth 100000
set_option maxHeartbeats 2000000
/-! # What is known of a def that calls what it got -/
namespace ML
open PySem L2 LamX He
theorem saidD {X : Cx} {x a : Str} {g : Addr} {fd : FuncData} {pg : Arguments} {Ng : List Str} {sg : Scope} {bg : List Stmt} {l : List (Value × Str)} {kT : V → Hp → VK → Prop} {kW : Str → Hp → VK → Prop} (hm : X.mg x = some (.ref g)) (F : FunD X.K x x pg bg sg [] [] g fd) (S : FnScope Ng [a] sg)
    (hb : ∀ (kV doc pm : Value) (an : Option Addr) (cdv ct : Value) (us : List Value), us.length = [a].length → bindArgs (PySem.W.fnOf x x pg bg sg .none kV doc pm an cdv ct) ⟨us, []⟩ = pure ([a].zip us)) (at0 : Ng[0]? = some a := by rfl) (vis : Vis sg a := by first | exact Or.inl rfl | exact Or.inr (Or.inl rfl) | exact Or.inr (Or.inr rfl)) :
    SaidD X x a Ng sg bg l kT kW := by
  have B := F.bindsN hb
  obtain ⟨oc, od, dV, kV, doc, pm, an, cdv, ct, osl, e1, lk, hcd, _, _⟩ := F.ex
  subst e1
  exact ⟨⟨g, pg, dV, kV, doc, pm, cdv, ct, oc, an, od, osl, hm, F.kp, lk, hcd, B⟩, S, at0, vis⟩
section
variable {ca : CA} {X : Cx} {pos : Pos} {a b c : Expr}
/-- what a test asks of a value -/
theorem tB_of {K : PySem.W.Frag} {F : Fr} {W : WX} {m : M D} {σ : L2.St} {H : Hp} {Q : Bool → Hp → Prop} (h : tT K ca F W (tB_ m) σ H Q) : tE K ca F W m σ H (fun x H' => ∃ k, x = .bl k ∧ Q k H') := by
  obtain ⟨ow, env, R, g⟩ := h
  exact go_bind R g fun x e1 v1 ow1 H1 g1 R1 p1 q1 => by
    obtain ⟨z, ez, q⟩ := lift_go q1
    have ed := dB_some ez
    subst ed
    have p1' : Rp K ow1 H1 (.bool z) v1 := p1
    unfold Rp at p1'
    exact ⟨z, p1', q z ow1 H1 Go.refl R1 rfl⟩
theorem mt_din {my : M D} {md : M AV} (hu : X.A.units + 1 < cLine) (hk : ME ca X a my) (hd : MQ ca X b md) (hm : behindInMarks .In b = false := by with_unfolding_all rfl) : MT ca X (.Compare a [.In] [b] pos) (tB_ (eDIn false my md)) := fun F W tk =>
  PT.imp (pt_cmp (pc_din hu (hk F W tk) (hd F W tk)) hm) fun σ H Q h => by
    have z := din_go (tB_of h)
    simp only [Bool.false_xor] at z
    exact z
theorem mt_dnin {my : M D} {md : M AV} (hu : X.A.units + 1 < cLine) (hk : ME ca X a my) (hd : MQ ca X b md) (hm : behindInMarks .NotIn b = false := by with_unfolding_all rfl) : MT ca X (.Compare a [.NotIn] [b] pos) (tB_ (eDIn true my md)) := fun F W tk =>
  PT.imp (pt_cmp (pc_dnotin hu (hk F W tk) (hd F W tk)) hm) fun σ H Q h => by
    have z := din_go (tB_of h)
    simp only [Bool.true_xor] at z
    exact z
theorem chain_go {K : PySem.W.Frag} {F : Fr} {W : WX} {r r' : R2} {g g' : Sl → Sl → Option D} {ma mb mc : M AV} {σ : L2.St} {H : Hp} {Q : VK} (hs : OpS K ca r g) (hs' : OpS K ca r' g') (h : tE K ca F W (eChain g g' ma mb mc) σ H Q) : tChain r r' (tQ K ca F W ma) (tQ K ca F W mb) (tQ K ca F W mc) σ H Q := by
  obtain ⟨ow, env, R, gg⟩ := h
  exact go_bind R gg fun x e1 v1 ow1 H1 g1 R1 p1 q1 => go_bind R1 q1 fun y e2 v2 ow2 H2 g2 R2 p2 q2 => by
      cases hd : (g (content e2 x) (content e2 y)).bind dB with
      | none => simp only [hd] at q2; exact q2.elim
      | some k =>
        obtain ⟨d, ed, ez⟩ := Option.bind_eq_some_iff.mp hd
        have ed' := dB_some ez
        subst ed'
        refine hs _ _ _ ow2 H2 v1 v2 _ ed (fun n => (p1.1.go g2).sv R2 n) (fun n => p2.1.sv R2 n) R2.trk fun v H' gr rp => ?_
        unfold Rp at rp
        refine ⟨k, rp, ?_⟩
        have R3 := R2.gr gr
        have g3 := Go.gr R2 gr
        cases k with
        | true =>
          rw [if_pos rfl]
          simp only [hd] at q2
          exact go_bind R3 (q2.mono g3) fun z e4 v4 ow4 H4 g4 R4 p4 q4 => by
            obtain ⟨w, ew, q⟩ := lift_go q4
            exact hs' _ _ w ow4 H4 v2 v4 Q ew (fun n => ((p2.1.go g3).go g4).sv R4 n) (fun n => p4.1.sv R4 n) R4.trk fun v H' gr rp => go_val R4 q gr rp
        | false =>
          rw [if_neg Bool.false_ne_true]
          simp only [hd] at q2
          exact q2 (.bl false) ow2 H' g3 R3 (by show Rp _ _ _ (.bool false) _; unfold Rp; rfl)
theorem mt_chain {op op' : CmpOp} {r r' : R2} {g g' : Sl → Sl → Option D} {ma mb mc : M AV} (ho : OpR X (compareOp op) r) (hs : OpS X.K ca r g) (ho' : OpR X (compareOp op') r') (hs' : OpS X.K ca r' g') (ha : MQ ca X a ma) (hb : MQ ca X b mb) (hc : MQ ca X c mc)
    (hm : lastMarks [op, op'] [b, c] = false := by with_unfolding_all rfl) : MT ca X (.Compare a [op, op'] [b, c] pos) (tB_ (eChain g g' ma mb mc)) := fun F W tk =>
  PT.imp (pt_chain ho ho' (ha F W tk) (hb F W tk) (hc F W tk) hm) fun σ H Q h => chain_go hs hs' (tB_of h)
end
end ML
end

section
set_option Elab.async false
set_option linter.all false
set_option maxRecDepth 100000
set_option maxHeartbeats 2000000
/-! # list(text), list of the script -/
namespace ML
open PySem L2
theorem vals_chars {z : Str} : ∀ (cs : List Nat) (us : List Value), us.length = cs.length → (∀ (j : Nat) (u : Value), us[j]? = some u → ∃ (c : Nat) (t : Tok), cs[j]? = some c ∧ u = Value.str ⟨#[c]⟩ t) → Vals (cs.map fun c => V.str (sign c)) us
  | [], [], _, _ => .nil
  | [], _ :: _, h, _ => by simp at h
  | _ :: _, [], h, _ => by simp at h
  | c :: cs, u :: us, h, k => by
    obtain ⟨c', t, e1, e2⟩ := k 0 u rfl
    cases e1
    exact .cons ⟨t, e2⟩ (vals_chars (z := z) cs us (by simpa using h) fun j u h => k (j + 1) u h)
def rListA (K : PySem.W.Frag) : List V → Hp → VK → Prop := fun xs H Q => (∃ p ys, xs = [.ref p] ∧ (SqL K H p ys ∨ SqT K H p ys) ∧ ∀ l, H l = none → Q (.ref l) (upd H l (.lst ys))) ∨
  ∃ z : Str, xs = [.str z] ∧ z.length ≤ sizeLine ∧ ∀ l, H l = none → Q (.ref l) (upd H l (.lst (z.cps.toList.map fun c => V.str (sign c))))
theorem cr_listA {X : Cx} (hc : X.calm = true) : CallR X (.type "list") (rListA X.K) := fun pins s σ H xs us Q I r h => by
  rcases h with h | ⟨z, rfl, hz, q⟩
  · exact call_list_of pins s σ H xs us Q I r h
  · obtain ⟨u, rfl, t, rfl⟩ := vals1 r
    refine PySem.call_list_str (I.ok.hd hc) z t (fun h' tk acc' c' kp e hi => ?_) (show z.length ≤ sizeLine from hz)
    have rv : Vals (z.cps.toList.map fun c => V.str (sign c)) acc'.toList := vals_chars (z := z) _ _ (by rw [Array.length_toList, Array.length_toList]; exact hi.1) fun j u hu => by
      obtain ⟨c, t, h1, h2⟩ := hi.2 j u (by rw [← Array.getElem?_toList]; exact hu)
      exact ⟨c, t, by rw [Array.getElem?_toList]; exact h1, h2⟩
    refine ⟨.ref s.heap.objs.size, _, I.laid (t' := tk) kp (Nat.le_refl _) (show ObjOk X.prog X.w _ h' _ (.lst _) from ⟨?_, acc'.toList, c', rv, ?_⟩), rfl, q _ (I.hok.fresh (Nat.le_refl _))⟩
    · rw [List.length_map, Array.length_toList]; exact hz
    · rw [Array.toArray_toList]; exact e
@[simp] def bListA : List Sl → Option (List D)
  | [.d (.str z)] => if z.length ≤ LIM then some (z.cps.toList.map fun c => .str (sign c)) else none
  | [.sc ns] => some (ns.map PyData.int)
  | [s] => seqOf s
  | _ => none
theorem rpA_signs {K : PySem.W.Frag} {ow : Addr → Prop} {H : Hp} : ∀ {cs : List Nat}, RpA K ow H (cs.map fun c => PyData.str (sign c)) (cs.map fun c => V.str (sign c))
  | [] => by unfold RpA; rfl
  | c :: cs => by
    show RpA K ow H (_ :: _) (_ :: _)
    unfold RpA
    exact ⟨_, _, rfl, rp_str, rpA_signs⟩
theorem b_listA {K : PySem.W.Frag} {ca : CA} : BltF K ca (rListA K) bListA := fun ss z ow H vs Q e h tr k => by
  unfold bListA at e
  split at e
  · obtain ⟨hl, rfl⟩ := ite_some e
    obtain ⟨v, rfl, r⟩ := sva1 h
    exact .inr ⟨_, by rw [sv_str r], lim_line hl, fun l hl => k l _ hl rpA_signs⟩
  · cases e
    obtain ⟨v, rfl, r⟩ := sva1 h
    obtain ⟨a, rfl, h1⟩ := r (by simp)
    exact .inl ⟨a, _, rfl, .inl h1.sq, fun l hl => k l _ hl rpA_ints⟩
  · obtain ⟨v, rfl, r⟩ := sva1 h
    obtain ⟨a, us, rfl, h1, h2⟩ := seqOf_ok e r
    exact .inl ⟨a, us, rfl, h1, fun l hl => k l us hl h2⟩
  · cases e
end ML
end

section
set_option Elab.async false
set_option linter.all false
set_option maxRecDepth 100000
set_option maxHeartbeats 2000000
/-! # A comprehension over an own list -/
namespace ML
open PySem L2
/-- a walk that leans on what is loose -/
def WkL (K : PySem.W.Frag) (J : It) (ds : List D) (ow1 : Addr → Prop) (H1 : Hp) (e1 : List Sl) (σ : St) : Prop :=
  ∀ (i : Nat) (ow2 : Addr → Prop) (H2 : Hp), Stp ow1 H1 ow2 H2 → (∀ p, ow1 p → ¬ IsT (H1 p) → ¬ Held e1 σ p → ow2 p ∧ H2 p = H1 p) → Trk ow2 H2 →
    (i < ds.length → J.go i H2 ∧ ∀ x H', J.yld i H2 x H' → Gr H2 H' ∧ ∀ d, ds[i]? = some d → Rp K ow2 H' d x) ∧ (ds.length ≤ i → J.stop i H2)
theorem lcW {K : PySem.W.Frag} {ca : CA} {F F' : Fr} {js vs : List Nat} {g : GF} {tt : M Bool} {te : M D} {J : It} {ds : List D} {ow1 : Addr → Prop} {H1 : Hp} {e1 : List Sl} {σ : St} {Dl : Addr} {Q : VK} (hjs : ∀ j ∈ js, j ∈ vs) (R1 : Rel K ca F ow1 e1 σ H1) (wk : WkL K J ds ow1 H1 e1 σ) (hD : H1 Dl = none)
    (nb0 : ∃ xs e2, compL g tt te vs ds [] (wipeE e1 vs) = .ok xs e2)
    (kfin : ∀ {ow2 : Addr → Prop} {H2 : Hp} {e2 : List Sl} {xs : List D} {acc : List V}, compL g tt te vs ds [] (wipeE e1 vs) = .ok xs e2 → Rel K ca F ow2 e2 (L2.wipe σ vs) H2 → Stp ow1 H1 ow2 H2 → (∀ p, ow1 p → ¬ IsT (H1 p) → ¬ Held e1 σ p → ow2 p ∧ H2 p = H1 p ∧ ¬ Held e2 (L2.wipe σ vs) p) → (∀ a, H2 a = none → H1 a = none) →
        H2 Dl = some (.lst acc) → RpA K ow2 H2 xs acc → Loose F ow2 e2 (L2.wipe σ vs) Dl → Q (.ref Dl) H2) :
    ∃ W : Nat → Nat → Hp → Prop, (∃ m, W 0 m (upd H1 Dl (.lst []))) ∧ ∀ i m H, W i m H →
      (J.stop i H ∧ Q (.ref Dl) H) ∨ (J.go i H ∧ ∃ Nx : Hp → Prop, (∀ H', Nx H' → ∃ m', m' < m ∧ W (i + 1) m' H') ∧ ∀ x H', J.yld i H x H' → (tGt K ca F js g) x (L2.wipe σ vs) H' fun σ2 H2 => L2.wipe σ2 vs = L2.wipe σ vs ∧ (tTs K ca F (fun _ _ _ _ => False) tt) σ2 H2 fun b H3 =>
        if b = true then (tE K ca F (fun _ _ _ _ => False) te) σ2 H3 fun y H4 => ∃ acc, H4 Dl = some (.lst acc) ∧ acc.length < sizeLine ∧ Nx (upd H4 Dl (.lst (acc ++ [y]))) else Nx H3) := by
    obtain ⟨rz, hrz⟩ : ∃ rz, compL g tt te vs ds [] (wipeE e1 vs) = rz := ⟨_, rfl⟩
    obtain ⟨R2, Lf⟩ := R1.more (o := .lst []) hD
    have hw : ∀ σ2 : St, σ2.length = (L2.wipe σ vs).length → (∀ i, i ∉ js → σ2[i]? = (L2.wipe σ vs)[i]?) → L2.wipe σ2 vs = L2.wipe σ vs := fun σ2 hl hf => by
      apply List.ext_getElem?
      intro i
      have key : ∀ (τ : St) (us : List Nat) (i : Nat), (L2.wipe τ us)[i]? = if i ∈ us then (if i < τ.length then some none else none) else τ[i]? := by
        intro τ us
        induction us with
        | nil => intro i; simp [L2.wipe]
        | cons u us ih =>
          intro i
          show ((L2.wipe τ us).set u none)[i]? = _
          by_cases hu : u = i
          · subst hu
            rw [if_pos List.mem_cons_self]
            by_cases hlt : u < τ.length
            · rw [if_pos hlt, List.getElem?_set_self (by rw [wipe_length]; exact hlt)]
            · rw [if_neg hlt, List.getElem?_eq_none (by rw [List.length_set, wipe_length]; omega)]
          · rw [List.getElem?_set_ne hu, ih i]
            by_cases hi : i ∈ us
            · rw [if_pos hi, if_pos (List.mem_cons_of_mem _ hi)]
            · rw [if_neg hi, if_neg (fun z => hi ((List.mem_cons.mp z).resolve_left fun z => hu z.symm))]
      rw [wipe_length] at hl
      rw [key, key, hl]
      by_cases hi : i ∈ vs
      · rw [if_pos hi, if_pos hi]
      · rw [if_neg hi, if_neg hi, hf i (fun z => hi (hjs i z)), key, if_neg hi]
    refine ⟨fun i m Hx => m = ds.length - i ∧ i ≤ ds.length ∧ ∃ ow2 e2 done acc, Rel K ca F ow2 e2 (L2.wipe σ vs) Hx ∧ Stp ow1 H1 ow2 Hx ∧ (∀ p, ow1 p → ¬ IsT (H1 p) → ¬ Held e1 σ p → ow2 p ∧ Hx p = H1 p ∧ ¬ Held e2 (L2.wipe σ vs) p) ∧ (∀ a, Hx a = none → H1 a = none) ∧
      Hx Dl = some (.lst acc) ∧ RpA K ow2 Hx done acc ∧ Loose F ow2 e2 (L2.wipe σ vs) Dl ∧ compL g tt te vs (ds.drop i) done e2 = rz, ⟨_, rfl, Nat.zero_le _, more ow1 Dl, wipeE e1 vs, [], [], R2.wipe vs, stp_more hD, fun p w nt n => ?_, fun a ha => ?_, upd_same, by unfold RpA; rfl, loose_of Lf.1 Lf.2.1 Lf.2.2.1 fun z => Lf.held (held_wipe z), hrz⟩, ?_⟩
    · refine ⟨.inl w, ?_, fun z => n (held_wipe z)⟩
      obtain ⟨u, hu⟩ := R1.trk p w
      exact upd_ne fun z => by rw [z, hD] at hu; cases hu
    · by_cases z : a = Dl
      · rw [z]; exact hD
      · rw [upd_ne z] at ha; exact ha
    rintro i m Hx ⟨rfl, hi2, ow2, e2, done, acc, R3, st, lo, dom, hacc, ra, L3, ec⟩
    by_cases hlt : i < ds.length
    · obtain ⟨d, hd⟩ := some_of_lt hlt
      have ed : ds.drop i = d :: ds.drop (i + 1) := by
        rw [List.drop_eq_getElem_cons hlt]
        have := List.getElem?_eq_getElem hlt
        rw [this] at hd
        cases hd; rfl
      rw [ed] at ec
      obtain ⟨jg, jy⟩ := (wk i ow2 Hx st (fun p w nt n => ⟨(lo p w nt n).1, (lo p w nt n).2.1⟩) R3.trk).1 hlt
      refine .inr ⟨jg, fun Hx => ∃ ow2 e2 done acc, Rel K ca F ow2 e2 (L2.wipe σ vs) Hx ∧ Stp ow1 H1 ow2 Hx ∧ (∀ p, ow1 p → ¬ IsT (H1 p) → ¬ Held e1 σ p → ow2 p ∧ Hx p = H1 p ∧ ¬ Held e2 (L2.wipe σ vs) p) ∧ (∀ a, Hx a = none → H1 a = none) ∧
        Hx Dl = some (.lst acc) ∧ RpA K ow2 Hx done acc ∧ Loose F ow2 e2 (L2.wipe σ vs) Dl ∧ compL g tt te vs (ds.drop (i + 1)) done e2 = rz, fun H' ⟨ow2, e2, done, acc, r⟩ => ⟨_, by omega, rfl, hlt, ow2, e2, done, acc, r⟩, fun x H' y => ?_⟩
      obtain ⟨gr, rp⟩ := jy x H' y
      have R4 := R3.gr gr
      have gogr := Go.gr R3 gr
      -- what is asked would be bad otherwise
      unfold compL at ec
      have nb : ∀ {r : ML.R (List D)}, r = rz → r ≠ .bad := fun {r} er z => by
        rw [z] at er
        rw [← er] at hrz
        obtain ⟨xs0, e0, q0⟩ := nb0
        rw [q0] at hrz
        cases hrz
      cases hg1 : g d e2 with
      | none => rw [hg1] at ec; exact absurd rfl (nb ec)
      | some e3 =>
        rw [hg1] at ec
        refine ⟨ow2, e2, d, e3, R4, rp d hd, hg1, fun σ4 hl4 hf4 R5 k5 => ⟨hw σ4 hl4 hf4, ow2, e3, R5, ?_⟩⟩
        dsimp only at ec
        cases ht : tt e3 with
        | ok b e4 =>
          rw [ht] at ec
          rintro b' ow5 H5 g5 R6 eb
          have eb' : b' = b := eb
          subst eb'
          have st5 : Stp ow1 H1 ow5 H5 := (st.trans gr.stp).trans g5.stp
          have wp : L2.wipe σ4 vs = L2.wipe σ vs := hw σ4 hl4 hf4
          have lo5 : ∀ p, ow1 p → ¬ IsT (H1 p) → ¬ Held e1 σ p → ow5 p ∧ H5 p = H1 p ∧ ¬ Held e4 σ4 p := fun p w nt n => by
            obtain ⟨a, b, c⟩ := lo p w nt n
            obtain ⟨a2, b2, c2⟩ := gogr.lo p a (by rw [b]; exact nt) c
            obtain ⟨a3, b3, c3⟩ := g5.lo p a2 (by rw [b2, b]; exact nt) fun z => c2 (k5 p z)
            exact ⟨a3, b3.trans (b2.trans b), c3⟩
          have dom5 : ∀ a, H5 a = none → H1 a = none := fun a ha => dom a (gogr.dom a (g5.dom a ha))
          have LD : Loose F ow5 e4 σ4 Dl ∧ H5 Dl = some (.lst acc) := by
            obtain ⟨l1, q1⟩ := L3.go gogr (noT_lst hacc)
            have l2 : Loose F ow2 e3 σ4 Dl := loose_of l1.1 l1.2.1 l1.2.2.1 fun z => l1.held (k5 Dl z)
            obtain ⟨l3, q3⟩ := l2.go g5 (noT_lst (by rw [q1]; exact hacc))
            exact ⟨l3, by rw [q3, q1, hacc]⟩
          have ra5 : RpA K ow5 H5 done acc := ra.stp (gr.stp.trans g5.stp)
          cases b' with
          | true =>
            rw [if_pos rfl]
            dsimp only at ec
            refine ⟨ow5, e4, R6, ?_⟩
            cases hte : te e4 with
            | ok y e5 =>
              rw [hte] at ec
              rintro v ow6 H6 g6 R7 r7
              obtain ⟨l6, q6⟩ := LD.1.go g6 (noT_lst LD.2)
              have hc : done.length < LIM := by
                by_cases z : done.length < LIM
                · exact z
                · simp only [if_neg z] at ec; exact absurd rfl (nb ec)
              simp only [if_pos hc] at ec
              have h6 : H6 Dl = some (.lst acc) := by rw [q6]; exact LD.2
              have ra6 : RpA K ow6 H6 done acc := ra5.stp g6.stp
              have sm : Stp ow6 H6 ow6 (upd H6 Dl (.lst (acc ++ [v]))) := stp_mut l6.1
              have R8 := (R7.mutL (o := .lst (acc ++ [v])) l6).wipe vs
              rw [wp] at R8
              refine ⟨acc, h6, lim_lt (by rw [← ra6.length]; exact hc), ow6, wipeE e5 vs, done ++ [y], acc ++ [v], R8, (st5.trans g6.stp).trans sm, fun p w nt n => ?_, fun a ha => ?_, upd_same, (RpA.snoc r7 ra6).stp sm, ?_, ec⟩
              · obtain ⟨a, b, c⟩ := lo5 p w nt n
                obtain ⟨a2, b2, c2⟩ := g6.lo p a (by rw [b]; exact nt) c
                refine ⟨a2, ?_, fun z => c2 (by rw [← wp] at z; exact held_wipe z)⟩
                obtain ⟨u, hu⟩ := R1.trk p w
                rw [upd_ne (fun z => by rw [z, hD] at hu; cases hu)]
                exact b2.trans b
              · by_cases z : a = Dl
                · rw [z]; exact hD
                · rw [upd_ne z] at ha; exact dom5 a (g6.dom a ha)
              · exact loose_of l6.1 l6.2.1 l6.2.2.1 fun z => l6.held (by rw [← wp] at z; exact held_wipe z)
            | ex c e5 => rw [hte] at ec; exact absurd rfl (nb ec)
            | bad => rw [hte] at ec; exact absurd rfl (nb ec)
          | false =>
            rw [if_neg Bool.false_ne_true]
            dsimp only at ec
            have R8 := R6.wipe vs
            rw [wp] at R8
            refine ⟨ow5, wipeE e4 vs, done, acc, R8, st5, fun p w nt n => ?_, dom5, LD.2, ra5, ?_, ec⟩
            · obtain ⟨a, b, c⟩ := lo5 p w nt n
              exact ⟨a, b, fun z => c (by rw [← wp] at z; exact held_wipe z)⟩
            · exact loose_of LD.1.1 LD.1.2.1 LD.1.2.2.1 fun z => LD.1.held (by rw [← wp] at z; exact held_wipe z)
        | ex c e4 => rw [ht] at ec; exact absurd rfl (nb ec)
        | bad => rw [ht] at ec; exact absurd rfl (nb ec)
    · have ei : i = ds.length := by omega
      subst ei
      rw [List.drop_length] at ec
      unfold compL at ec
      exact .inl ⟨(wk ds.length ow2 Hx st (fun p w nt n => ⟨(lo p w nt n).1, (lo p w nt n).2.1⟩) R3.trk).2 (Nat.le_refl _), kfin (hrz.trans ec.symm) R3 st lo dom hacc ra L3⟩
section
variable {ca : CA} {X : Cx} {pos : Pos} {tg elt : Expr}
/-- [.. for .. in l], l an own list of slot i -/
def oCompO (i : Nat) (g : GF) (tt : M Bool) (te : M D) (vs : List Nat) : M Ob := fun env => match env[i]? with
  | some (.o true (.lst xs)) => (match compL g tt te vs xs [] (wipeE (env.set i .un) vs) with
    | .ok ys e => .ok (.lst ys) ((restE (env.set i .un) e vs).set i (.o true (.lst xs)))
    | _ => .bad)
  | _ => .bad
theorem lc_own {K : PySem.W.Frag} {F : Fr} {W : WX} {F' : Fr} {i : Nat} {js vs : List Nat} {g : GF} {tt : M Bool} {te : M D} (hjs : ∀ j ∈ js, j ∈ vs) {σ : L2.St} {H : Hp} {Q : VK} (h : tO K ca F W (oCompO i g tt te vs) σ H Q) :
    tLc (iAny K fun σ H Q => ∃ v, σ[i]? = some (some v) ∧ Q v H) (tGt K ca F js g) (tTs K ca F (fun _ _ _ _ => False) tt) (tE K ca F (fun _ _ _ _ => False) te) vs σ H Q := by
  obtain ⟨ow, env, R, gg⟩ := h
  unfold oCompO at gg
  split at gg
  · rename_i xs hi
    obtain ⟨v, hv, sl⟩ := SlR.at R hi
    obtain ⟨p, rfl, w, ro, h0, n0⟩ := sl
    have ro' : OwnR K ca ow H p (.lst xs) := ro
    obtain ⟨us, hp, ra⟩ := ro
    have il : i < env.length := (List.getElem?_eq_some_iff.mp hi).1
    have ev : (σ.getD i none) = some (V.ref p) := by rw [List.getD_eq_getElem?_getD, hv]; rfl
    have es : σ.set i (σ.getD i none) = σ := by
      apply List.ext_getElem?
      intro j
      by_cases e : i = j
      · subst e
        rw [List.getElem?_set_self (by rw [← R.len]; exact il), ev, hv]
      · rw [List.getElem?_set_ne e]
    have R1 : Rel K ca F ow (env.set i .un) σ H := by
      have z := R.drop (i := i) (v := σ.getD i none)
      rw [es] at z
      exact z
    have nh : ¬ Held (env.set i .un) σ p := fun ⟨j, l, k, a, b⟩ => by
      by_cases e : i = j
      · subst e
        rw [List.getElem?_set_self il] at a; cases a
      · rw [List.getElem?_set_ne e] at a
        exact e (R.dis i j p true l _ k hi a hv b)
    have Lp : Loose F ow (env.set i .un) σ p := loose_of w h0 n0 nh
    cases hc : compL g tt te vs xs [] (wipeE (env.set i .un) vs) with
    | ok ys e2 =>
      rw [hc] at gg
      refine ⟨.ref p, hv, .inl ⟨p, rfl, ⟨us, SqL.of hp⟩, fun Dl hD => ?_⟩⟩
      have wk : WkL K (Itl K p) xs ow H (env.set i .un) σ := fun j ow2 H2 st lo tr => by
        obtain ⟨w2, e2⟩ := lo p w (noT_lst hp) nh
        have hp2 : H2 p = some (.lst us) := by rw [e2, hp]
        have ra2 := ra.stp st
        refine ⟨fun hj => ?_, fun hj => ⟨us, SqL.of hp2, by rw [← ra.length]; exact hj⟩⟩
        obtain ⟨x, hx⟩ := some_of_lt (xs := us) (i := j) (by rw [← ra.length]; exact hj)
        refine ⟨⟨us, x, SqL.of hp2, hx⟩, fun y H' ⟨e, q⟩ => ?_⟩
        subst e
        exact ⟨Gr.refl, fun d hd => ra2.get hd (q us (SqL.of hp2))⟩
      refine lcW (F' := F') hjs R1 wk hD ⟨ys, e2, hc⟩ fun {ow2 H2 e3 zs acc} hq R3 st lo dom hacc ra3 L3 => ?_
      rw [hc] at hq
      cases hq
      have R4 := Rel.rest (env0 := env.set i .un) (σ := σ) R3 (fun v x hv => by
        obtain ⟨u, hu, r⟩ := R1.data hv
        exact ⟨u, hu, r.stp st⟩) vs
      rw [restS_all] at R4
      have hr : ∀ {q : Addr}, Held (restE (env.set i .un) e2 vs) σ q → Held e2 (L2.wipe σ vs) q := fun {q} hp => held_rest (env0 := env.set i .un) (σ := σ) (vs := vs) (by rw [restS_all]; exact hp)
      obtain ⟨w3, e3', c3⟩ := lo p w (noT_lst hp) nh
      have Lp3 : Loose F ow2 (restE (env.set i .un) e2 vs) σ p := loose_of w3 h0 n0 fun z => c3 (hr z)
      have hp3 : H2 p = some (.lst us) := by rw [e3', hp]
      have R5 := R4.setO (i := i) (k := .lst xs) Lp3 ⟨us, hp3, ra.stp st⟩
      have es2 : σ.set i (some (.ref p)) = σ := by rw [← ev]; exact es
      rw [es2] at R5
      have hs : ∀ {q : Addr}, q ≠ p → Held ((restE (env.set i .un) e2 vs).set i (.o true (.lst xs))) σ q → Held (restE (env.set i .un) e2 vs) σ q := fun {q} hq ⟨j, l, k, a, b⟩ => by
        by_cases e : i = j
        · subst e
          rw [hv] at b
          exact absurd (by cases b; rfl) hq
        · rw [List.getElem?_set_ne e] at a
          exact ⟨j, l, k, a, b⟩
      have dp : Dl ≠ p := fun z => by rw [z, hp] at hD; cases hD
      have LD := loose_of (env := (restE (env.set i .un) e2 vs).set i (.o true (.lst xs))) (σ := σ) L3.1 L3.2.1 L3.2.2.1 fun z => L3.held (hr (hs dp z))
      refine gg (.ref Dl) ow2 H2 ⟨st, fun q wq nt nq => ?_, dom⟩ R5 ⟨Dl, rfl, hD, ⟨acc, hacc, ra3⟩, LD⟩
      have qp : q ≠ p := fun z => nq (by rw [z]; exact ⟨i, true, _, hi, hv⟩)
      obtain ⟨a, b, c⟩ := lo q wq nt (fun ⟨j, l, k, a, b⟩ => by
        by_cases e : i = j
        · subst e
          rw [List.getElem?_set_self il] at a; cases a
        · rw [List.getElem?_set_ne e] at a
          exact nq ⟨j, l, k, a, b⟩)
      exact ⟨a, b, fun z => c (hr (hs qp z))⟩
    | ex c e2 => rw [hc] at gg; exact gg.elim
    | bad => rw [hc] at gg; exact gg.elim
  · exact gg.elim
theorem mo_lcO (i : Nat) {x : Str} {px : Pos} {scope : Scope} {own : List (Str × Nat)} {ifs : List Expr} {js : List Nat} {g : GF} {tt : M Bool} {te : M D} (hN : X.N.Nodup) (ok : BlkOk X.N X.env.scope scope own)
    (hg : ∀ (s : Shared) (H : Hp) (C : Addr) (cl : List (Str × Addr)) (fp : List Addr), MG ca (X.blk s H scope (compEnvC scope cl C X.env) fp) tg js g)
    (ht : ∀ (s : Shared) (H : Hp) (C : Addr) (cl : List (Str × Addr)) (fp : List Addr), MTs ca (X.blk s H scope (compEnvC scope cl C X.env) fp) ifs tt)
    (he : ∀ (s : Shared) (H : Hp) (C : Addr) (cl : List (Str × Addr)) (fp : List Addr), ME ca (X.blk s H scope (compEnvC scope cl C X.env) fp) elt te)
    (hNi : X.N[i]? = some x := by rfl) (hv : Vis X.env.scope x := by first | exact Or.inl rfl | exact Or.inr (Or.inl rfl) | exact Or.inr (Or.inr rfl)) (hd : (x == ("__debug__" : Str)) = false := by decide) (hcd : (x == ("__classdict__" : Str)) = false := by decide)
    (hjs : ∀ j ∈ js, j ∈ own.map (·.2) := by decide) (hc : X.calm = true := by rfl) (hs : ∀ y, foldedSetIterable (.Name x px) X.env y = pure y := by intro _; rfl) :
    MO ca X (.ListComp elt [⟨tg, .Name x px, ifs, 0⟩] scope pos) (oCompO i g tt te (own.map (·.2))) := fun F W tk =>
  PE.imp (pe_lc hc hN (pi_any (pe_var hNi hv hd hcd)) ok (fun s H C cl fp => hg s H C cl fp F) (fun s H C cl fp => ht s H C cl fp F _ ⟨takes0, tk.h⟩) (fun s H C cl fp => he s H C cl fp F _ ⟨takes0, tk.h⟩) hs) fun σ H Q h => lc_own (F' := F) hjs h
end
end ML
end

section
set_option Elab.async false
set_option linter.all false
set_option maxRecDepth 100000
set_option maxHeartbeats 2000000
/-! # enumerate of a tuple -/
namespace MK
open PySem PySem.Spec PyProof.Rows L2
theorem newEnumT (l : Addr) (items : Array Value) : Meets (Builtin.«enumerate.__new__» ⟨[.type "enumerate", .ref l], []⟩) (fun _ R s => s.heap.IsTuple l items ∧
      R (.ok (.ret (.ref (s.heap.push { cls := .type "tuple_iterator", data := .fields #[.ref l, .int 0 0] }).objs.size)))
        { s with heap := (s.heap.push { cls := .type "tuple_iterator", data := .fields #[.ref l, .int 0 0] }).push { cls := .type "enumerate", data := .fields #[.none, .bool false, .ref s.heap.objs.size, rawInt 0, .none, .none] } }) :=
  .of_wp fun prog w A R s h => by
    obtain ⟨hp, g, d, tk, os⟩ := s
    obtain ⟨hL, h⟩ := h
    have hsub := sub_enumerate
    wp_walk
    refine wpAny_stack_any fun st => wpAny_pure ?_
    split
    · rename_i c _ _ _ _ _
      cases (c == Value.type "enumerate")
      · wp_walk using wpAny_pyIter_tuple hL
        exact ⟨_, rfl, h⟩
      · wp_walk using wpAny_pyIter_tuple hL
        exact ⟨_, rfl, h⟩
    · wp_walk using wpAny_pyIter_tuple hL
      exact ⟨_, rfl, h⟩
section
variable {prog : Program} {w : World} {A : Around} {E : Value → Shared → Prop} {s : Shared}
theorem call_enumT {l : Addr} {items : Array Value} {Q : Value → Shared → Prop} (hL : s.heap.IsTuple l items)
    (k : ∀ h', IsEnum h' (s.heap.objs.size + 1) s.heap.objs.size 0 .none → h'.IsTupleIter s.heap.objs.size l 0 → (∀ b o, s.heap.get? b = some o → h'.get? b = some o) → Q (.ref (s.heap.objs.size + 1)) { s with heap := h' }) :
    wpAny (model prog w) A (call (.type "enumerate") [.ref l]) Q E s := by
  refine callType_new F.called_enumerate (by decide) (F.typeCall_enumerate_1 _) (F.newCall_enumerate_1 _) (fun obj => F.args_object_init_2 obj _) F.entry_enumerate_new (newEnumT l items) ⟨hL, ?_⟩
  let o1 : Obj := { cls := .type "tuple_iterator", data := .fields #[.ref l, .int 0 0] }
  let o2 : Obj := { cls := .type "enumerate", data := .fields #[.none, .bool false, .ref s.heap.objs.size, rawInt 0, .none, .none] }
  have hz : (s.heap.push o1).objs.size = s.heap.objs.size + 1 := Heap.size_push ..
  show _ ∧ _
  rw [show (s.heap.push { cls := .type "tuple_iterator", data := .fields #[.ref l, .int 0 0] }).objs.size = s.heap.objs.size + 1 from hz]
  have he : IsEnum ((s.heap.push o1).push o2) (s.heap.objs.size + 1) s.heap.objs.size 0 .none := by
    have q := Heap.get?_push_size (s.heap.push o1) (o := o2) rfl
    rw [hz] at q
    exact q
  exact ⟨⟨_, he, rfl⟩, k _ he ⟨_, Heap.get?_push_of_some _ (Heap.get?_push_size _ rfl), rfl, rfl⟩ fun b o q => Heap.get?_push_of_some _ (Heap.get?_push_of_some _ q)⟩
end
/-- the end of enumerate over a tuple -/
theorem enumT_end {prog : Program} {w : World} {A : Around} {E : Value → Shared → Prop} {s : Shared} {e it l : Addr} {i : Nat} {items : Array Value} {old : Value} {Q : Option Value → Shared → Prop} (hh : A.handled = none) (he : IsEnum s.heap e it i old) (hit : s.heap.IsTupleIter it l i) (hl : s.heap.IsTuple l items) (hx : items[i]? = none)
    (k : ∀ h2, Heap.ExtBut it s.heap h2 → Q none { s with heap := h2 }) : wpAny (model prog w) A (pyNext (.ref e)) Q E s := by
  have ty : s.TypeIs (.ref e) "enumerate" := ⟨_, he, rfl⟩
  rw [pyNext]
  refine wpAny_bind (wpAny_attempt (wpAny_callSpecial?_slot (name := Str.ofString "__next__") ty F.slot_enumerate_next (wpAny_call_entry F.slot_enumerate_next ty F.entry_enumerate_next (?_ : wpAny _ _ (field (.ref e) 2 >>= _) _ _ _) (F.args_enumerate_next_1 _))))
  refine wpAny_bind (wpAny_field he rfl (x := .ref it) rfl (wpAny_bind (RZ.nextOf_tuple_end (A := A.in1) hh hit hl hx fun h2 x b1 ⟨o, b2, b3⟩ => ?_)))
  exact wpAny_bind (wpAny_isInstance (T := "StopIteration") (b := true) ⟨o, b2, b3⟩ isSubtype_stop (wpAny_pure (k _ b1)))
/-- enumerate over the tuple at a -/
def IteT (K : PySem.W.Frag) (a : Addr) : It :=
  ⟨fun i H => ∃ (xs : List V) (x : V), SqT K H a xs ∧ xs[i]? = some x, fun i H v H' => ∃ T x, v = .ref T ∧ H T = none ∧ H' = upd H T (.tup [.int (i : Nat), x]) ∧ ∀ xs, SqT K H a xs → xs[i]? = some x, fun i H => ∃ xs : List V, SqT K H a xs ∧ xs.length ≤ i⟩
theorem turnEnumT {P : Program} {w : World} {K : PySem.W.Frag} {elts : List Expr} {kk : Nat} {tpos : Pos} (a e it : Addr) :
    Turn P w K (.Tuple elts kk tpos) (IteT K a) [e, it] e (fun i h => (∃ old, IsEnum h e it ((i : Nat) : Int) old) ∧ h.IsTupleIter it a i ∧ e ≠ it ∧ a ≠ it ∧ a ≠ e) where
  mem := by simp
  obj := fun i h st b hb => by
    obtain ⟨⟨old, he⟩, ⟨o, ho, hc, hd⟩, _⟩ := st
    have e' : b = e ∨ b = it := by simpa using hb
    rcases e' with z | z
    · rw [z]; exact ⟨_, he, fun v q => nomatch q⟩
    · rw [z]; exact ⟨o, ho, fun v q => by rw [hd] at q; cases q⟩
  keep := fun i h h' st k => by
    obtain ⟨⟨old, he⟩, hi, n1, n2, n3⟩ := st
    exact ⟨⟨old, k e (by simp) _ he⟩, hi.at fun o q => k it (by simp) o q, n1, n2, n3⟩
  item := by
    intro X hP hw hK hc i pins s σ H E I hf st hg
    subst hP hw hK
    obtain ⟨⟨old, he⟩, hit, n1, n2, n3⟩ := st
    obtain ⟨xs, x, hq, hx⟩ := hg
    obtain ⟨its, rv, pt, hz⟩ := I.tuple hq
    obtain ⟨u, hu, ru⟩ := rv.get hx
    have hu' : its.toArray[i]? = some u := by simpa using hu
    have li : i < its.toArray.size := by
      rw [List.size_toArray]
      exact (List.getElem?_eq_some_iff.mp hu).1
    have hel : e < s.heap.objs.size := Heap.lt_size he
    have hil : it < s.heap.objs.size := by obtain ⟨_, q, _⟩ := hit; exact Heap.lt_size q
    refine wpAny_pyNext_enum_itemD (Draws.tuple (A := X.A.in1) (I.ok.hd hc) it a n2 its.toArray) he ⟨hit, pt⟩ li n1 (by simp [n1, Ne.symm n3]) fun y h' tk hy ho st2 hT hsz hk => ?_
    have ey : y = u := by rw [hu'] at hy; exact (Option.some.inj hy).symm
    subst ey
    refine ⟨_, rfl, wpAny_letOwnedTupleGo_enum (s := { s with heap := h', toks := tk + 1 }) ho fun h'' he' sb => ?_⟩
    have hT2 : h''.get? s.heap.objs.size = some { cls := .type "tuple", data := .seq #[.int i tk, y] } := (sb.2 _ (Nat.ne_of_gt hel)).trans hT
    have new : ObjOk X.prog X.w (upd H s.heap.objs.size (.tup [.int (i : Nat), x])) h'' s.heap.objs.size (.tup [.int (i : Nat), x]) :=
      ⟨by show 2 ≤ sizeLine; decide, [.int i tk, y], .cons ⟨_, rfl⟩ (.cons ru .nil), ⟨_, hT2, rfl, _, rfl⟩⟩
    have I1 : Inv X pins σ (upd H s.heap.objs.size (.tup [.int (i : Nat), x])) { s with heap := h'', toks := tk + 1 } :=
      I.turnedNew (ch := [e, it]) (fun b ob hb q => (sb.2 b (fun z => hb (by simp [z]))).trans (hk b ob (fun z => hb (by simp [z])) (fun z => hb (by simp [z])) q)) hf (Nat.le_refl _) new
    refine ⟨.ref s.heap.objs.size, _, I1, rfl, ⟨_, x, rfl, I.hok.fresh (Nat.le_refl _), rfl, fun ys hy2 => by rw [I.tuple_inj hy2 hq]; exact hx⟩, ⟨⟨y, ?_⟩, st2.1.at fun o q => (sb.2 it (Ne.symm n1)).trans q, n1, n2, n3⟩, fun b hb => ?_⟩
    · rw [show ((i + 1 : Nat) : Int) = (i : Int) + 1 by omega]
      exact he'
    · have hb' : b < s.heap.objs.size := by
        have e' : b = e ∨ b = it := by simpa using hb
        rcases e' with z | z
        · rw [z]; exact hel
        · rw [z]; exact hil
      rw [upd_ne (Nat.ne_of_lt hb')]
      exact (hf b hb).1
  done := by
    intro X hP hw hK hc i pins s σ H E I hf st hg
    subst hP hw hK
    obtain ⟨⟨old, he⟩, hit, n1, n2, n3⟩ := st
    obtain ⟨xs, hq, hx⟩ := hg
    obtain ⟨its, rv, pt, hz⟩ := I.tuple hq
    have hl := rv.length
    obtain ⟨f0, f1, f2, f3, f4, f5⟩ := hf it (by simp)
    exact enumT_end (I.ok.hd hc) he hit pt (by simp; omega) fun h2 eb => ⟨rfl, I.turned (t' := s.toks) (fun b o hb q => eb b o hb q) f0 f1 f3 f4 f5⟩
  self := fun A i s Q E st h => let ⟨⟨_, he⟩, _⟩ := st; wpAny_pyIter_enum he h
def iEnumA (K : PySem.W.Frag) (ta : TA) : TI := fun σ H R => ta σ H fun vs H1 => ∃ a xs, vs = [.ref a] ∧ ((SqL K H1 a xs ∧ R (Ite K a) H1) ∨ (SqT K H1 a xs ∧ R (IteT K a) H1))
theorem pi_enumA {X : Cx} {e : Expr} {ta : TA} {p pos tpos : Pos} {elts : List Expr} {kk : Nat} (hg : Gl X "enumerate") (hm : X.mg "enumerate" = none) (ha : PA X [e] ta) (hs : starEach [e] X.env = [(false, eval e X.env)] := by rfl) :
    PI X (.Tuple elts kk tpos) (.Call (.Name "enumerate" p) [e] [] pos) (iEnumA X.K ta) := by
  refine ⟨fun pins s σ H R I h => ?_⟩
  refine Call_ (ld_blt I hg hm boot_enumerate (PyProof.Rows.callWith_type1 (thn (ha.run pos pins s σ H _ I h) fun us s1 ⟨vs, H1, I1, r1, a, xs, ex, q1⟩ => ?_) hs rfl))
  subst ex
  obtain ⟨u, rfl, ru⟩ := vals1 r1
  obtain rfl : u = Value.ref a := ru
  have new2 : ∀ b, b ∈ [s1.heap.objs.size + 1, s1.heap.objs.size] → FpOk X pins H1 b := fun b hb => by
    have hle : s1.heap.objs.size ≤ b := by
      have e' : b = s1.heap.objs.size + 1 ∨ b = s1.heap.objs.size := by simpa using hb
      rcases e' with z | z <;> omega
    exact I1.fpOk hle (I1.hok.fresh hle)
  rcases q1 with ⟨hq, q⟩ | ⟨hq, q⟩
  · obtain ⟨its, rv, pl, hz⟩ := I1.list hq
    exact call_enumerate_list pl.isList fun h' he hit hsz hk => wpAny_pyIter_enum he ⟨s1.heap.objs.size + 1, [s1.heap.objs.size + 1, s1.heap.objs.size], _, _, H1, rfl, I1.kept (t' := s1.toks) hk, turn_enum a (s1.heap.objs.size + 1) s1.heap.objs.size, ⟨⟨.none, he⟩, hit, Nat.succ_ne_self _⟩, new2, q⟩
  · obtain ⟨its, rv, pt, hz⟩ := I1.tuple hq
    obtain ⟨o1, ho1, _⟩ := id pt
    have la := Heap.lt_size ho1
    exact call_enumT (show s1.heap.IsTuple a its.toArray from pt) fun h' he hit hk => wpAny_pyIter_enum he ⟨s1.heap.objs.size + 1, [s1.heap.objs.size + 1, s1.heap.objs.size], _, _, H1, rfl, I1.kept (t' := s1.toks) hk, turnEnumT a (s1.heap.objs.size + 1) s1.heap.objs.size, ⟨⟨.none, he⟩, hit, Nat.succ_ne_self _, Nat.ne_of_lt la, Nat.ne_of_lt (Nat.lt_succ_of_lt la)⟩, new2, q⟩
end MK
namespace ML
open PySem L2
theorem wk_enumT {K : PySem.W.Frag} {ow : Addr → Prop} {H : Hp} {a : Addr} {xs : List V} {ds zs : List D} (h : TupAt K ow H zs a xs) (r : RpA K ow H ds xs) : Wk K (MK.IteT K a) (enumD 0 ds) ow H := by
  refine ⟨fun ow H => TupAt K ow H zs a xs ∧ RpA K ow H ds xs, ⟨h, r⟩, fun ow1 H1 ow2 H2 st ⟨h, r⟩ => ⟨h.stp st, r.stp st⟩, fun i ow H ⟨h, r⟩ tr hi => ?_, fun i ow H ⟨h, r⟩ hi => ⟨xs, h.sq, ?_⟩⟩
  · rw [enumD_len] at hi
    obtain ⟨x, hx⟩ := some_of_lt (xs := xs) (i := i) (by rw [← r.length]; exact hi)
    refine ⟨⟨xs, x, h.sq, hx⟩, fun v H' ⟨T, y, ev, hT, eH, hy⟩ => ?_⟩
    subst ev eH
    have exy : xs[i]? = some y := hy xs h.sq
    refine ⟨Gr.new hT, fun d hd => ?_⟩
    rw [enumD_get] at hd
    obtain ⟨d0, h0, rfl⟩ := Option.map_eq_some_iff.mp hd
    unfold Rp
    refine ⟨T, _, rfl, .weak upd_same (fun z => by obtain ⟨o, ho⟩ := tr T z; rw [hT] at ho; cases ho) rfl, ?_⟩
    unfold RpA
    refine ⟨_, _, rfl, by rw [Nat.zero_add]; exact rp_int, ?_⟩
    unfold RpA
    exact ⟨_, _, rfl, (r.get h0 exy).stp (Gr.new hT).stp, by unfold RpA; rfl⟩
  · rw [enumD_len] at hi
    rw [← r.length]; exact hi
/-- the items of a list or a tuple -/
@[simp] def dSeq : D → Option (List D)
  | .list xs => some xs
  | .tuple xs => some xs
  | _ => none
def iEnA (m : M D) : M (List D) := bind m fun x => lift ((dSeq x).map (enumD 0))
theorem mi_enumA {ca : CA} {X : Cx} {pos : Pos} {e : Expr} {m : M D} {p tpos : Pos} {elts : List Expr} {kk : Nat} (h : ME ca X e m) (hm : X.mg "enumerate" = none) (hg : Gl X "enumerate" := by rfl) (hs : starEach [e] X.env = [(false, eval e X.env)] := by rfl) :
    MI ca X (.Tuple elts kk tpos) (.Call (.Name "enumerate" p) [e] [] pos) (iEnA m) := fun F W tk =>
  PI.imp (MK.pi_enumA hg hm (pa_cons (h F W tk) pa_nil hs) hs) fun σ H R ⟨ow, env, rel, g⟩ => by
    refine ⟨ow, env, rel, ?_⟩
    unfold iEnA bind at g
    cases hq : m env with
    | ok x e1 =>
      rw [hq] at g
      rintro v ow1 H1 g1 R1 p1
      dsimp only at g
      unfold lift at g
      have p1' : Rp X.K ow1 H1 x v := p1
      cases x with
      | list xs =>
        unfold Rp at p1'
        obtain ⟨a, us, rfl, h1, n, h2⟩ := p1'
        exact ⟨a, us, rfl, .inl ⟨SqL.of h1, g (Ite X.K a) ow1 H1 g1 R1 (wk_enum h1 n h2)⟩⟩
      | tuple xs =>
        unfold Rp at p1'
        obtain ⟨a, us, rfl, h1, h2⟩ := p1'
        exact ⟨a, us, rfl, .inr ⟨h1.sq, g (MK.IteT X.K a) ow1 H1 g1 R1 (wk_enumT h1 h2)⟩⟩
      | _ => exact g.elim
    | ex c e1 => rw [hq] at g; exact g
    | bad => rw [hq] at g; exact g
end ML
end

section
set_option Elab.async false
set_option linter.all false
set_option maxRecDepth 100000
set_option maxHeartbeats 2000000
/-! # list(zip(a, b)) -/
namespace MK
open PySem PySem.Spec PyProof.Rows L2
section
variable {prog : Program} {w : World} {A : Around} {E : Value → Shared → Prop} {s : Shared} {z TI TO T i1 i2 : Addr} {fp1 fp2 : List Addr} {n1 n2 i : Nat} {P1 P2 : Nat → Value → Prop} {St1 St2 : Nat → Heap → Prop} {f : Bool} {oT : Obj}
/-- the next pair while the last one given out is there -/
theorem zipH_item {Q : Value → Shared → Prop} (Z : ZipSep2 z TI TO i1 i2 fp1 fp2) (D1 : Draws prog w A i1 fp1 n1 P1 St1) (D2 : Draws prog w A i2 fp2 n2 P2 St2) (hz : IsZipHeld s.heap z TI TO T f) (hT : s.heap.get? T = some oT) (hI : IsTupOf2 s.heap TI (.ref i1) (.ref i2))
    (t1 : St1 i s.heap) (t2 : St2 i s.heap) (l1 : i < n1) (l2 : i < n2)
    (k : ∀ x1 x2 h' tk, P1 i x1 → P2 i x2 → IsZipHeld h' z TI TO T true → St1 (i + 1) h' → St2 (i + 1) h' → IsTupOf2 h' s.heap.objs.size x1 x2 → h'.objs.size = s.heap.objs.size + 1 → (∀ c o, c ≠ z → c ≠ i1 → c ≠ i2 → s.heap.get? c = some o → h'.get? c = some o) → Q (.ref s.heap.objs.size) { s with heap := h', toks := tk }) :
    wpAny (model prog w) A (Builtin.«zip.__next__» ⟨[.ref z], []⟩) (fun r s2 => ∃ v, r = .done (.ret v) ∧ Q v s2) E s := by
  obtain ⟨hp, g, d, tk0, os⟩ := s
  refine wpAny_bind (m := field (.ref z) 2) (wpAny_field hz rfl (x := .bool false) rfl ?_)
  refine wpAny_bind (m := field (.ref z) 3) (wpAny_field hz rfl (x := .ref TI) rfl (wpAny_bind (wpAny_seqItems hI rfl ?_)))
  refine wpAny_bind (m := Builtin.SmallTypes.ownedTupleIsFree (.ref z)) (wpAny_tupleHeld_zip (s := ⟨hp, g, d, tk0, os⟩) hz hT fun b1 hz1 e1 => ?_)
  have e1 : Heap.SameBut z hp b1 := e1
  have hz1 : IsZipHeld b1 z TI TO T true := hz1
  simp only [Bool.false_eq_true, if_false]
  refine wpAny_bind ?_
  rw [← Array.forIn_toList]
  simp only [List.forIn_cons, List.forIn_nil]
  refine wpAny_bind (wpAny_bind (wpAny_holding ?_))
  refine wpAny_bind (m := Builtin.SmallTypes.nextOf (.ref i1)) (D1.item i ⟨b1, g, d, tk0, os⟩ _ _ l1 (D1.over t1 e1 Z.zf1) fun x1 b2 tk1 p1 u1 e2 => wpAny_pure (wpAny_pure ?_))
  have e2 : Heap.SameBut i1 b1 b2 := e2
  refine wpAny_bind (wpAny_bind (wpAny_holding ?_))
  refine wpAny_bind (m := Builtin.SmallTypes.nextOf (.ref i2)) (D2.item i ⟨b2, g, d, tk1, os⟩ _ _ l2 (D2.over (D2.over t2 e1 Z.zf2) e2 Z.sep1_2) fun x2 b3 tk2 p2 u2 e3 => wpAny_pure (wpAny_pure (wpAny_pure ?_)))
  have e3 : Heap.SameBut i2 b2 b3 := e3
  refine wpAny_bind (m := newTuple [x1, x2]) (wpAny_newTuple (wpAny_pure ⟨_, rfl, ?_⟩))
  have sz : b3.objs.size = hp.objs.size := by rw [e3.1, e2.1, e1.1]
  have keep : ∀ c o, c ≠ z → c ≠ i1 → c ≠ i2 → hp.get? c = some o → b3.get? c = some o := fun c o c1 c2 c3 q => e3.extBut _ _ c3 (e2.extBut _ _ c2 (e1.extBut _ _ c1 q))
  have hz3 : IsZipHeld b3 z TI TO T true := e3.extBut _ _ Z.zi2 (e2.extBut _ _ Z.zi1 hz1)
  have s1 : St1 (i + 1) b3 := D1.over u1 e3 Z.sep2_1
  let b4 := b3.push { cls := .type "tuple", data := .seq #[x1, x2] }
  have up : ∀ c o, b3.get? c = some o → b4.get? c = some o := fun c o q => Heap.get?_push_of_some _ q
  have hp4 : IsTupOf2 b4 b3.objs.size x1 x2 := Heap.get?_push_size _ rfl
  have sz4 : b4.objs.size = b3.objs.size + 1 := Heap.size_push ..
  rw [sz] at hp4 sz4
  have r := k x1 x2 b4 tk2 p1 p2 (up _ _ hz3) (D1.frame _ _ _ s1 fun b _ o q => up b o q) (D2.frame _ _ _ u2 fun b _ o q => up b o q) hp4 sz4 fun c o c1 c2 c3 q => up c o (keep c o c1 c2 c3 q)
  show Q (.ref b3.objs.size) ⟨b4, g, d, tk2, os⟩
  rw [sz]
  exact r
/-- .. the end -/
theorem zipH_end {Q : Fin → Shared → Prop} (Z : ZipSep2 z TI TO i1 i2 fp1 fp2) (D1 : Draws prog w A i1 fp1 n1 P1 St1) (D2 : Draws prog w A i2 fp2 n2 P2 St2) (hz : IsZipHeld s.heap z TI TO T f) (hT : s.heap.get? T = some oT) (hI : IsTupOf2 s.heap TI (.ref i1) (.ref i2))
    (t1 : St1 i s.heap) (t2 : St2 i s.heap) (l1 : i ≤ n1) (l2 : i ≤ n2) (he : i = n1 ∨ i = n2)
    (k : ∀ h' tk e, (∀ c o, c ≠ z → c ≠ i1 → c ≠ i2 → s.heap.get? c = some o → h'.get? c = some o) → (∃ o, h'.get? e = some o ∧ o.cls = .type "StopIteration") → E (.ref e) { s with heap := h', toks := tk }) :
    wpAny (model prog w) A (Builtin.«zip.__next__» ⟨[.ref z], []⟩) Q E s := by
  obtain ⟨hp, g, d, tk0, os⟩ := s
  refine wpAny_bind (m := field (.ref z) 2) (wpAny_field hz rfl (x := .bool false) rfl ?_)
  refine wpAny_bind (m := field (.ref z) 3) (wpAny_field hz rfl (x := .ref TI) rfl (wpAny_bind (wpAny_seqItems hI rfl ?_)))
  refine wpAny_bind (m := Builtin.SmallTypes.ownedTupleIsFree (.ref z)) (wpAny_tupleHeld_zip (s := ⟨hp, g, d, tk0, os⟩) hz hT fun b1 hz1 e1 => ?_)
  have e1 : Heap.SameBut z hp b1 := e1
  simp only [Bool.false_eq_true, if_false]
  refine wpAny_bind ?_
  rw [← Array.forIn_toList]
  simp only [List.forIn_cons, List.forIn_nil]
  refine wpAny_bind (wpAny_bind (wpAny_holding ?_))
  by_cases q1 : i < n1
  · refine wpAny_bind (m := Builtin.SmallTypes.nextOf (.ref i1)) (D1.item i ⟨b1, g, d, tk0, os⟩ _ _ q1 (D1.over t1 e1 Z.zf1) fun x1 b2 tk1 p1 u1 e2 => wpAny_pure (wpAny_pure ?_))
    have e2 : Heap.SameBut i1 b1 b2 := e2
    have q2 : i = n2 := by omega
    refine wpAny_bind (wpAny_bind (wpAny_holding ?_))
    refine wpAny_bind (m := Builtin.SmallTypes.nextOf (.ref i2)) (D2.done ⟨b2, g, d, tk1, os⟩ _ _ (by rw [← q2]; exact D2.over (D2.over t2 e1 Z.zf2) e2 Z.sep1_2) fun b3 e e3 hS => ?_)
    have e3 : Heap.ExtBut i2 b2 b3 := e3
    exact k b3 tk1 e (fun c o c1 c2 c3 q => e3 _ _ c3 (e2.extBut _ _ c2 (e1.extBut _ _ c1 q))) hS
  · have q2 : i = n1 := by omega
    refine wpAny_bind (m := Builtin.SmallTypes.nextOf (.ref i1)) (D1.done ⟨b1, g, d, tk0, os⟩ _ _ (by rw [← q2]; exact D1.over t1 e1 Z.zf1) fun b2 e e2 hS => ?_)
    have e2 : Heap.ExtBut i1 b1 b2 := e2
    exact k b2 tk0 e (fun c o c1 c2 c3 q => e2 _ _ c2 (e1.extBut _ _ c1 q)) hS
end
section
variable {prog : Program} {w : World} {A : Around} {E : Value → Shared → Prop} {s : Shared} {z TI TO T i1 i2 : Addr} {fp1 fp2 : List Addr} {n1 n2 i : Nat} {P1 P2 : Nat → Value → Prop} {St1 St2 : Nat → Heap → Prop} {f : Bool} {oT : Obj}
theorem nextH_item {Q : Option Value → Shared → Prop} (Z : ZipSep2 z TI TO i1 i2 fp1 fp2) (D1 : Draws prog w A.in1 i1 fp1 n1 P1 St1) (D2 : Draws prog w A.in1 i2 fp2 n2 P2 St2) (hz : IsZipHeld s.heap z TI TO T f) (hT : s.heap.get? T = some oT) (hI : IsTupOf2 s.heap TI (.ref i1) (.ref i2))
    (t1 : St1 i s.heap) (t2 : St2 i s.heap) (l1 : i < n1) (l2 : i < n2)
    (k : ∀ x1 x2 h' tk, P1 i x1 → P2 i x2 → IsZipHeld h' z TI TO T true → St1 (i + 1) h' → St2 (i + 1) h' → IsTupOf2 h' s.heap.objs.size x1 x2 → h'.objs.size = s.heap.objs.size + 1 → (∀ c o, c ≠ z → c ≠ i1 → c ≠ i2 → s.heap.get? c = some o → h'.get? c = some o) → Q (some (.ref s.heap.objs.size)) { s with heap := h', toks := tk }) :
    wpAny (model prog w) A (pyNext (.ref z)) Q E s := by
  have ty : s.TypeIs (.ref z) "zip" := ⟨_, hz, rfl⟩
  rw [pyNext]
  exact wpAny_bind (wpAny_attempt (wpAny_callSpecial?_slot (name := Str.ofString "__next__") ty F.slot_zip_next (wpAny_call_entry F.slot_zip_next ty F.entry_zip_next
    (zipH_item Z D1 D2 hz hT hI t1 t2 l1 l2 fun x1 x2 h' tk p1 p2 a1 a2 a3 a4 a5 a6 => wpAny_pure (k x1 x2 h' tk p1 p2 a1 a2 a3 a4 a5 a6)) (F.args_zip_next_1 _))))
theorem nextH_end {Q : Option Value → Shared → Prop} (Z : ZipSep2 z TI TO i1 i2 fp1 fp2) (D1 : Draws prog w A.in1 i1 fp1 n1 P1 St1) (D2 : Draws prog w A.in1 i2 fp2 n2 P2 St2) (hz : IsZipHeld s.heap z TI TO T f) (hT : s.heap.get? T = some oT) (hI : IsTupOf2 s.heap TI (.ref i1) (.ref i2))
    (t1 : St1 i s.heap) (t2 : St2 i s.heap) (l1 : i ≤ n1) (l2 : i ≤ n2) (he : i = n1 ∨ i = n2)
    (k : ∀ h' tk, (∀ c o, c ≠ z → c ≠ i1 → c ≠ i2 → s.heap.get? c = some o → h'.get? c = some o) → Q none { s with heap := h', toks := tk }) : wpAny (model prog w) A (pyNext (.ref z)) Q E s := by
  have ty : s.TypeIs (.ref z) "zip" := ⟨_, hz, rfl⟩
  rw [pyNext]
  exact wpAny_bind (wpAny_attempt (wpAny_callSpecial?_slot (name := Str.ofString "__next__") ty F.slot_zip_next (wpAny_call_entry F.slot_zip_next ty F.entry_zip_next
    (zipH_end Z D1 D2 hz hT hI t1 t2 l1 l2 he fun h' tk e a1 ⟨o, b2, b3⟩ => wpAny_bind (wpAny_isInstance (T := "StopIteration") (b := true) ⟨o, b2, b3⟩ isSubtype_stop (wpAny_pure (k _ _ a1)))) (F.args_zip_next_1 _))))
end
section
variable {prog : Program} {w : World} {z TI TO S i1 i2 : Addr} {fp1 fp2 : List Addr} {n1 n2 : Nat} {P1 P2 : Nat → Value → Prop} {St1 St2 : Nat → Heap → Prop}
/-- a zip after j pairs, all of which are kept -/
structure ZAt (S z TI TO i1 i2 : Addr) (St1 St2 : Nat → Heap → Prop) (h : Heap) (j : Nat) : Prop where
  at_ : (j = 0 ∧ IsZip h z TI TO .none ∧ ∃ a1 a2, IsTupOf2 h TO a1 a2) ∨ ∃ T f oT, IsZipHeld h z TI TO T f ∧ h.get? T = some oT ∧ T ∉ [S, z, TO, i1, i2]
  ti : IsTupOf2 h TI (.ref i1) (.ref i2)
  to : ∃ o, h.get? TO = some o
  s1 : St1 j h
  s2 : St2 j h
/-- the pairs that were given out -/
structure Prs (S : Addr) (P1 P2 : Nat → Value → Prop) (no : List Addr) (h : Heap) (acc : Array Value) (j : Nat) : Prop where
  size : acc.size = j
  get : ∀ i v, acc[i]? = some v → ∃ T x1 x2, v = .ref T ∧ P1 i x1 ∧ P2 i x2 ∧ IsTupOf2 h T x1 x2 ∧ T ∉ no ∧ S < T
  inj : ∀ (i j : Nat) (T : Addr), acc[i]? = some (Value.ref T) → acc[j]? = some (Value.ref T) → i = j
theorem Prs.keep {no : List Addr} {h h' : Heap} {acc : Array Value} {j : Nat} (p : Prs S P1 P2 no h acc j) (k : ∀ b o, b ∉ no → h.get? b = some o → h'.get? b = some o) : Prs S P1 P2 no h' acc j :=
  ⟨p.size, fun i v e => by
    obtain ⟨T, x1, x2, a, b, c, d, n, l⟩ := p.get i v e
    exact ⟨T, x1, x2, a, b, c, k _ _ n d, n, l⟩, p.inj⟩
theorem Prs.push {no : List Addr} {h : Heap} {acc : Array Value} {j : Nat} {T : Addr} {x1 x2 : Value} (p : Prs S P1 P2 no h acc j) (a : P1 j x1) (b : P2 j x2) (c : IsTupOf2 h T x1 x2) (n : T ∉ no) (l : S < T) (fr : ∀ i : Nat, acc[i]? ≠ some (Value.ref T)) : Prs S P1 P2 no h (acc.push (.ref T)) (j + 1) :=
  ⟨by rw [Array.size_push, p.size], fun i v e => by
    rw [Array.getElem?_push] at e
    split at e
    · rename_i q
      cases e
      rw [p.size] at q
      subst q
      exact ⟨T, x1, x2, rfl, a, b, c, n, l⟩
    · exact p.get i v e, fun i k U e1 e2 => by
    rw [Array.getElem?_push] at e1 e2
    split at e1
    · rename_i q
      split at e2
      · rename_i q2
        rw [q, q2]
      · cases e1
        exact absurd e2 (fr k)
    · split at e2
      · cases e2
        exact absurd e1 (fr i)
      · exact p.inj i k U e1 e2⟩
theorem zipLoop {A : Around} {R : Result → Shared → Prop} (Z : ZipSep2 z TI TO i1 i2 fp1 fp2) (hA : A.handled = none) (D1 : ∀ B : Around, B.handled = none → Draws prog w B i1 fp1 n1 P1 St1) (D2 : ∀ B : Around, B.handled = none → Draws prog w B i2 fp2 n2 P2 St2) (hn : min n1 n2 ≤ sizeLine) (res : Value)
    (Sz : S ≠ z) (ST : S ≠ TI) (SO : S ≠ TO) (S1 : S ∉ fp1) (S2 : S ∉ fp2) : ∀ (m j : Nat) (s : Shared) (acc : Array Value) (c : Nat), min n1 n2 - j = m → j ≤ min n1 n2 → ZAt S z TI TO i1 i2 St1 St2 s.heap j → s.heap.get? S = some { cls := .type "list", dict := none, data := .seq acc c, slots := #[] } → Prs S P1 P2 [S, z, TO, i1, i2] s.heap acc j →
    (∀ h' tk acc' c', (∀ b o, b ∉ [S, z, TO, i1, i2] → s.heap.get? b = some o → h'.get? b = some o) → h'.get? S = some { cls := .type "list", dict := none, data := .seq acc' c', slots := #[] } → Prs S P1 P2 [S, z, TO, i1, i2] h' acc' (min n1 n2) → R (.ok (.ret res)) { s with heap := h', toks := tk }) →
    codeAny (model prog w) A (.builtin "list.extend.loop" ⟨[.ref S, .ref z, res], []⟩) R s := by
  have Si1 : S ≠ i1 := fun e => S1 (by rw [e]; exact Z.mem1)
  have Si2 : S ≠ i2 := fun e => S2 (by rw [e]; exact Z.mem2)
  intro m
  induction m with
  | zero =>
    intro j s acc c hm hj hz hS hp k
    have he : j = n1 ∨ j = n2 := by omega
    refine codeAny_builtin F.entry_extend_loop ?_
    rw [Around.under_plainId F.plain_extend_loop _]
    refine wpAny_bind (m := pyNext (.ref z)) ?_
    have fin : ∀ h' tk, (∀ b o, b ≠ z → b ≠ TO → b ≠ i1 → b ≠ i2 → s.heap.get? b = some o → h'.get? b = some o) → R (.ok (.ret res)) { s with heap := h', toks := tk } := fun h' tk kp => by
      have kp2 : ∀ b o, b ∉ [S, z, TO, i1, i2] → s.heap.get? b = some o → h'.get? b = some o := fun b o nb q => by
        simp at nb
        exact kp b o nb.2.1 nb.2.2.1 nb.2.2.2.1 nb.2.2.2.2 q
      have ej : j = min n1 n2 := by omega
      rw [← ej] at k
      exact k h' tk acc c kp2 (kp S _ Sz SO Si1 Si2 hS) (hp.keep kp2)
    rcases hz.at_ with ⟨_, h0, a1, a2, hTO⟩ | ⟨T, f, oT, hH, hT, _⟩
    · exact wpAny_pyNext_zipD2_end (A := A.in1) Z (D1 A.in1.in1 hA) (D2 A.in1.in1 hA) h0 hz.ti hTO hz.s1 hz.s2 (by omega) (by omega) he fun h' tk kp => wpAny_pure (fin h' tk kp)
    · exact nextH_end (A := A.in1) Z (D1 A.in1.in1 hA) (D2 A.in1.in1 hA) hH hT hz.ti hz.s1 hz.s2 (by omega) (by omega) he fun h' tk kp => wpAny_pure (fin h' tk fun b o b1 b2 b3 b4 q => kp b o b1 b3 b4 q)
  | succ m ih =>
    intro j s acc c hm hj hz hS hp k
    have l1 : j < n1 := by omega
    have l2 : j < n2 := by omega
    refine codeAny_builtin F.entry_extend_loop ?_
    rw [Around.under_plainId F.plain_extend_loop _]
    refine wpAny_bind (m := pyNext (.ref z)) ?_
    have lS : S < s.heap.objs.size := Heap.lt_size hS
    have li1 : i1 < s.heap.objs.size := by obtain ⟨o, q⟩ := (D1 A hA).live _ _ hz.s1; exact Heap.lt_size q
    have li2 : i2 < s.heap.objs.size := by obtain ⟨o, q⟩ := (D2 A hA).live _ _ hz.s2; exact Heap.lt_size q
    have lTO : TO < s.heap.objs.size := by obtain ⟨o, q⟩ := hz.to; exact Heap.lt_size q
    have lz : z < s.heap.objs.size := by
      rcases hz.at_ with ⟨_, h0, _⟩ | ⟨T, f, oT, hH, _⟩
      · exact Heap.lt_size h0
      · exact Heap.lt_size hH
    have nT : s.heap.objs.size ∉ [S, z, TO, i1, i2] := by
      simp [Nat.ne_of_gt lS, Nat.ne_of_gt lz, Nat.ne_of_gt lTO, Nat.ne_of_gt li1, Nat.ne_of_gt li2]
    have step : ∀ (x1 x2 : Value) (h' : Heap) (tk : Nat) (T : Addr) (f : Bool), P1 j x1 → P2 j x2 → IsZipHeld h' z TI TO T f → (∃ oT, h'.get? T = some oT) → T ∉ [S, z, TO, i1, i2] → (∃ o, h'.get? TO = some o) → St1 (j + 1) h' → St2 (j + 1) h' → IsTupOf2 h' s.heap.objs.size x1 x2 → (∀ b o, b ≠ z → b ≠ TO → b ≠ i1 → b ≠ i2 → s.heap.get? b = some o → h'.get? b = some o) →
        wpAny (model prog w) A.in1 (updateSeq S (·.push (.ref s.heap.objs.size)) >>= fun _ => again (.builtin "list.extend.loop" ⟨[.ref S, .ref z, res], []⟩)) (fun fin s' => match fin with | .done r => R (.ok r) s' | .again c' => c'.quiet = true ∧ codeAny (model prog w) A c' R s') (fun e s' => R (.error e) s') { s with heap := h', toks := tk } := fun x1 x2 h' tk T f p1 p2 hH ⟨oT, hT⟩ fn ⟨oO, hO⟩ t1 t2 pr kp => by
      have f5 : T ≠ S := fun e => fn (by rw [e]; exact List.mem_cons_self)
      have hS' : h'.get? S = some { cls := .type "list", dict := none, data := .seq acc c, slots := #[] } := kp S _ Sz SO Si1 Si2 hS
      have kp2 : ∀ b o, b ∉ [S, z, TO, i1, i2] → s.heap.get? b = some o → h'.get? b = some o := fun b o nb q => by
        simp at nb
        exact kp b o nb.2.1 nb.2.2.1 nb.2.2.2.1 nb.2.2.2.2 q
      refine wpAny_bind (wpAny_updateSeq (s := { s with heap := h', toks := tk }) hS' rfl (wpAny_pure ⟨plainId_quiet F.plain_extend_loop _, ih (j + 1) _ (acc.push (.ref s.heap.objs.size)) _ (by omega) (by omega) ?_ (Heap.get?_update_self _ hS' rfl) ?_ fun h2 tk2 acc2 c2 kp3 hS2 hp2 => ?_⟩) (by rw [hp.size]; omega) (by show (acc.push _).size ≤ sizeLine + 1; rw [Array.size_push, hp.size]; omega))
      · have oth : ∀ b o, b ≠ S → h'.get? b = some o → (h'.update S (Obj.mapSeq (·.push (.ref s.heap.objs.size)))).get? b = some o := fun b o nb q => (Heap.get?_update_other _ _ (Ne.symm nb)).trans q
        exact ⟨.inr ⟨T, f, oT, oth _ _ (Ne.symm Sz) hH, oth _ _ f5 hT, fn⟩, oth _ _ (Ne.symm ST) (kp TI _ Z.TIz Z.TITO Z.TIi1 Z.TIi2 hz.ti), ⟨oO, oth _ _ (Ne.symm SO) hO⟩, (D1 A hA).frame _ _ _ t1 fun b hb o q => oth b o (fun e => S1 (e ▸ hb)) q, (D2 A hA).frame _ _ _ t2 fun b hb o q => oth b o (fun e => S2 (e ▸ hb)) q⟩
      · exact (Prs.push (hp.keep kp2) p1 p2 pr nT lS fun i e => by
          obtain ⟨T', _, _, e', _, _, e2, _⟩ := hp.get i _ e
          cases e'
          exact absurd (Heap.lt_size e2) (Nat.lt_irrefl _)).keep fun b o nb q => by
          simp at nb
          exact (Heap.get?_update_other _ _ (Ne.symm nb.1)).trans q
      · exact k h2 tk2 acc2 c2 (fun b o nb q => kp3 b o nb (by
          have nb' := nb
          simp at nb
          exact (Heap.get?_update_other _ _ (Ne.symm nb.1)).trans (kp2 b o nb' q))) hS2 hp2
    rcases hz.at_ with ⟨_, h0, a1, a2, hTO⟩ | ⟨T, f, oT, hH, hT, fn⟩
    · exact wpAny_pyNext_zipD2_item (A := A.in1) Z (D1 A.in1.in1 hA) (D2 A.in1.in1 hA) h0 hz.ti hTO hz.s1 hz.s2 l1 l2 fun x1 x2 h' tk p1 p2 b1 b2 b3 b4 b5 b6 b7 => step x1 x2 h' tk s.heap.objs.size false p1 p2 b1 ⟨_, b5⟩ nT ⟨_, b2⟩ b3 b4 b5 b7
    · have fn' := fn
      simp at fn'
      obtain ⟨oO, hO⟩ := hz.to
      exact nextH_item (A := A.in1) Z (D1 A.in1.in1 hA) (D2 A.in1.in1 hA) hH hT hz.ti hz.s1 hz.s2 l1 l2 fun x1 x2 h' tk p1 p2 a1 a2 a3 a4 a5 a6 => step x1 x2 h' tk T true p1 p2 a1 ⟨oT, a6 T oT fn'.2.1 fn'.2.2.2.1 fn'.2.2.2.2 hT⟩ fn ⟨oO, a6 TO oO Z.TOz Z.Ti1 Z.Ti2 hO⟩ a2 a3 a4 fun b o b1 b2 b3 b4 q => a6 b o b1 b3 b4 q
end
theorem zip_no_len : typeLookup (.type "zip") "__len__" = pure none := by rw [typeLookup_type, builtinLookup_eq_fast]; kernel_rfl
theorem zip_no_hint : typeLookup (.type "zip") "__length_hint__" = pure none := by rw [typeLookup_type, builtinLookup_eq_fast]; kernel_rfl
section
variable {prog : Program} {w : World} {A : Around} {E : Value → Shared → Prop} {s : Shared} {z TI TO S i1 i2 : Addr} {fp1 fp2 : List Addr} {n1 n2 : Nat} {P1 P2 : Nat → Value → Prop} {St1 St2 : Nat → Heap → Prop} {a1 a2 : Value}
theorem extendZ {R : Result → Shared → Prop} (hA : A.handled = none) (Z : ZipSep2 z TI TO i1 i2 fp1 fp2) (D1 : ∀ B : Around, B.handled = none → Draws prog w B i1 fp1 n1 P1 St1) (D2 : ∀ B : Around, B.handled = none → Draws prog w B i2 fp2 n2 P2 St2) (hn : min n1 n2 ≤ sizeLine) (res : Value)
    (Sz : S ≠ z) (ST : S ≠ TI) (SO : S ≠ TO) (S1 : S ∉ fp1) (S2 : S ∉ fp2) (h0 : IsZip s.heap z TI TO .none) (hO : IsTupOf2 s.heap TO a1 a2) (hI : IsTupOf2 s.heap TI (.ref i1) (.ref i2)) (t1 : St1 0 s.heap) (t2 : St2 0 s.heap) (c₀ : Nat)
    (hS : s.heap.get? S = some { cls := .type "list", data := .seq #[] c₀ })
    (k : ∀ h' tk acc' c', (∀ b o, b ∉ [S, z, TO, i1, i2] → s.heap.get? b = some o → h'.get? b = some o) → h'.get? S = some { cls := .type "list", dict := none, data := .seq acc' c', slots := #[] } → Prs S P1 P2 [S, z, TO, i1, i2] h' acc' (min n1 n2) → R (.ok (.ret res)) { s with heap := h', toks := tk }) :
    wpAny (model prog w) A.in1 (Builtin.List.listExtendWith (.ref S) (.ref z) res)
      (fun fin s' => match fin with | .done f => R (.ok f) s' | .again c' => c'.quiet = true ∧ codeAny (model prog w) A c' R s') (fun e s' => R (.error e) s') s := by
  have hT : s.TypeIs (.ref z) "zip" := ⟨_, h0, rfl⟩
  have q1 : Builtin.List.listSameRef (.ref S) (.ref z) = false := by simp [Builtin.List.listSameRef, Sz]
  unfold Builtin.List.listExtendWith
  refine wpAny_bind (wpAny_typeOf hT ?_)
  rw [if_neg (by rw [q1]; decide)]
  refine wpAny_bind (wpAny_pyIter_zip h0 ?_)
  refine wpAny_bind (wpAny_holding ?_)
  unfold Builtin.List.listLengthHint
  refine wpAny_bind (wpAny_specialOf hT zip_no_len ?_)
  show wpAny _ A.in1 (specialOf (Value.ref z) (Str.ofString "__length_hint__") >>= _) _ _ _
  refine wpAny_bind (wpAny_specialOf hT zip_no_hint ?_)
  refine wpAny_pure ?_
  show wpAny _ A.in1 (rule "list.extend.makes-room" >>= fun _ => Builtin.List.listTouch (.ref S) >>= fun _ =>
    again (.builtin "list.extend.loop" ⟨[.ref S, .ref z, res], []⟩)) _ _ _
  refine wpAny_bind (wpAny_rule ?_)
  refine wpAny_bind (m := Builtin.List.listTouch (.ref S)) ?_
  show wpAny _ A.in1 (updateSeq S (·.push .none) >>= fun _ => updateSeq S (·.pop)) _ _ _
  refine wpAny_bind (wpAny_updateSeq hS rfl ?_)
  have hS2 := Heap.get?_update_self (Obj.mapSeq (·.push Value.none)) hS rfl
  refine wpAny_updateSeq (hz := by seq_fits) hS2 rfl ?_
  have hS3 := Heap.get?_update_self (Obj.mapSeq (·.pop)) hS2 rfl
  have oth : ∀ b o, b ≠ S → s.heap.get? b = some o → ((s.heap.update S (Obj.mapSeq (·.push Value.none))).update S (Obj.mapSeq (·.pop))).get? b = some o := fun b o hb e => (Heap.get?_update_other _ _ (Ne.symm hb)).trans ((Heap.get?_update_other _ _ (Ne.symm hb)).trans e)
  have li : ∀ b, b ∈ fp1 → b ≠ S := fun b hb e => S1 (e ▸ hb)
  have li2 : ∀ b, b ∈ fp2 → b ≠ S := fun b hb e => S2 (e ▸ hb)
  refine wpAny_pure ⟨plainId_quiet F.plain_extend_loop _, zipLoop Z hA D1 D2 hn res Sz ST SO S1 S2 _ 0 _ #[] _ rfl (Nat.zero_le _) ⟨.inl ⟨rfl, oth _ _ (Ne.symm Sz) h0, a1, a2, oth _ _ (Ne.symm SO) hO⟩, oth _ _ (Ne.symm ST) hI, ⟨_, oth _ _ (Ne.symm SO) hO⟩, (D1 A hA).frame _ _ _ t1 fun b hb o q => oth b o (li b hb) q, (D2 A hA).frame _ _ _ t2 fun b hb o q => oth b o (li2 b hb) q⟩ hS3 ⟨rfl, fun i v e => by simp at e, fun i j T e => by simp at e⟩ fun h' tk acc' c' kp e p => ?_⟩
  exact k h' tk acc' c' (fun b o nb q => kp b o nb (oth b o (fun e => nb (e ▸ List.mem_cons_self)) q)) e p
theorem callListZ {Q : Value → Shared → Prop} (hA : A.handled = none) (Z : ZipSep2 z TI TO i1 i2 fp1 fp2) (D1 : ∀ B : Around, B.handled = none → Draws prog w B i1 fp1 n1 P1 St1) (D2 : ∀ B : Around, B.handled = none → Draws prog w B i2 fp2 n2 P2 St2) (hn : min n1 n2 ≤ sizeLine)
    (f1 : ∀ b ∈ fp1, b < s.heap.objs.size) (f2 : ∀ b ∈ fp2, b < s.heap.objs.size) (h0 : IsZip s.heap z TI TO .none) (hO : IsTupOf2 s.heap TO a1 a2) (hI : IsTupOf2 s.heap TI (.ref i1) (.ref i2)) (t1 : St1 0 s.heap) (t2 : St2 0 s.heap)
    (k : ∀ h' tk acc' c', (∀ b o, b ∉ [z, TO, i1, i2] → s.heap.get? b = some o → h'.get? b = some o) → h'.get? s.heap.objs.size = some { cls := .type "list", dict := none, data := .seq acc' c', slots := #[] } → Prs s.heap.objs.size P1 P2 [s.heap.objs.size, z, TO, i1, i2] h' acc' (min n1 n2) → Q (.ref s.heap.objs.size) { s with heap := h', toks := tk }) :
    wpAny (model prog w) A (call (.type "list") [.ref z]) Q E s := by
  refine callType_codes (Q₁ := fun obj s₁ => obj = .ref s.heap.objs.size ∧ s₁ = { s with heap := s.heap.push { cls := .type "list", data := .seq #[] } }) F.called_list (F.typeCall_list_1 _) F.entry_list_init
    (code_list_new _ ⟨rfl, rfl⟩) fun obj s₁ h₁ => ?_
  obtain ⟨rfl, rfl⟩ := h₁
  have hS : (s.heap.push { cls := .type "list", data := .seq #[] }).get? s.heap.objs.size = some { cls := .type "list", data := .seq #[] } := Heap.get?_push_size _ rfl
  have ne : ∀ b o, s.heap.get? b = some o → b ≠ s.heap.objs.size := fun b o e => Nat.ne_of_lt (Heap.lt_size e)
  refine ⟨⟨_, hS, rfl⟩, F.args_list_init_2 _ _, ?_⟩
  show wpAny _ _ (do let old ← Builtin.List.listItems (.ref s.heap.objs.size); Builtin.List.listUpdate (.ref s.heap.objs.size) (fun _ => #[]); letGo old.toList.reverse; Builtin.List.listExtendWith (.ref s.heap.objs.size) (.ref z) .none) _ _ _
  refine wpAny_bind ?_
  unfold Builtin.List.listItems
  refine wpAny_bind (wpAny_seqItems hS rfl (wpAny_pure ?_))
  show wpAny _ _ (updateSeq s.heap.objs.size (fun _ => #[]) >>= fun _ => letGo (#[] : Array Value).toList.reverse >>= fun _ => Builtin.List.listExtendWith (.ref s.heap.objs.size) (.ref z) .none) _ _ _
  refine wpAny_bind (wpAny_updateSeq hS rfl ?_)
  have hS2 := Heap.get?_update_self (Obj.mapSeq (fun _ => (#[] : Array Value))) hS rfl
  have oth : ∀ b o, b ≠ s.heap.objs.size → s.heap.get? b = some o → ((s.heap.push { cls := .type "list", data := .seq #[] }).update s.heap.objs.size (Obj.mapSeq (fun _ => (#[] : Array Value)))).get? b = some o :=
    fun b o hb e => (Heap.get?_update_other _ _ (Ne.symm hb)).trans (Heap.get?_push_of_some _ e)
  refine wpAny_bind (wpAny_letGo ?_)
  refine extendZ (A := A.in1) hA Z D1 D2 hn _ (ne _ _ h0).symm (ne _ _ hI).symm (ne _ _ hO).symm (fun m => Nat.lt_irrefl _ (f1 _ m)) (fun m => Nat.lt_irrefl _ (f2 _ m)) (oth _ _ (ne _ _ h0) h0) (oth _ _ (ne _ _ hO) hO) (oth _ _ (ne _ _ hI) hI)
    ((D1 A hA).frame _ _ _ t1 fun b hb o q => oth b o (ne _ _ q) q) ((D2 A hA).frame _ _ _ t2 fun b hb o q => oth b o (ne _ _ q) q) _ hS2 fun h' tk acc' c' kp e p => ?_
  exact ⟨rfl, k h' tk acc' c' (fun b o nb q => kp b o (by
    have := ne _ _ q
    simp at nb ⊢
    exact ⟨this, nb⟩) (oth b o (ne _ _ q) q)) e p⟩
end
end MK
end

section
set_option Elab.async false
set_option linter.all false
set_option maxRecDepth 100000
set_option maxHeartbeats 2000000
/-! # list(zip(a, b)), at the library's level -/
namespace MK
open PySem PySem.Spec PyProof.Rows L2
/-- the pairs laid one by one, then the list of them -/
def LayP : List (V × V) → List V → Hp → VK → Prop
  | [], us, H, Q => ∀ q, H q = none → Q (.ref q) (upd H q (.lst us))
  | (x, y) :: ps, us, H, Q => ∀ (T : Addr) (o : Obj), o.cls = .type "tuple" → o.dict = none → H T = none → LayP ps (us ++ [.ref T]) (upd H T (.frz o (.tup [x, y]))) Q
section
variable {X : Cx} {pins : List (Addr × Obj)} {σ : L2.St} {s : Shared}
theorem heapBut (h : Heap) (no : List Addr) : ∃ G : Heap, (∀ b, b ∉ no → G.get? b = h.get? b) ∧ ∀ b, b ∈ no → G.get? b = none := by
  obtain ⟨G, a, b⟩ := restrict h fun c => decide (c ∉ no)
  exact ⟨G, fun c n => a c (decide_eq_true n), fun c m => b c (decide_eq_false fun n => n m)⟩
theorem lay_pairs {Q : VK} {h' : Heap} {q : Addr} {tk c : Nat} : ∀ (Ts : List Addr) (ps : List (V × V)) (us : List V) (vs : List Value) (H : Hp) (G : Heap), Inv X pins σ H { s with heap := G, toks := tk } →
    (∀ b, b ∉ q :: Ts → G.get? b = h'.get? b) → (∀ b, b ∈ q :: Ts → G.get? b = none) → (q :: Ts).Nodup → (∀ b, b ∈ q :: Ts → H b = none) → Ts.length = ps.length →
    (∀ (i : Nat) (T : Addr) (x y : V), Ts[i]? = some T → ps[i]? = some (x, y) → ∃ x' y', RelV x x' ∧ RelV y y' ∧ IsTupOf2 h' T x' y') → Vals us vs → us.length + ps.length ≤ sizeLine →
    h'.get? q = some { cls := .type "list", dict := none, data := .seq (vs ++ Ts.map Value.ref).toArray c, slots := #[] } → LayP ps us H Q → EP X pins σ Q (.ref q) { s with heap := h', toks := tk }
  | [], ps, us, vs, H, G, I, a, b, nd, hH, hl, hT, r, hz, e, k => by
    cases ps with
    | cons _ _ => cases hl
    | nil =>
      have I2 := I.laidN (h' := h') (a := q) (o := .lst us) (t' := tk) (fun d u g => by
        by_cases hd : d ∈ [q]
        · rw [b d hd] at g
          cases g
        · rw [← a d hd]
          exact g) (b q List.mem_cons_self) (hH q List.mem_cons_self) ⟨by simpa using hz, vs, c, r, by simpa using e⟩
      exact ⟨.ref q, _, I2, rfl, k q (hH q List.mem_cons_self)⟩
  | T :: Ts, [], us, vs, H, G, I, a, b, nd, hH, hl, hT, r, hz, e, k => by cases hl
  | T :: Ts, (x, y) :: ps, us, vs, H, G, I, a, b, nd, hH, hl, hT, r, hz, e, k => by
    obtain ⟨G2, a2, b2⟩ := heapBut h' (q :: Ts)
    obtain ⟨x', y', rx, ry, ht⟩ := hT 0 T x y rfl rfl
    rw [List.nodup_cons, List.nodup_cons] at nd
    obtain ⟨nq, nT, nd⟩ := nd
    have hTq : T ≠ q := fun z => nq (z ▸ List.mem_cons_self)
    have nTq : T ∉ q :: Ts := fun m => (List.mem_cons.mp m).elim hTq nT
    have gT : G2.get? T = some { cls := .type "tuple", data := .seq #[x', y'] } := (a2 T nTq).trans ht
    have mT : T ∈ q :: T :: Ts := List.mem_cons_of_mem _ List.mem_cons_self
    have I2 := I.laidN (h' := G2) (a := T) (o := .frz { cls := .type "tuple", data := .seq #[x', y'] } (.tup [x, y])) (t' := tk) (fun d u g => by
      have hd : d ∉ q :: T :: Ts := fun m => by
        rw [b d m] at g
        cases g
      rw [a2 d fun m => hd ((List.mem_cons.mp m).elim (fun z => z ▸ List.mem_cons_self) fun z => List.mem_cons_of_mem _ (List.mem_cons_of_mem _ z)), ← a d hd]
      exact g) (b T mT) (hH T mT) ⟨gT, by show 2 ≤ sizeLine; have := line63; unfold sizeLine; omega, [x', y'], .cons rx (.cons ry .nil), ⟨_, gT, rfl, _, rfl⟩⟩
    refine lay_pairs Ts ps (us ++ [.ref T]) (vs ++ [.ref T]) _ G2 I2 a2 b2 (List.nodup_cons.mpr ⟨fun m => nq (List.mem_cons_of_mem _ m), nd⟩) (fun d m => ?_) (by simpa using hl) (fun i U x y e1 e2 => hT (i + 1) U x y e1 e2) (r.append (.cons (show RelV (.ref T) (.ref T) from rfl) .nil)) (by simp at hz ⊢; omega) (by simpa using e) (k T _ rfl rfl (hH T mT))
    rw [upd_ne fun z => nTq (by rw [← z]; exact m)]
    exact hH d ((List.mem_cons.mp m).elim (fun z => z ▸ List.mem_cons_self) fun z => List.mem_cons_of_mem _ (List.mem_cons_of_mem _ z))
/-- a list or a tuple as the source of a zip -/
theorem zsrc {H : Hp} {a : Addr} {xs : List V} (I : Inv X pins σ H s) (h : SqL X.K H a xs ∨ SqT X.K H a xs) : ∃ (o : Obj) (Hh : Heap → Prop) (its : List Value), Vals xs its ∧ xs.length ≤ sizeLine ∧ a < s.heap.objs.size ∧ Begins (.ref a) o Hh ∧ Hh s.heap ∧
    ∀ i, a ≠ i → ∃ St : Nat → Heap → Prop, (∀ B : Around, B.handled = none → Draws X.prog X.w B i [i, a] its.length (fun j v => its[j]? = some v) St) ∧ ∀ h' : Heap, h'.get? i = some o → Hh h' → St 0 h' := by
  rcases h with h | h
  · obtain ⟨its, r, p, hz⟩ := I.list h
    refine ⟨_, _, its, r, hz, p.lt, begins_list a its.toArray, p.isList, fun i ne => ⟨fun j h => h.IsListIter i a j ∧ h.IsList a its.toArray, fun B hB => ?_, fun h' g q => ⟨⟨_, g, rfl, rfl⟩, q⟩⟩⟩
    simpa using Draws.list (prog := X.prog) (w := X.w) hB i a ne its.toArray
  · obtain ⟨its, r, p, hz⟩ := I.tuple h
    obtain ⟨o, ho, _⟩ := id p
    refine ⟨_, _, its, r, hz, Heap.lt_size ho, begins_tuple a its.toArray, (show s.heap.IsTuple a its.toArray from p), fun i ne => ⟨fun j h => h.IsTupleIter i a j ∧ h.IsTuple a its.toArray, fun B hB => ?_, fun h' g q => ⟨⟨_, g, rfl, rfl⟩, q⟩⟩⟩
    simpa using Draws.tuple (prog := X.prog) (w := X.w) hB i a ne its.toArray
end
/-- list(zip(a, b)) -/
def tLstZip (K : PySem.W.Frag) (ta : TA) : TE := fun σ H Q => ta σ H fun vs H1 => ∃ a b xs ys, vs = [.ref a, .ref b] ∧ (SqL K H1 a xs ∨ SqT K H1 a xs) ∧ (SqL K H1 b ys ∨ SqT K H1 b ys) ∧ LayP (xs.zip ys) [] H1 Q
theorem zsep (N a b : Nat) (la : a < N) (lb : b < N) : ZipSep2 (N + 4) (N + 2) (N + 3) N (N + 1) [N, a] [N + 1, b] := by
  constructor <;> first | exact Nat.ne_of_gt (by omega) | exact Nat.ne_of_lt (by omega) | (simp; done) | (simp; exact Nat.ne_of_gt (by omega))
section
variable {X : Cx}
theorem pe_listZip {e e2 : Expr} {ta : TA} {p p2 pos pos2 : Pos} (hc : X.calm = true) (hm : X.mg "list" = none) (hm2 : X.mg "zip" = none) (ha : PA X [e, e2] ta) (hg : Gl X "list" := by rfl) (hg2 : Gl X "zip" := by rfl)
    (hs : starEach [e, e2] X.env = (false, eval e X.env) :: starEach [e2] X.env := by rfl) (hpl : (backTo pos2 (starEach [e2] X.env)).any (·.1) = false := by rfl)
    (hs2 : starEach [.Call (.Name "zip" p2) [e, e2] [] pos2] X.env = (false, eval (.Call (.Name "zip" p2) [e, e2] [] pos2) X.env) :: starEach [] X.env := by rfl) :
    PE X (.Call (.Name "list" p) [.Call (.Name "zip" p2) [e, e2] [] pos2] [] pos) (tLstZip X.K ta) := by
  refine ⟨fun pins s σ H Q I h => ?_⟩
  refine Call_ (ld_blt I hg hm boot_list (PyProof.Rows.callWith_type1 (args_cons ?_ hs2) hs2))
  refine Call_ (ld_blt I hg2 hm2 PyProof.Rows.boot_zip (PyProof.Rows.callWith_type1 (thn (ha.run pos2 pins s σ H _ I h) fun us s1 ⟨vs, H1, I1, r1, q1⟩ => ?_) hs hpl))
  obtain ⟨a, b, xs, ys, ex, sa, sb, k⟩ := q1
  subst ex
  cases r1 with
  | cons r rr =>
    cases rr with
    | cons r' rr =>
      cases rr
      cases r
      cases r'
      obtain ⟨o1, F1, its1, rv1, z1, l1, B1, f1, mk1⟩ := zsrc I1 sa
      obtain ⟨o2, F2, its2, rv2, z2, l2, B2, f2, mk2⟩ := zsrc I1 sb
      have n1 := rv1.length
      have n2 := rv2.length
      obtain ⟨St1, D1, st1⟩ := mk1 s1.heap.objs.size (Nat.ne_of_lt l1)
      obtain ⟨St2, D2, st2⟩ := mk2 (s1.heap.objs.size + 1) (Nat.ne_of_lt (Nat.lt_succ_of_lt l2))
      refine zip_begins2 B1 B2 f1 f2 fun h' hz hTI hTO g1 g2 hsz hk => args_nil ?_
      have Z := zsep s1.heap.objs.size a b l1 l2
      have hn : min its1.length its2.length ≤ sizeLine := by omega
      refine callListZ (s := { s1 with heap := h' }) (I.ok.hd hc) Z D1 D2 hn ?_ ?_ hz hTO hTI (st1 h' g1 (B1.keeps _ _ f1 hk)) (st2 h' g2 (B2.keeps _ _ f2 hk)) fun h2 tk acc c kp eS P => ?_
      · intro d m
        show d < h'.objs.size
        rw [hsz]
        have m : d = s1.heap.objs.size ∨ d = a := by simpa using m
        rcases m with m | m
        · rw [m]; exact Nat.lt_add_of_pos_right (by decide)
        · rw [m]; exact Nat.lt_add_right 5 l1
      · intro d m
        show d < h'.objs.size
        rw [hsz]
        have m : d = s1.heap.objs.size + 1 ∨ d = b := by simpa using m
        rcases m with m | m
        · rw [m]; exact Nat.add_lt_add_left (by decide) _
        · rw [m]; exact Nat.lt_add_right 5 l2
      · have eS : h2.get? h'.objs.size = some { cls := .type "list", dict := none, data := .seq acc c, slots := #[] } := eS
        have P : Prs h'.objs.size (fun (j : Nat) (v : Value) => its1[j]? = some v) (fun (j : Nat) (v : Value) => its2[j]? = some v) [h'.objs.size, s1.heap.objs.size + 4, s1.heap.objs.size + 3, s1.heap.objs.size, s1.heap.objs.size + 1] h2 acc (min its1.length its2.length) := P
        obtain ⟨Ts, hTs⟩ : ∃ Ts : List Addr, Ts = acc.toList.map fun v => match v with | .ref T => T | _ => 0 := ⟨_, rfl⟩
        have gT : ∀ (i : Nat) (T : Addr), Ts[i]? = some T → acc[i]? = some (Value.ref T) := fun i T e => by
          rw [hTs, List.getElem?_map, Array.getElem?_toList] at e
          cases q : acc[i]? with
          | none => rw [q] at e; cases e
          | some v =>
            rw [q] at e
            obtain ⟨T', _, _, rfl, _⟩ := P.get i v q
            cases e
            rfl
        have eA : acc.toList = Ts.map Value.ref := by
          refine List.ext_getElem? fun i => ?_
          rw [List.getElem?_map, hTs, List.getElem?_map, Array.getElem?_toList]
          cases q : acc[i]? with
          | none => rfl
          | some v =>
            obtain ⟨T', _, _, rfl, _⟩ := P.get i v q
            rfl
        have lT : Ts.length = min its1.length its2.length := by rw [hTs, List.length_map, Array.length_toList, P.size]
        have big : ∀ T, T ∈ Ts → h'.objs.size < T := fun T m => by
          obtain ⟨i, hi⟩ := List.getElem?_of_mem m
          obtain ⟨T', _, _, e, _, _, _, _, l⟩ := P.get i _ (gT i T hi)
          cases e
          exact l
        have bigS : ∀ d, d ∈ h'.objs.size :: Ts → s1.heap.objs.size ≤ d := fun d m => by
          rcases List.mem_cons.mp m with rfl | m
          · omega
          · have := big d m
            omega
        have nd : (h'.objs.size :: Ts).Nodup := by
          refine List.nodup_cons.mpr ⟨fun m => Nat.lt_irrefl _ (big _ m), ?_⟩
          refine List.pairwise_iff_getElem.mpr fun i j hi hj lt e => ?_
          have e1 := gT i _ (List.getElem?_eq_getElem hi)
          have e2 := gT j _ (List.getElem?_eq_getElem hj)
          rw [← e] at e2
          have := P.inj i j _ e1 e2
          omega
        obtain ⟨G, ga, gb⟩ := heapBut h2 (h'.objs.size :: Ts)
        have I2 : Inv X pins σ H1 { s1 with heap := G, toks := tk } := I1.kept (t' := tk) fun d o e => by
          have ld := Heap.lt_size e
          rw [ga d fun m => Nat.lt_irrefl _ (Nat.lt_of_lt_of_le ld (bigS d m))]
          have ne : ∀ j, d ≠ s1.heap.objs.size + j := fun j => Nat.ne_of_lt (Nat.lt_of_lt_of_le ld (Nat.le_add_right _ _))
          have neS : d ≠ h'.objs.size := by rw [hsz]; exact ne 5
          exact kp d o (by simp; exact ⟨ne 4, ne 3, ne 0, ne 1⟩) (hk d o e)
        have eS2 : h2.get? h'.objs.size = some { cls := .type "list", dict := none, data := .seq ([] ++ Ts.map Value.ref).toArray c, slots := #[] } := by
          rw [List.nil_append, ← eA, Array.toArray_toList]
          exact eS
        refine lay_pairs (s := s1) Ts (xs.zip ys) [] [] H1 G I2 ga gb nd (fun d m => I1.hok.fresh (bigS d m)) (by rw [List.length_zip, lT]; omega) (fun i T x y e1 e2 => ?_) .nil (by rw [List.length_zip]; simp; omega) eS2 k
        obtain ⟨T', x', y', e, p1, p2, ht, _⟩ := P.get i _ (gT i T e1)
        cases e
        have e2' := List.getElem?_zip_eq_some.mp e2
        obtain ⟨x2, q1, r1⟩ := rv1.get e2'.1
        obtain ⟨y2, q2, r2⟩ := rv2.get e2'.2
        rw [p1] at q1
        rw [p2] at q2
        cases q1
        cases q2
        exact ⟨x', y', r1, r2, ht⟩
end
end MK
end

section
set_option Elab.async false
set_option linter.all false
set_option maxRecDepth 100000
set_option maxHeartbeats 2000000
/-! # list(zip(a, b)) -/
namespace ML
open PySem L2 MK
@[simp] def bZipL : List Sl → Option (List D)
  | [a, b] => match seqOf a, seqOf b with
    | some xs, some ys => some (zipD xs ys)
    | _, _ => none
  | _ => none
section
variable {ca : CA} {X : Cx} {pos : Pos} {e e2 : Expr}
theorem lay_go {K : PySem.W.Frag} {F : Fr} {W : WX} {Hs : Hp} {ow : Addr → Prop} {env : List Sl} {σ : St} {Q : VK} : ∀ (xs ys : List D) (us ws : List V) (done : List D) (vs : List V) (H : Hp), Rel K ca F ow env σ H →
    GoG K ca F W (PO_ K ca F) Hs ow env H σ Q (.ok (.lst (done ++ zipD xs ys)) env) → (∀ x, H x = none → Hs x = none) → RpA K ow H xs us → RpA K ow H ys ws → RpA K ow H done vs → LayP (us.zip ws) vs H Q
  | [], ys, us, ws, done, vs, H, R, g, d, r1, r2, r3 => by
    unfold RpA at r1
    subst r1
    intro q hq
    have e : done ++ zipD [] ys = done := by simp [zipD]
    rw [e] at g
    exact go_new R g d hq r3
  | x :: xs, [], us, ws, done, vs, H, R, g, d, r1, r2, r3 => by
    unfold RpA at r2
    subst r2
    rw [List.zip_nil_right]
    intro q hq
    have e : done ++ zipD (x :: xs) [] = done := by simp [zipD]
    rw [e] at g
    exact go_new R g d hq r3
  | x :: xs, y :: ys, us, ws, done, vs, H, R, g, d, r1, r2, r3 => by
    unfold RpA at r1 r2
    obtain ⟨u, us, rfl, ru, r1⟩ := r1
    obtain ⟨w, ws, rfl, rw', r2⟩ := r2
    intro T o hc hd hT
    have gr : Gr H (upd H T (.frz o (.tup [u, w]))) := Gr.new hT
    have e : done ++ zipD (x :: xs) (y :: ys) = (done ++ [.tuple [x, y]]) ++ zipD xs ys := by simp [zipD]
    rw [e] at g
    refine lay_go xs ys us ws (done ++ [.tuple [x, y]]) (vs ++ [.ref T]) _ (R.gr gr) (GoG.mono (Go.gr R gr) g) (fun a h => d a (gr.none h)) (r1.stp gr.stp) (r2.stp gr.stp) ((r3.stp gr.stp).snoc ?_)
    unfold Rp
    refine ⟨T, [u, w], rfl, .frz upd_same hd (R.free hT), ?_⟩
    unfold RpA RpA RpA
    exact ⟨u, [w], rfl, ru.stp gr.stp, w, [], rfl, rw'.stp gr.stp, rfl⟩
theorem mo_listZip {m : M (List AV)} {p p2 pos2 : Pos} (h : MA ca X [e, e2] m) (hm : X.mg "list" = none) (hm2 : X.mg "zip" = none) (hc : X.calm = true := by rfl) (hg : Gl X "list" := by rfl) (hg2 : Gl X "zip" := by rfl)
    (hs : starEach [e, e2] X.env = (false, eval e X.env) :: starEach [e2] X.env := by rfl) (hpl : (backTo pos2 (starEach [e2] X.env)).any (·.1) = false := by rfl)
    (hs2 : starEach [.Call (.Name "zip" p2) [e, e2] [] pos2] X.env = (false, eval (.Call (.Name "zip" p2) [e, e2] [] pos2) X.env) :: starEach [] X.env := by rfl) :
    MO ca X (.Call (.Name "list" p) [.Call (.Name "zip" p2) [e, e2] [] pos2] [] pos) (oBlt bZipL m) := fun F W tk =>
  PE.imp (pe_listZip hc hm hm2 (h F W tk) hg hg2 hs hpl hs2) fun σ H Q ⟨ow, env, R, g⟩ => go_bind R g fun as e1 vs ow1 H1 g1 R1 p1 q1 => by
    obtain ⟨z, ez, q⟩ := lift_go q1
    obtain ⟨ds, eds, rfl⟩ := Option.map_eq_some_iff.mp ez
    have sv := AvA.sv R1 p1
    unfold bZipL at eds
    split at eds
    · rename_i s t hst
      rw [hst] at sv
      obtain ⟨v, w, rfl, ra, rb⟩ := sva2 sv
      split at eds
      · rename_i xs ys ea eb
        cases eds
        obtain ⟨a, us, rfl, h1, k1⟩ := seqOf_ok ea ra
        obtain ⟨b, ws, rfl, h2, k2⟩ := seqOf_ok eb rb
        exact ⟨a, b, us, ws, rfl, h1, h2, lay_go xs ys us ws [] [] H1 R1 q (fun x h => g1.dom x h) k1 k2 (by unfold RpA; rfl)⟩
      · cases eds
    · cases eds
end
end ML
end

section
set_option Elab.async false
set_option linter.all false
set_option maxRecDepth 100000
set_option maxHeartbeats 2000000
/-! # l.remove(x), x in l, of data -/
namespace MK
open PySem PySem.Spec PyProof.Rows L2
def rRemD (K : PySem.W.Frag) : V → List V → Hp → VK → Prop := fun x xs H Q => ∃ (a : Addr) (y : V) (us : List V) (d : PyData) (ds : List PyData) (j : Nat) (z : PyData), x = V.ref a ∧ xs = [y] ∧ H a = some (.lst us) ∧ DpAll K H us ds ∧ Dp K H y d ∧
  SeqAt.shaped (.list ds) = true ∧ SeqAt.shaped d = true ∧ d.depth ≤ 60 ∧ ds[j]? = some z ∧ PyData.eqv z d = true ∧ (∀ (m : Nat) (z' : PyData), m < j → ds[m]? = some z' → PyData.eqv z' d = false) ∧ Q .non (upd H a (.lst (us.eraseIdx j)))
section
variable {X : Cx}
theorem mt_remD (hu : X.A.units + 64 < cLine) : MtM X "list.remove" (rRemD X.K) := by
  intro pins s σ H x xs v vs Q I rx rxs h
  obtain ⟨a, y, us, d, ds, j, z, rfl, rfl, hH, hl, hy, sl, sd, deep, hz, hzj, hno, q⟩ := h
  cases rx
  obtain ⟨uy, rfl, ry⟩ := rxs.one
  obtain ⟨bs, r1⟩ := Dp.reads I d y uy hy ry
  have hxs : PyData.canLayAll0 ds = true := SeqAt.canLay_of_shaped sl
  have hroom : X.A.units + 1 + min (PyData.depthAll ds) d.depth < cLine := by have := Nat.min_le_right (PyData.depthAll ds) d.depth; omega
  obtain ⟨zz, its, n, r, hlen, e⟩ := I.lstM hH
  obtain ⟨as, h4⟩ := Dp.readsAll I ds _ its hl r
  have hn : its.length = ds.length := SeqAt.ReadsAll.length ds its as h4
  have hmap : its.map (SeqAt.readOf s.heap) = ds := SeqAt.readsAll_map ds its as hxs h4
  obtain ⟨hjd, _⟩ := List.getElem?_eq_some_iff.mp hz
  have hjl : j < its.length := by omega
  have hj : j < its.toArray.size := by simpa using hjl
  have at_ : ∀ (m : Nat) (hm : m < its.toArray.size) (z' : PyData), ds[m]? = some z' → SeqAt.readOf s.heap its.toArray[m] = z' := by
    intro m hm z' hz'
    have hml : m < its.length := by simpa using hm
    rw [← hmap, List.getElem?_map, List.getElem?_eq_getElem hml] at hz'
    have e1 : SeqAt.readOf s.heap its[m] = z' := Option.some.inj hz'
    simpa using e1
  refine call_meets PySem.F.slot_list_remove ⟨_, e, rfl⟩ PySem.F.entry_list_remove (PySem.F.args_list_remove_2 _ _)
    (SeqAt.list_removeAt a its.toArray n none #[] uy (fun u => PyData.eqv (SeqAt.readOf s.heap u) d) j hj ?_ ?_ (by rw [List.size_toArray]; omega)) ⟨e, SeqAt.items_eqAt (vs := its.toArray) (show ReadsAll s.heap its.toArray.toList ds as from h4) r1 hxs (SeqAt.canLay_of_shaped sd) hroom, ?_⟩
  · show PyData.eqv (SeqAt.readOf s.heap its.toArray[j]) d = true
    rw [at_ j hj z hz]
    exact hzj
  · intro m hm hmj
    have hmd : m < ds.length := by omega
    have hz' : ds[m]? = some ds[m] := List.getElem?_eq_getElem hmd
    show PyData.eqv (SeqAt.readOf s.heap its.toArray[m]) d = false
    rw [at_ m hm _ hz']
    exact hno m _ hmj hz'
  · refine ⟨.non, _, I.lset (its' := its.eraseIdx j) hH e ?_ (r.eraseIdx j) ?_, rfl, q⟩
    · show its.toArray.eraseIdxIfInBounds j = (its.eraseIdx j).toArray
      rw [List.eraseIdxIfInBounds_toArray]
    · have := List.length_eraseIdx_le us j
      omega
end
end MK
namespace ML
open PySem L2
/-- the list without its first item that equals d -/
@[simp] def remD : List D → D → Option (List D)
  | [], _ => none
  | z :: zs, d => if PyData.eqv z d = true then some zs else (remD zs d).map (z :: ·)
theorem remD_ok : ∀ {xs ys : List D} {d : D}, remD xs d = some ys → ∃ (j : Nat) (z : D), xs[j]? = some z ∧ PyData.eqv z d = true ∧ (∀ (m : Nat) (z' : D), m < j → xs[m]? = some z' → PyData.eqv z' d = false) ∧ ys = xs.eraseIdx j
  | [], _, _, h => by cases h
  | z :: zs, ys, d, h => by
    unfold remD at h
    by_cases q : PyData.eqv z d = true
    · rw [if_pos q] at h
      cases h
      exact ⟨0, z, rfl, q, fun m z' hm => absurd hm (Nat.not_lt_zero _), rfl⟩
    · rw [if_neg q] at h
      obtain ⟨ws, e, rfl⟩ := Option.map_eq_some_iff.mp h
      obtain ⟨j, u, h1, h2, h3, rfl⟩ := remD_ok e
      refine ⟨j + 1, u, h1, h2, fun m z' hm e => ?_, rfl⟩
      cases m with
      | zero =>
        cases e
        exact Bool.eq_false_iff.mpr q
      | succ m => exact h3 m z' (by omega) e
theorem RpA.eraseIdx {K : PySem.W.Frag} {ow : Addr → Prop} {H : Hp} : ∀ {xs : List D} {us : List V} (j : Nat), RpA K ow H xs us → RpA K ow H (xs.eraseIdx j) (us.eraseIdx j)
  | [], _, j, h => by
    unfold RpA at h
    subst h
    show RpA K ow H [] []
    unfold RpA; rfl
  | x :: xs, _, 0, h => by
    unfold RpA at h
    obtain ⟨u, us, rfl, _, h2⟩ := h
    exact h2
  | x :: xs, _, j + 1, h => by
    unfold RpA at h
    obtain ⟨u, us, rfl, h1, h2⟩ := h
    show RpA K ow H (x :: xs.eraseIdx j) (u :: us.eraseIdx j)
    unfold RpA
    exact ⟨u, _, rfl, h1, RpA.eraseIdx j h2⟩
@[simp] def fRem : List D → List Sl → Option (D × List D) := fun xs ss => match ss with
  | [s] => (slD s).bind fun y => if eqOk (.list xs) = true ∧ eqOk y = true ∧ y.depth ≤ 60 then (remD xs y).map fun ys => (.none, ys) else none
  | _ => none
theorem mts_rem {ca : CA} {K : PySem.W.Frag} : MtS K ca (MK.rRemD K) fRem := fun xs ss z ys ow H p vs us Q hf h1 w h2 h3 k => by
  unfold fRem at hf
  split at hf
  · obtain ⟨y, ey, hf⟩ := Option.bind_eq_some_iff.mp hf
    by_cases q : eqOk (.list xs) = true ∧ eqOk y = true ∧ y.depth ≤ 60
    · rw [if_pos q] at hf
      obtain ⟨ws, e, e2⟩ := Option.map_eq_some_iff.mp hf
      cases e2
      obtain ⟨q1, q2, q3⟩ := q
      obtain ⟨a1, a2⟩ := Bool.and_eq_true_iff.mp q1
      obtain ⟨b1, b2⟩ := Bool.and_eq_true_iff.mp q2
      unfold noDct at a1
      obtain ⟨v, rfl, hv⟩ := sva1 h3
      obtain ⟨j, u, c1, c2, c3, rfl⟩ := remD_ok e
      exact ⟨p, v, vs, y, xs, j, u, rfl, rfl, h1, dpA_of _ _ h2 a1, slD_dp ey hv b1, a2, b2, q3, c1, c2, c3, k .non _ (by unfold Rp; rfl) (h2.eraseIdx j)⟩
    · rw [if_neg q] at hf
      cases hf
  · cases hf
end ML
end

section
set_option Elab.async false
set_option linter.all false
set_option maxRecDepth 100000
set_option maxHeartbeats 2000000
/-! # t * k, k from 0 on -/
namespace MK
open PySem PySem.Spec PyProof.Rows L2
theorem mulW1 (l : Addr) (items : Array Value) (n : Nat) (dd : Option Addr) (sl : Array (Option Value)) (x : Int) (u : Tok) (c0 : (decide (x < -(2 ^ 63)) || decide (x ≥ 2 ^ 63)) = false) (c1 : (items.isEmpty || x == 1) = true) :
    Meets (Builtin.«tuple.__mul__» ⟨[.ref l, .int x u], []⟩) (fun _ R s => s.heap.get? l = some { cls := .type "tuple", dict := dd, data := .seq items n, slots := sl } ∧ R (.ok (.ret (.ref l))) s) :=
  .of_wp fun prog w A R s h => by
    obtain ⟨hp, g, d, tk, os⟩ := s
    obtain ⟨hl, h⟩ := h
    have f1 := AutoSeq1.idx_int
    wp_walk using wpAny_loadPart' hl
    repeat (first
      | (refine wpAny_ite_false (decide_eq_false (by rw [c0]; exact Bool.false_ne_true)) ?_; wp_walk using wpAny_loadPart' hl)
      | (refine wpAny_ite_true (decide_eq_true c1) ?_; wp_walk using wpAny_loadPart' hl))
    exact ⟨_, rfl, h⟩
theorem mulW0 (l : Addr) (items : Array Value) (n : Nat) (dd : Option Addr) (sl : Array (Option Value)) (x : Int) (u : Tok) (c0 : (decide (x < -(2 ^ 63)) || decide (x ≥ 2 ^ 63)) = false) (c1 : (items.isEmpty || x == 1) = false) (c2 : (decide (x ≤ 0) || items.isEmpty) = true) :
    Meets (Builtin.«tuple.__mul__» ⟨[.ref l, .int x u], []⟩) (fun _ R s => s.heap.get? l = some { cls := .type "tuple", dict := dd, data := .seq items n, slots := sl } ∧
      R (.ok (.ret (Value.ref s.heap.objs.size))) { s with heap := s.heap.push { cls := Value.type "tuple", data := Data.seq #[] }, toks := s.toks }) :=
  .of_wp fun prog w A R s h => by
    obtain ⟨hp, g, d, tk, os⟩ := s
    obtain ⟨hl, h⟩ := h
    have f1 := AutoSeq1.idx_int
    wp_walk using wpAny_loadPart' hl
    repeat (first
      | (refine wpAny_ite_false (decide_eq_false (by rw [c0]; exact Bool.false_ne_true)) ?_; wp_walk using wpAny_loadPart' hl)
      | (refine wpAny_ite_false (decide_eq_false (by rw [c1]; exact Bool.false_ne_true)) ?_; wp_walk using wpAny_loadPart' hl)
      | (refine wpAny_ite_true (decide_eq_true c2) ?_; wp_walk using wpAny_loadPart' hl))
    exact ⟨_, rfl, h⟩
end MK
end

section
set_option Elab.async false
set_option linter.all false
set_option maxRecDepth 100000
set_option maxHeartbeats 2000000
/-! # t * k: the operator -/
namespace MK
open PySem PySem.Spec PyProof.Rows L2
def rRepZ (K : PySem.W.Frag) : R2 := fun x y H Q => ∃ l k xs, x = .ref l ∧ y = .int k ∧ SqT K H l xs ∧ 0 ≤ k ∧ k ≤ 1000 ∧ xs.length ≤ 1000 ∧ (xs = [] ∨ k = 1 → Q (.ref l) H) ∧ (xs ≠ [] → k ≠ 1 → NewT (List.replicate k.toNat xs).flatten H Q)
section
variable {X : Cx}
theorem op_repZ : OpR X (binaryOp .Mult) (rRepZ X.K) := by
  intro pins s σ H x y v u Q I rx ry h
  obtain ⟨l, k, xs, rfl, rfl, hT, h1, h2, hz, q1, q2⟩ := h
  cases rx
  obtain ⟨t, rfl⟩ := ry
  obtain ⟨its, r, ⟨⟨cls, dd, data, sl⟩, ho, hc, n, hd⟩, hs⟩ := I.tuple hT
  simp only at hc hd
  subst hc hd
  have hle : its.length = xs.length := r.length.symm
  have c0 : (decide (k < -(2 ^ 63)) || decide (k ≥ 2 ^ 63)) = false := by
    rw [decide_eq_false (by omega), decide_eq_false (by omega)] <;> rfl
  refine wpAny_binaryOp_repeat_ref (T := "tuple") (U := "int") (by decide) ⟨_, ho, rfl⟩ (fun s' => typeIs_int s' k t) noFill_tuple_mul F.fills_int_mul F.slot_int_rmul repeat_tuple F.slot_int_index.lookup
    (call_meets F.slot_int_rmul (typeIs_int s k t) F.entry_int_rmul (F.args_int_rmul_2 _ _) (int_rmul_tuple k t l its.toArray n dd sl)
      ⟨ho, rfl, ⟨_, ho, rfl⟩, ?_⟩)
  by_cases hw : xs = [] ∨ k = 1
  · have c1 : (its.toArray.isEmpty || k == 1) = true := by
      rcases hw with e | e
      · have : its = [] := List.eq_nil_of_length_eq_zero (by rw [hle, e]; rfl)
        rw [this]; rfl
      · rw [e]; simp
    exact call_meets F.slot_tuple_mul ⟨_, ho, rfl⟩ F.entry_tuple_mul (F.args_tuple_mul_2 _ _) (mulW1 l its.toArray n dd sl k t c0 c1) ⟨ho, .ref l, _, I, rfl, q1 hw⟩
  · obtain ⟨hne, hk1⟩ := not_or.mp hw
    have hn : its ≠ [] := fun e => hne (by
      rw [e] at hle
      exact List.eq_nil_of_length_eq_zero hle.symm)
    have hi : its.toArray.isEmpty = false := by
      cases its with
      | nil => exact absurd rfl hn
      | cons a b => rfl
    have c1 : (its.toArray.isEmpty || k == 1) = false := by
      rw [hi, Bool.false_or]
      exact beq_eq_false_iff_ne.mpr hk1
    by_cases h0 : k = 0
    · have c2 : (decide (k ≤ 0) || its.toArray.isEmpty) = true := by rw [decide_eq_true (by omega)]; rfl
      refine call_meets F.slot_tuple_mul ⟨_, ho, rfl⟩ F.entry_tuple_mul (F.args_tuple_mul_2 _ _) (mulW0 l its.toArray n dd sl k t c0 c1 c2) ⟨ho, ?_⟩
      have e : (List.replicate k.toNat xs).flatten = [] := by rw [h0]; rfl
      have q := q2 hne hk1
      rw [e] at q
      exact layT (t' := s.toks) I (Nat.zero_le _) .nil q
    · have hsz0 : its.toArray.size = xs.length := by rw [List.size_toArray, hle]
      have hm : ((its.toArray.size : Nat) : Int) * k ≤ 1000000 := by
        rw [hsz0]
        have a1 : ((xs.length : Nat) : Int) * k ≤ 1000 * k := Int.mul_le_mul_of_nonneg_right (by omega) (by omega)
        omega
      have flen : (List.replicate k.toNat its).flatten.length ≤ sizeLine := by
        rw [PyProof.Rows.lm_len_rep_flat, hle, sizeLine_eq]
        have a1 : k.toNat * xs.length ≤ 1000 * 1000 := Nat.mul_le_mul (by omega) hz
        omega
      have c2 : (decide (k ≤ 0) || its.toArray.isEmpty) = false := by
        rw [hi, Bool.or_false]
        exact decide_eq_false (by omega)
      have c4 : Builtin.Tuple.tupleTooMany (((its.toArray.size : Nat) : Int) * k) = false := by
        unfold Builtin.Tuple.tupleTooMany
        rw [sizeLine_eq]
        exact decide_eq_false (by omega)
      refine call_meets F.slot_tuple_mul ⟨_, ho, rfl⟩ F.entry_tuple_mul (F.args_tuple_mul_2 _ _) (tuple_mulW l its.toArray n dd sl k t c0 c1 c2 (by omega) c4 (by rw [size_rep, List.size_toArray]; exact flen)) ⟨ho, ?_⟩
      rw [size_rep]
      exact layT (t' := s.toks) I (by rw [PyProof.Rows.lm_len_rep_flat, sizeLine_eq]; have a1 : k.toNat * xs.length ≤ 1000 * 1000 := Nat.mul_le_mul (by omega) hz; omega) (r.rep k.toNat) (q2 hne hk1)
end
end MK
namespace ML
open PySem L2
/-- t * k, or a product of ints -/
@[simp] def gRep : Sl → Sl → Option D
  | .d (.tuple xs), .d (.int k) => if 0 ≤ k ∧ k ≤ 1000 ∧ xs.length ≤ 1000 then some (.tuple (List.replicate k.toNat xs).flatten) else none
  | _, _ => none
theorem RpA.rep {K : PySem.W.Frag} {ow : Addr → Prop} {H : Hp} {xs : List D} {us : List V} (h : RpA K ow H xs us) : ∀ n : Nat, RpA K ow H (List.replicate n xs).flatten (List.replicate n us).flatten
  | 0 => by
    show RpA K ow H [] []
    unfold RpA; rfl
  | n + 1 => by
    rw [List.replicate_succ, List.replicate_succ, List.flatten_cons, List.flatten_cons]
    exact RpA.append h (RpA.rep h n)
theorem s_rep {ca : CA} {K : PySem.W.Frag} : OpS K ca (MK.rRepZ K) gRep := fun s t z ow H v1 v2 Q e r1 r2 tr k => by
  unfold gRep at e
  split at e
  · rename_i xs n
    obtain ⟨⟨h0, h1, h2⟩, rfl⟩ := ite_some e
    have p1 : Rp K ow H (.tuple xs) v1 := r1 (by simp)
    have p2 : Rp K ow H (.int n) v2 := r2 (by simp)
    have p1' := p1
    unfold Rp at p1' p2
    obtain ⟨a, us, rfl, t1, r⟩ := p1'
    subst p2
    refine ⟨a, n, us, rfl, rfl, t1.sq, h0, h1, by rw [← r.length]; exact h2, fun hw => ?_, fun _ _ p o hc hd hp => ?_⟩
    · refine k _ H Gr.refl ?_
      have e2 : (List.replicate n.toNat xs).flatten = xs := by
        rcases hw with z | z
        · have : xs = [] := List.eq_nil_of_length_eq_zero (by rw [r.length, z]; rfl)
          rw [this]
          induction n.toNat with
          | zero => rfl
          | succ m ih => rw [List.replicate_succ, List.flatten_cons, ih]; rfl
        · rw [z]; simp
      rw [e2]
      exact p1
    · refine k _ _ (Gr.new hp) ?_
      unfold Rp
      exact ⟨p, _, rfl, .frz upd_same hd (fun w => by obtain ⟨o', h'⟩ := tr p w; rw [h'] at hp; cases hp), (r.rep n.toNat).stp (Gr.new hp).stp⟩
  · cases e
end ML
end

section
set_option Elab.async false
set_option linter.all false
set_option maxRecDepth 100000
set_option maxHeartbeats 2000000
/-! # Plain lemmas on mirrors -/
namespace ML
open PySem (Str)
/-- a comprehension that comes back to its start at each turn -/
theorem compL_map {g : GF} {tt : M Bool} {te : M D} {vs : List Nat} {e0 : List Sl} {p : D → Bool} {f : D → D} : ∀ (ds done : List D),
    (∀ d ∈ ds, ∃ e1, g d e0 = some e1 ∧ tt e1 = .ok (p d) e1 ∧ (p d = true → te e1 = .ok (f d) e1) ∧ wipeE e1 vs = e0) → done.length + ds.length ≤ LIM →
    compL g tt te vs ds done e0 = .ok (done ++ (ds.filter p).map f) e0 := by
  intro ds
  induction ds with
  | nil => intro done _ _; simp [compL]
  | cons d ds ih =>
    intro done h hl
    obtain ⟨e1, h1, h2, h3, h4⟩ := h d List.mem_cons_self
    rw [List.length_cons] at hl
    rw [compL, h1]
    dsimp only
    rw [h2]
    cases hp : p d with
    | true =>
      dsimp only
      rw [h3 hp]
      dsimp only
      rw [if_pos (show done.length < LIM by omega), h4, ih _ (fun x hx => h x (List.mem_cons_of_mem _ hx)) (by rw [List.length_append, List.length_singleton]; omega)]
      simp [hp]
    | false =>
      dsimp only
      rw [h4, ih _ (fun x hx => h x (List.mem_cons_of_mem _ hx)) (by omega)]
      simp [hp]
theorem forL_all {g : GF} {mb : MStm} {Inv : List D → List Sl → Prop} : ∀ (ds : List D) (e : List Sl), Inv ds e → (∀ d r e, Inv (d :: r) e → ∃ e1 e2, g d e = some e1 ∧ mb e1 = .nx e2 ∧ Inv r e2) → ∃ e', forL g mb ds e = .nx e' ∧ Inv [] e' := by
  intro ds
  induction ds with
  | nil => intro e h _; exact ⟨e, rfl, h⟩
  | cons d r ih =>
    intro e h s
    obtain ⟨e1, e2, h1, h2, h3⟩ := s d r e h
    obtain ⟨e', h4, h5⟩ := ih e2 h3 s
    refine ⟨e', ?_, h5⟩
    rw [forL, h1]
    dsimp only
    rw [h2]
    exact h4
/-- a loop whose turns come back with a state -/
theorem forL_to {σ : Type} {enc : σ → List Sl} {g : GF} {mb : MStm} : ∀ (ds : List D) (P : List D → σ → Prop), (∀ d r s, P (d :: r) s → ∃ e1 s', g d (enc s) = some e1 ∧ mb e1 = .nx (enc s') ∧ P r s') → ∀ s, P ds s → ∃ s', forL g mb ds (enc s) = .nx (enc s') ∧ P [] s' := by
  intro ds P hs
  induction ds with
  | nil => intro s h; exact ⟨s, rfl, h⟩
  | cons d r ih =>
    intro s h
    obtain ⟨e1, s1, h1, h2, h3⟩ := hs d r s h
    obtain ⟨s2, h4, h5⟩ := ih s1 h3
    refine ⟨s2, ?_, h5⟩
    rw [forL, h1]
    dsimp only
    rw [h2]
    exact h4
theorem forL_fold {σ : Type} {enc : σ → List Sl} {g : GF} {mb : MStm} {f : σ → D → σ} : ∀ (ds : List D) (P : List D → σ → Prop), (∀ d r s, P (d :: r) s → ∃ e1, g d (enc s) = some e1 ∧ mb e1 = .nx (enc (f s d)) ∧ P r (f s d)) → ∀ s, P ds s → forL g mb ds (enc s) = .nx (enc (ds.foldl f s)) := by
  intro ds P hs
  induction ds with
  | nil => intro s h; rfl
  | cons d r ih =>
    intro s h
    obtain ⟨e1, h1, h2, h3⟩ := hs d r s h
    rw [forL, h1]
    dsimp only
    rw [h2]
    exact ih _ h3
/-- a comprehension whose turns change the state -/
theorem compL_to {σ : Type} {enc : σ → List Sl} {g : GF} {te : M D} {vs : List Nat} : ∀ (ds : List D) (P : List D → List D → σ → Prop), (∀ d r done s, P (d :: r) done s → ∃ e1 y e2 s', g d (enc s) = some e1 ∧ te e1 = .ok y e2 ∧ wipeE e2 vs = enc s' ∧ P r (done ++ [y]) s') →
    ∀ done s, P ds done s → done.length + ds.length ≤ LIM → ∃ ys s', compL g (ret true) te vs ds done (enc s) = .ok ys (enc s') ∧ P [] ys s' ∧ ys.length = done.length + ds.length := by
  intro ds P hs
  induction ds with
  | nil => intro done s h _; exact ⟨done, s, by simp [compL], h, by simp⟩
  | cons d r ih =>
    intro done s h hl
    rw [List.length_cons] at hl
    obtain ⟨e1, y, e2, s1, h1, h2, h3, h4⟩ := hs d r done s h
    obtain ⟨ys, s2, h5, h6, h7⟩ := ih (done ++ [y]) s1 h4 (by rw [List.length_append, List.length_singleton]; omega)
    refine ⟨ys, s2, ?_, h6, by rw [h7, List.length_append, List.length_singleton, List.length_cons]; omega⟩
    rw [compL, h1]
    show (match te e1 with
        | .ok y e3 => if done.length < LIM then compL g (ret true) te vs r (done ++ [y]) (wipeE e3 vs) else .bad
        | _ => .bad) = _
    rw [h2]
    dsimp only
    rw [if_pos (show done.length < LIM by omega), h3]
    exact h5
end ML
end

section
set_option Elab.async false
set_option linter.all false
set_option maxRecDepth 100000
set_option maxHeartbeats 2000000
/-! # Mirrors, applied to slots -/
namespace ML
open PySem (Str)
open L2 (Key)
section
variable {α β : Type} {e : List Sl}
@[simp] theorem bind_e {m : M α} {f : α → M β} : ML.bind m f e = (match m e with
  | .ok a e' => f a e'
  | .ex c e' => .ex c e'
  | .bad => .bad) := rfl
@[simp] theorem ret_e {a : α} : ML.ret a e = .ok a e := rfl
@[simp] theorem lift_some {a : α} : ML.lift (some a) e = .ok a e := rfl
@[simp] theorem lift_none : ML.lift (none : Option α) e = .bad := rfl
@[simp] theorem bindO_some {a : α} {f : α → M β} : bindO (some a) f e = f a e := rfl
@[simp] theorem bindO_none {f : α → M β} : bindO none f e = .bad := rfl
@[simp] theorem eC_e {d : D} : eC d e = .ok d e := rfl
@[simp] theorem eV_e {i : Nat} : eV i e = (match e[i]? with
  | some (.d x) => .ok x e
  | some (.o true (.lst xs)) => .ok (.list xs) (e.set i (.d (.list xs)))
  | _ => .bad) := rfl
@[simp] theorem okR_e {i : Nat} : okR i e = (match e[i]? with
  | some .un => .bad
  | some _ => .ok () e
  | none => .bad) := rfl
@[simp] theorem qD_e {m : M D} : qD m e = ML.bind m (fun x => ML.ret (.d x)) e := rfl
@[simp] theorem qR_e {i : Nat} : qR i e = ML.bind (okR i) (fun _ => ML.ret (.ref i)) e := rfl
@[simp] theorem qF_e {m : M Ob} : qF m e = ML.bind m (fun x => ML.ret (.fr x)) e := rfl
@[simp] theorem e2_e {g : Sl → Sl → Option D} {a b : M AV} : e2 g a b e = ML.bind a (fun a => ML.bind b fun b => fun e => ML.lift (g (content e a) (content e b)) e) e := rfl
@[simp] theorem b2_e {g : Sl → Sl → Option D} {a b : M AV} : b2 g a b e = ML.bind a (fun a => ML.bind b fun b => fun e => ML.lift ((g (content e a) (content e b)).bind dB) e) e := rfl
@[simp] theorem o2_e {g : Sl → Sl → Option (List D)} {a b : M AV} : o2 g a b e = ML.bind a (fun a => ML.bind b fun b => fun e => ML.lift ((g (content e a) (content e b)).map Ob.lst) e) e := rfl
@[simp] theorem aNil_e : aNil e = .ok [] e := rfl
@[simp] theorem aD_e {m : M D} {r : M (List AV)} : aD m r e = ML.bind m (fun x => ML.bind r fun xs => ML.ret (.d x :: xs)) e := rfl
@[simp] theorem aR_e {i : Nat} {r : M (List AV)} : aR i r e = ML.bind (okR i) (fun _ => ML.bind r fun xs => ML.ret (.ref i :: xs)) e := rfl
@[simp] theorem aF_e {m : M Ob} {r : M (List AV)} : aF m r e = ML.bind m (fun x => ML.bind r fun xs => ML.ret (.fr x :: xs)) e := rfl
@[simp] theorem eO_e {m : M Ob} : eO m e = ML.bind m (fun k => ML.lift (obD k)) e := rfl
@[simp] theorem eBlt_e {g : List Sl → Option D} {m : M (List AV)} : eBlt g m e = ML.bind m (fun as => fun e => ML.lift (g (contents e as)) e) e := rfl
@[simp] theorem oBlt_e {g : List Sl → Option (List D)} {m : M (List AV)} : oBlt g m e = ML.bind m (fun as => fun e => ML.lift ((g (contents e as)).map Ob.lst) e) e := rfl
@[simp] theorem eTup_e {m : M (List AV)} : eTup m e = ML.bind m (fun as => ML.lift ((datas as).bind fun xs => if xs.length ≤ LIM then some (.tuple xs) else none)) e := rfl
@[simp] theorem oLst_e {m : M (List AV)} : oLst m e = ML.bind m (fun as => ML.lift ((datas as).bind fun xs => if xs.length ≤ LIM then some (.lst xs) else none)) e := rfl
@[simp] theorem eNot_e {m : M D} : eNot m e = ML.bind m (fun x => ML.lift ((dB x).map fun b => .bool (!b))) e := rfl
@[simp] theorem eIf_e {t : M Bool} {m n : M D} : eIf t m n e = ML.bind t (fun b => if b = true then m else n) e := rfl
@[simp] theorem oIf_e {t : M Bool} {m n : M Ob} : oIf t m n e = ML.bind t (fun b => if b = true then m else n) e := rfl
@[simp] theorem eAnd_e {m n : M D} : eAnd m n e = ML.bind m (fun x => fun e => match x with
  | .bool true => n e
  | .bool false => .ok (.bool false) e
  | _ => .bad) e := rfl
@[simp] theorem eOr_e {m n : M D} : eOr m n e = ML.bind m (fun x => fun e => match x with
  | .bool true => .ok (.bool true) e
  | .bool false => n e
  | _ => .bad) e := rfl
@[simp] theorem tB_e {m : M D} : tB_ m e = ML.bind m (fun x => ML.lift (dB x)) e := rfl
@[simp] theorem tNot_e {m : M Bool} : tNot_ m e = ML.bind m (fun b => ML.ret (!b)) e := rfl
@[simp] theorem tAnd_e {m n : M Bool} : tAnd_ m n e = ML.bind m (fun b => if b = true then n else ML.ret false) e := rfl
@[simp] theorem tOr_e {m n : M Bool} : tOr_ m n e = ML.bind m (fun b => if b = true then ML.ret true else n) e := rfl
@[simp] theorem e1_e {g : Sl → Option D} {m : M D} : e1 g m e = ML.bind m (fun x => ML.lift (g (.d x))) e := rfl
@[simp] theorem eIsi_e {T : String} {m : M D} : eIsi T m e = ML.bind m (fun x => ML.ret (.bool (isTy T x))) e := rfl
@[simp] theorem okL_e {i : Nat} : okL i e = (match e[i]? with
  | some (.o _ (.lst _)) => .ok () e
  | _ => .bad) := rfl
@[simp] theorem mutL_e {i : Nat} {f : List D → Option (D × List D)} : mutL i f e = (match e[i]? with
  | some (.o l (.lst xs)) => match f xs with
    | some (z, ys) => .ok z (e.set i (.o l (.lst ys)))
    | none => .bad
  | _ => .bad) := rfl
@[simp] theorem eMt_e {i : Nat} {f : List D → List Sl → Option (D × List D)} {m : M (List AV)} : eMt i f m e = ML.bind (okL i) (fun _ => ML.bind m fun as => fun e => mutL i (fun xs => f xs (contents e as)) e) e := rfl
@[simp] theorem iD_e {m : M D} : iD m e = ML.bind m (fun x => ML.lift (dItems x)) e := rfl
@[simp] theorem iRg_e {f : List AV → Option (List D)} {m : M (List AV)} : iRg f m e = ML.bind m (fun as => ML.lift (f as)) e := rfl
@[simp] theorem iEn_e {m : M D} : iEn m e = ML.bind m (fun x => ML.lift ((dLst x).map (enumD 0))) e := rfl
@[simp] theorem iEnA_e {m : M D} : iEnA m e = ML.bind m (fun x => ML.lift ((dSeq x).map (enumD 0))) e := rfl
@[simp] theorem ptI_e {m : M D} : ptI m e = ML.bind m (fun x => ML.lift ((dI x).map some)) e := rfl
@[simp] theorem eSl_e {g : Sl → Option Int → Option Int → Option D} {m : M AV} {ml mh : M (Option Int)} : eSl g m ml mh e = ML.bind m (fun a => ML.bind ml fun lo => ML.bind mh fun hi => fun e => ML.lift (g (content e a) lo hi) e) e := rfl
@[simp] theorem oSl_e {g : Sl → Option Int → Option Int → Option (List D)} {m : M AV} {ml mh : M (Option Int)} : oSl g m ml mh e = ML.bind m (fun a => ML.bind ml fun lo => ML.bind mh fun hi => fun e => ML.lift ((g (content e a) lo hi).map Ob.lst) e) e := rfl
@[simp] theorem eIndex_e {mo m : M D} : eIndex mo m e = ML.bind mo (fun x => bindO (dStr x) fun a => ML.bind m fun y => bindO (dStr y) fun b => ML.lift ((PySem.Txt.index0 a b).map fun k => .int (k : Nat))) e := rfl
@[simp] theorem eJoin_e {mo : M D} {m : M AV} : eJoin mo m e = ML.bind mo (fun x => bindO (dStr x) fun a => ML.bind m fun v => fun e => ML.lift ((slL (content e v)).bind fun xs => (dStrs xs).bind fun ys => if joinOk a ys = true then some (.str (PySem.Txt.join a ys)) else none) e) e := rfl
@[simp] theorem eRevT_e {m : M D} : eRevT m e = ML.bind m (fun x => ML.lift ((dTup x).map fun xs => .tuple xs.reverse)) e := rfl
@[simp] theorem oRevL_e {m : M D} : oRevL m e = ML.bind m (fun x => ML.lift ((dTup x).map fun xs => .lst xs.reverse)) e := rfl
@[simp] theorem oDct_e {m : M (List (Key × D))} : oDct m e = ML.bind m (fun kvs => ML.lift (if nodupK kvs = true ∧ kvs.length ≤ 15 then some (.dct kvs) else none)) e := rfl
@[simp] theorem kNil_e : kNil e = .ok [] e := rfl
@[simp] theorem kCons_e {mk mv : M D} {r : M (List (Key × D))} : kCons mk mv r e = ML.bind mk (fun x => bindO (keyOf x) fun k => ML.bind mv fun y => ML.bind r fun kvs => ML.ret ((k, y) :: kvs)) e := rfl
@[simp] theorem eDGet_e {mo : M Ob} {my : M D} : eDGet mo my e = ML.bind mo (fun k => bindO (obK k) fun kvs => ML.bind my fun y => bindO (keyOf y) fun ky => ML.lift (valD kvs ky)) e := rfl
@[simp] theorem eFld_e {i : Nat} {c f : Str} : eFld i c f e = (match e[i]? with
  | some (.o _ (.ins c' fs)) => if c' = c then ML.lift (fs.lookup f) e else .bad
  | _ => .bad) := rfl
@[simp] theorem eChain_e {g g' : Sl → Sl → Option D} {ma mb mc : M AV} : eChain g g' ma mb mc e = ML.bind ma (fun a => ML.bind mb fun b => fun e => match (g (content e a) (content e b)).bind dB with
  | some true => ML.bind mc (fun c => fun e => ML.lift (g' (content e b) (content e c)) e) e
  | some false => .ok (.bool false) e
  | none => .bad) e := rfl
@[simp] theorem xS_e {m : M α} {f : α → MStm} : xS m f e = (match m e with
  | .ok a e' => f a e'
  | .ex c e' => .ex c e'
  | .bad => .bad) := rfl
@[simp] theorem sNil_e : sNil e = .nx e := rfl
@[simp] theorem sBk_e : sBk e = .bk e := rfl
@[simp] theorem sCt_e : sCt e = .ct e := rfl
@[simp] theorem sSeq_e {m n : MStm} : sSeq m n e = (match m e with
  | .nx e' => n e'
  | r => r) := rfl
@[simp] theorem sSet_e {i : Nat} {m : M D} : sSet i m e = xS m (fun x e => .nx (e.set i (.d x))) e := rfl
@[simp] theorem sSetO_e {i : Nat} {m : M Ob} : sSetO i m e = xS m (fun k e => .nx (e.set i (.o true k))) e := rfl
@[simp] theorem sDrop_e {m : M D} : sDrop m e = xS m (fun _ e => .nx e) e := rfl
@[simp] theorem sIf_e {t : M Bool} {m n : MStm} : sIf t m n e = xS t (fun b => if b = true then m else n) e := rfl
@[simp] theorem sRet_e {m : M D} : sRet m e = xS m (fun x e => .rt (.d x) e) e := rfl
@[simp] theorem sRetO_e {m : M Ob} : sRetO m e = xS m (fun k e => .rt (.o k) e) e := rfl
@[simp] theorem sRetV_e {i : Nat} : sRetV i e = (match e[i]? with
  | some (.d x) => .rt (.d x) e
  | some (.o true k) => .rt (.o k) (e.set i .un)
  | _ => .bad) := rfl
@[simp] theorem sRaise_e {c : Str} : sRaise c e = .ex c e := rfl
@[simp] theorem sAsg_e {g : GF} {m : M D} : sAsg g m e = xS m (fun x => fun e => match g x e with
  | some e' => .nx e'
  | none => .bad) e := rfl
@[simp] theorem sAug_e {i : Nat} {g : Sl → Sl → Option D} {m : M D} : sAug i g m e = (match e[i]? with
  | some (.d x) => xS m (fun y e2 => match g (.d x) (.d y) with
    | some z => .nx (e2.set i (.d z))
    | none => .bad) e
  | _ => .bad) := rfl
@[simp] theorem setF_e {i : Nat} {c f : Str} {v : D} : setF i c f v e = (match e[i]? with
  | some (.o l (.ins c' fs)) => if c' = c ∧ fs.length < 1000 then .nx (e.set i (.o l (.ins c (putFD f v fs)))) else .bad
  | _ => .bad) := rfl
@[simp] theorem sFld_e {i : Nat} {c f : Str} {m : M D} : sFld_ i c f m e = xS m (fun v => setF i c f v) e := rfl
@[simp] theorem sAugF_e {i : Nat} {c f : Str} {g : Sl → Sl → Option D} {m : M D} : sAugF i c f g m e = xS (eFld i c f) (fun x => xS m fun y => fun e => match g (.d x) (.d y) with
  | some z => setF i c f z e
  | none => .bad) e := rfl
@[simp] theorem sFor_e {mi : M (List D)} {g : GF} {mb : MStm} : sFor mi g mb e = xS mi (fun ds => forL g mb ds) e := rfl
@[simp] theorem sPar_e {i j : Nat} {m : M (List AV)} : sPar i j m e = xS m (fun as => fun e => match as with
  | [a, b] => match avSl a, avSl b with
    | some s, some t => .nx ((e.set i s).set j t)
    | _, _ => .bad
  | _ => .bad) e := rfl
@[simp] theorem gGe_e {i j : Int} : gGe (.d (.int i)) (.d (.int j)) = some (.bool (decide (j ≤ i))) := rfl
@[simp] theorem gGt_e {i j : Int} : gGt (.d (.int i)) (.d (.int j)) = some (.bool (decide (j < i))) := rfl
@[simp] theorem gLe_e {i j : Int} : gLe (.d (.int i)) (.d (.int j)) = some (.bool (decide (i ≤ j))) := rfl
@[simp] theorem gLt_e {i j : Int} : gLt (.d (.int i)) (.d (.int j)) = some (.bool (decide (i < j))) := rfl
@[simp] theorem gSub_e {i j : Int} : gSub (.d (.int i)) (.d (.int j)) = some (.int (i - j)) := rfl
@[simp] theorem gMod_e {i j : Int} : gMod (.d (.int i)) (.d (.int j)) = if 0 < j then some (.int (i % j)) else none := by
  show (if 0 < j then some (i % j) else none : Option Int).map PySem.PyData.int = _
  split <;> rfl
@[simp] theorem gDiv_e {i j : Int} : gDiv (.d (.int i)) (.d (.int j)) = if 0 < j ∧ j.natAbs < 1073741824 then some (.int (i / j)) else none := by
  show (if 0 < j ∧ j.natAbs < 1073741824 then some (i / j) else none : Option Int).map PySem.PyData.int = _
  split <;> rfl
@[simp] theorem gN_e {i : Nat} {d : D} : gN i d e = some (e.set i (.d d)) := rfl
@[simp] theorem gMul_e {i j : Int} : gMul (.d (.int i)) (.d (.int j)) = if small i = true ∨ small j = true then some (.int (i * j)) else none := by
  show (if small i = true ∨ small j = true then some (i * j) else none : Option Int).map PySem.PyData.int = _
  split <;> rfl
@[simp] theorem gPow_e {i j : Int} : gPow (.d (.int i)) (.d (.int j)) = if 0 ≤ j ∧ j ≤ 1000000 ∧ i.natAbs < 2 ^ 64 then some (.int (i ^ j.toNat)) else none := by
  show (if 0 ≤ j ∧ j ≤ 1000000 ∧ i.natAbs < 2 ^ 64 then some (i ^ j.toNat) else none : Option Int).map PySem.PyData.int = _
  split <;> rfl
@[simp] theorem callM_e {F : List Sl → CR} {m : M (List AV)} : callM F m e = (match m e with
  | .ok as e' => (match ios e' as 0 with
    | some w => (match F ((contents e' as).map argOf) with
      | .ok r outs => (match backs e' w outs with
        | some e2 => .ok r e2
        | none => .bad)
      | .ex c outs => (match backs e' w outs with
        | some e2 => .ex c e2
        | none => .bad)
      | .bad => .bad)
    | none => .bad)
  | .ex c e' => .ex c e'
  | .bad => .bad) := by
  unfold callM ML.bind
  cases m e with
  | ok as e' => first
    | rfl
    | (dsimp only; done)
    | (dsimp only; cases ios e' as 0 <;> first | rfl | (dsimp only; done) | (cases F ((contents e' as).map argOf) <;> rfl))
  | ex c e' => rfl
  | bad => rfl
def ioS : Sl → Sl → Bool
  | .o _ _, .o false _ => true
  | .o _ _, _ => false
  | _, _ => true
@[simp] theorem ioOk_nil {e : List Sl} : ioOk [] e = true := rfl
@[simp] theorem ioOk_cons {a s : Sl} {as e : List Sl} : ioOk (a :: as) (s :: e) = (ioS a s && ioOk as e) := by
  unfold ioOk
  rw [List.length_cons, List.range_succ_eq_map, List.all_cons, List.all_map]
  have h2 : ∀ x y z : Bool, x = y → (x && z) = (y && z) := fun x y z h => by rw [h]
  refine h2 _ _ _ ?_
  cases a with
  | o l k => cases s with
    | o l2 k2 => cases l2 <;> rfl
    | _ => rfl
  | _ => rfl
@[simp] theorem ioS_un {s : Sl} : ioS .un s = true := rfl
@[simp] theorem ioS_d {d : D} {s : Sl} : ioS (.d d) s = true := rfl
@[simp] theorem ioS_sc {d : List Int} {s : Sl} : ioS (.sc d) s = true := rfl
@[simp] theorem ioS_o {l : Bool} {k k' : Ob} : ioS (.o l k) (.o false k') = true := rfl
@[simp] theorem eRv_e {m : M RV} : eRv m e = ML.bind m (fun r => ML.lift (rvD r)) e := rfl
@[simp] theorem oRv_e {m : M RV} : oRv m e = ML.bind m (fun r => ML.lift (rvO r)) e := rfl
@[simp] theorem eDIn_e {neg : Bool} {my : M D} {md : M AV} : eDIn neg my md e = ML.bind my (fun y => bindO (keyOf y) fun k => ML.bind md fun d => fun e => ML.lift ((dctOf (content e d)).map fun kvs => .bool (neg ^^ (valD kvs k).isSome)) e) e := rfl
@[simp] theorem eDGetQ_e {my : M D} {md : M AV} : eDGetQ md my e = ML.bind md (fun d => ML.bind my fun y => bindO (keyOf y) fun k => fun e => ML.lift ((dctOf (content e d)).bind fun kvs => valD kvs k) e) e := rfl
@[simp] theorem oDictT_e {m : M D} : oDictT m e = ML.bind m (fun x => ML.lift (dictOf x)) e := rfl
@[simp] theorem oRevQ_e {m : M AV} : oRevQ m e = ML.bind m (fun x => fun e => ML.lift ((seqL (content e x)).map fun xs => Ob.lst xs.reverse) e) e := rfl
@[simp] theorem eIsi2_e {T U : String} {m : M D} : eIsi2 T U m e = ML.bind m (fun x => ML.ret (.bool (isTy T x || isTy U x))) e := rfl
@[simp] theorem iZip_e {m : M (List AV)} : iZip m e = ML.bind m (fun as => ML.lift (zipOf as)) e := rfl
@[simp] theorem sFg_e {vs : List Nat} {m : MStm} : sFg vs m e = fgS vs (m e) := rfl
@[simp] theorem sSetIx_e {i : Nat} {me mi : M D} : sSetIx i me mi e = xS me (fun v => xS (okL i) fun _ => xS mi fun ix => fun e => match ix, e[i]? with
  | .int j, some (.o l (.lst xs)) => match L2.ixN xs.length j with
    | some n => .nx (e.set i (.o l (.lst (xs.set n v))))
    | none => .bad
  | _, _ => .bad) e := rfl
@[simp] theorem eSaid_e {rT : D → D} {rW : Str → D} {pk : Str → Option Str} {m : M D} : eSaid rT rW pk m e = (match m e with
  | .ok x e' => .ok (rT x) e'
  | .ex c e' => match pk c with
    | some w => .ok (rW w) e'
    | none => .bad
  | .bad => .bad) := rfl
@[simp] theorem sWhile_e {n : Nat} {t : M Bool} {mb : MStm} : sWhile n t mb e = whileL t mb n e := rfl
@[simp] theorem sIf_true {t : M Bool} {m n : MStm} {e' : List Sl} (h : t e = .ok true e') : sIf t m n e = m e' := by simp [h]
end
end ML
end

section
set_option Elab.async false
set_option linter.all false
set_option maxRecDepth 100000
set_option maxHeartbeats 2000000
namespace K74
open PySem L2 ML
abbrev c_LETTERS : D := .str "abcdefghijklmnopqrstuvwxyz"
abbrev c_MOST_LETTERS : D := .int 8
abbrev c_MOST_LABELS : D := .int 10
abbrev c_MOST_RANK : D := .int 2
def pk__law_said : Str → Option Str := fun c => if c = "NoSignature" then some "signature" else if c = "NoTree" then some "tree" else if c = "NoPath" then some "other" else none
def m_is_integer : MStm := sRet (eAnd (eIsi "int" (eV 0)) (eNot (eIsi "bool" (eV 0))))
def F_is_integer : List Sl → CR := runBody 1 1 m_is_integer

def m_is_within : MStm := sRet (eAnd (eRv (callM F_is_integer (aD (eV 0) (aNil)))) (eChain gLe gLe (qR 1) (qR 0) (qR 2)))
def F_is_within : List Sl → CR := runBody 3 3 m_is_within

def m_is_name_c1 : M D := e2 (gIn false) (qR 1) (qD (eC c_LETTERS))
def o_is_name_1 : M Ob := oComp (iD (eV 0)) (gN 1) (ret true) m_is_name_c1 [1]
def m_is_name_i2 : MStm := sIf (tOr_ (tNot_ (tB_ (eIsi "str" (eV 0)))) (tNot_ (tB_ (eChain gLe gLe (qD (eC (.int 1))) (qD (eBlt bLen (aR 0 (aNil)))) (qD (eC c_MOST_LETTERS)))))) (sRet (eC (.bool false))) (sNil)
def m_is_name : MStm := sSeq (m_is_name_i2) (sRet (eBlt bAll (aF (o_is_name_1) (aNil))))
def F_is_name : List Sl → CR := runBody 1 2 m_is_name

def m_is_sized : MStm := sRet (eAnd (eIsi "tuple" (eV 0)) (eChain gLe gLe (qR 1) (qD (eBlt bLen (aR 0 (aNil)))) (qR 2)))
def F_is_sized : List Sl → CR := runBody 3 3 m_is_sized

def m_are_rising_c1 : M D := e2 (gLtD fun d e => PySem.W.dataLt d e) (qD (e2 gIx (qR 0) (qR 1))) (qD (e2 gIx (qR 0) (qD (e2 gAdd (qR 1) (qD (eC (.int 1)))))))
def o_are_rising_1 : M Ob := oComp (iRg rng1 (aD (e2 gSub (qD (eBlt bLen (aR 0 (aNil)))) (qD (eC (.int 1)))) (aNil))) (gN 1) (ret true) m_are_rising_c1 [1]
def m_are_rising : MStm := sRet (eBlt bAll (aF (o_are_rising_1) (aNil)))
def F_are_rising : List Sl → CR := runBody 1 2 m_are_rising

def m_is_signature_c1 : M D := e2 gIx (qR 1) (qD (eC (.int 0)))
def o_is_signature_1 : M Ob := oComp (iD (eV 0)) (gN 1) (ret true) m_is_signature_c1 [1]
def m_is_signature_c2 : M D := eAnd (eRv (callM F_is_name (aD (e2 gIx (qR 1) (qD (eC (.int 0)))) (aNil)))) (eRv (callM F_is_within (aD (e2 gIx (qR 1) (qD (eC (.int 1)))) (aD (eC (.int 0)) (aD (eC c_MOST_RANK) (aNil))))))
def o_is_signature_2 : M Ob := oComp (iD (eV 0)) (gN 1) (ret true) m_is_signature_c2 [1]
def m_is_signature_i3 : MStm := sIf (tNot_ (tB_ (eBlt bAll (aF (o_is_signature_2) (aNil))))) (sRet (eC (.bool false))) (sNil)
def m_is_signature_c4 : M D := eRv (callM F_is_sized (aD (eV 1) (aD (eC (.int 2)) (aD (eC (.int 2)) (aNil)))))
def o_is_signature_4 : M Ob := oComp (iD (eV 0)) (gN 1) (ret true) m_is_signature_c4 [1]
def m_is_signature_i5 : MStm := sIf (tOr_ (tNot_ (tB_ (eRv (callM F_is_sized (aD (eV 0) (aD (eC (.int 1)) (aD (eC c_MOST_LABELS) (aNil)))))))) (tNot_ (tB_ (eBlt bAll (aF (o_is_signature_4) (aNil)))))) (sRet (eC (.bool false))) (sNil)
def m_is_signature : MStm := sSeq (m_is_signature_i5) (sSeq (m_is_signature_i3) (sRet (eRv (callM F_are_rising (aD (eO (o_is_signature_1)) (aNil))))))
def F_is_signature : List Sl → CR := runBody 1 2 m_is_signature

def m_check_signature_i1 : MStm := sIf (tNot_ (tB_ (eRv (callM F_is_signature (aD (eV 0) (aNil)))))) (sRaise "NoSignature") (sNil)
def m_check_signature : MStm := m_check_signature_i1
def F_check_signature : List Sl → CR := runBody 1 1 m_check_signature

def m_raw_is_tree_i1 : MStm := sIf (tNot_ (tB_ (eRv (callM F_is_sized (aD (e2 gIx (qR 4) (qD (eC (.int 1)))) (aD (eDGetQ (qR 2) (e2 gIx (qR 4) (qD (eC (.int 0))))) (aD (eDGetQ (qR 2) (e2 gIx (qR 4) (qD (eC (.int 0))))) (aNil)))))))) (sRet (eC (.bool false))) (sNil)
def m_raw_is_tree_i2 : MStm := sIf (tOr_ (tNot_ (tB_ (eRv (callM F_is_sized (aD (eV 4) (aD (eC (.int 2)) (aD (eC (.int 2)) (aNil)))))))) (tOr_ (tNot_ (tB_ (eIsi "str" (e2 gIx (qR 4) (qD (eC (.int 0))))))) (tB_ (eDIn true (e2 gIx (qR 4) (qD (eC (.int 0)))) (qR 2))))) (sRet (eC (.bool false))) (sNil)
def m_raw_is_tree_b3 : MStm := sFg [4] (sSeq (sSet 4 (eMt 3 fPop aNil)) (sSeq (m_raw_is_tree_i2) (sSeq (m_raw_is_tree_i1) (sDrop (eMt 3 fExtA (aF (oBlt bListA (aD (e2 gIx (qR 4) (qD (eC (.int 1)))) (aNil))) (aNil)))))))
def m_raw_is_tree_w4 : MStm := sWhile 20000 (b2 gGt (qD (eBlt bLen (aR 3 (aNil)))) (qD (eC (.int 0)))) m_raw_is_tree_b3
def m_raw_is_tree : MStm := sSeq (sPar 2 3 (aF (oDictT (eV 0)) (aF (oLst (aD (eV 1) (aNil))) (aNil)))) (sSeq (m_raw_is_tree_w4) (sRet (eC (.bool true))))
def F_raw_is_tree : List Sl → CR := runBody 2 5 m_raw_is_tree

def m_check_tree_i1 : MStm := sIf (tNot_ (tB_ (eRv (callM F_raw_is_tree (aD (eV 0) (aD (eV 1) (aNil))))))) (sRaise "NoTree") (sNil)
def m_check_tree : MStm := m_check_tree_i1
def F_check_tree : List Sl → CR := runBody 2 2 m_check_tree

def m_check_both : MStm := sSeq (sDrop (eRv (callM F_check_signature (aD (eV 0) (aNil))))) (sDrop (eRv (callM F_check_tree (aD (eV 0) (aD (eV 1) (aNil))))))
def F_check_both : List Sl → CR := runBody 2 2 m_check_both

def m_raw_nodes_many_b1 : MStm := sFg [] (sSeq (sAug 1 gIAdd (eC (.int 1))) (sDrop (eMt 2 fExtA (aD (e2 gIx (qD (eMt 2 fPop aNil)) (qD (eC (.int 1)))) (aNil)))))
def m_raw_nodes_many_w2 : MStm := sWhile 20000 (b2 gGt (qD (eBlt bLen (aR 2 (aNil)))) (qD (eC (.int 0)))) m_raw_nodes_many_b1
def m_raw_nodes_many : MStm := sSeq (sPar 1 2 (aD (eC (.int 0)) (aF (oLst (aD (eV 0) (aNil))) (aNil)))) (sSeq (m_raw_nodes_many_w2) (sRetV 1))
def F_raw_nodes_many : List Sl → CR := runBody 1 3 m_raw_nodes_many

def m_nodes_many : MStm := sSeq (sDrop (eRv (callM F_check_both (aD (eV 0) (aD (eV 1) (aNil)))))) (sRet (eRv (callM F_raw_nodes_many (aD (eV 1) (aNil)))))
def F_nodes_many : List Sl → CR := runBody 2 2 m_nodes_many

def m_deep_of_c1 : M D := eTup (aD (eV 6) (aD (e2 gAdd (qR 5) (qD (eC (.int 1)))) (aNil)))
def o_deep_of_1 : M Ob := oComp (iD (e2 gIx (qR 4) (qD (eC (.int 1))))) (gN 6) (ret true) m_deep_of_c1 [6]
def m_deep_of_b2 : MStm := sFg [4, 5, 6] (sSeq (sAsg (gT (gCons (gN 4) (gCons (gN 5) (gNil)))) (eMt 3 fPop aNil)) (sSeq (sSet 2 (eBlt bMax (aR 2 (aR 5 (aNil))))) (sDrop (eMt 3 fExtA (aF (o_deep_of_1) (aNil))))))
def m_deep_of_w3 : MStm := sWhile 20000 (b2 gGt (qD (eBlt bLen (aR 3 (aNil)))) (qD (eC (.int 0)))) m_deep_of_b2
def m_deep_of : MStm := sSeq (sDrop (eRv (callM F_check_both (aD (eV 0) (aD (eV 1) (aNil)))))) (sSeq (sPar 2 3 (aD (eC (.int 0)) (aF (oLst (aD (eTup (aD (eV 1) (aD (eC (.int 1)) (aNil)))) (aNil))) (aNil)))) (sSeq (m_deep_of_w3) (sRetV 2)))
def F_deep_of : List Sl → CR := runBody 2 7 m_deep_of

def m_raw_paths_c1 : M D := eTup (aD (e2 gAdd (qR 3) (qD (eTup (aD (eV 5) (aNil))))) (aD (eV 6) (aNil)))
def o_raw_paths_1 : M Ob := oComp (iEnA (e2 gIx (qR 4) (qD (eC (.int 1))))) (gT (gCons (gN 5) (gCons (gN 6) (gNil)))) (ret true) m_raw_paths_c1 [5, 6]
def m_raw_paths_b2 : MStm := sFg [3, 4, 5, 6] (sSeq (sAsg (gT (gCons (gN 3) (gCons (gN 4) (gNil)))) (eMt 2 fPop aNil)) (sSeq (sDrop (eMt 1 fApp (aD (eTup (aD (eV 3) (aD (eV 4) (aNil)))) (aNil)))) (sDrop (eMt 2 fExtA (aF (oRevQ (qF (o_raw_paths_1))) (aNil))))))
def m_raw_paths_w3 : MStm := sWhile 20000 (b2 gGt (qD (eBlt bLen (aR 2 (aNil)))) (qD (eC (.int 0)))) m_raw_paths_b2
def m_raw_paths : MStm := sSeq (sPar 1 2 (aF (oLst (aNil)) (aF (oLst (aD (eTup (aD (eTup (aNil)) (aD (eV 0) (aNil)))) (aNil))) (aNil)))) (sSeq (m_raw_paths_w3) (sRetV 1))
def F_raw_paths : List Sl → CR := runBody 1 7 m_raw_paths

def m_paths_of_c1 : M D := eV 2
def o_paths_of_1 : M Ob := oComp (iD (eRv (callM F_raw_paths (aD (eV 1) (aNil))))) (gT (gCons (gN 2) (gCons (gN 3) (gNil)))) (ret true) m_paths_of_c1 [2, 3]
def m_paths_of : MStm := sSeq (sDrop (eRv (callM F_check_both (aD (eV 0) (aD (eV 1) (aNil)))))) (sRet (eBlt bTupOf (aF (o_paths_of_1) (aNil))))
def F_paths_of : List Sl → CR := runBody 2 4 m_paths_of

def m_row_to_i1 : MStm := sIf (tNot_ (tB_ (eRv (callM F_is_within (aD (eV 3) (aD (eC (.int 0)) (aD (e2 gSub (qD (eBlt bLen (aD (e2 gIx (qD (e2 gIx (qR 2) (qD (e1 gNeg (eC (.int 1)))))) (qD (eC (.int 1)))) (aNil)))) (qD (eC (.int 1)))) (aNil)))))))) (sRaise "NoPath") (sNil)
def m_row_to_b2 : MStm := sFg [3] (sSeq (m_row_to_i1) (sDrop (eMt 2 fApp (aD (e2 gIx (qD (e2 gIx (qD (e2 gIx (qR 2) (qD (e1 gNeg (eC (.int 1)))))) (qD (eC (.int 1))))) (qR 3)) (aNil)))))
def m_row_to_w3 : MStm := sFor (iD (eV 1)) (gN 3) m_row_to_b2
def m_row_to_i4 : MStm := sIf (tNot_ (tB_ (eIsi "tuple" (eV 1)))) (sRaise "NoPath") (sNil)
def m_row_to : MStm := sSeq (m_row_to_i4) (sSeq (sSetO 2 (oLst (aD (eV 0) (aNil)))) (sSeq (m_row_to_w3) (sRetV 2)))
def F_row_to : List Sl → CR := runBody 2 4 m_row_to

def m_part_at : MStm := sSeq (sDrop (eRv (callM F_check_both (aD (eV 0) (aD (eV 1) (aNil)))))) (sRet (e2 gIx (qD (eRv (callM F_row_to (aD (eV 1) (aD (eV 2) (aNil)))))) (qD (e1 gNeg (eC (.int 1))))))
def F_part_at : List Sl → CR := runBody 3 3 m_part_at

def m_with_part_b1 : MStm := sFg [4, 6, 7] (sSet 5 (eTup (aD (e2 gIx (qR 6) (qD (eC (.int 0)))) (aD (e2 gAdd (qD (e2 gAdd (qD (eSl gSlT (qD (e2 gIx (qR 6) (qD (eC (.int 1))))) (ret none) (ptI (eV 7)))) (qD (eTup (aD (eV 5) (aNil)))))) (qD (eSl gSlT (qD (e2 gIx (qR 6) (qD (eC (.int 1))))) (ptI (e2 gAdd (qR 7) (qD (eC (.int 1))))) (ret none)))) (aNil)))))
def m_with_part_w2 : MStm := sFor (iD (eO (oRevQ (qF (oBlt bZipL (aR 4 (aR 2 (aNil)))))))) (gT (gCons (gN 6) (gCons (gN 7) (gNil)))) m_with_part_b1
def m_with_part : MStm := sSeq (sDrop (eRv (callM F_check_both (aD (eV 0) (aD (eV 1) (aNil)))))) (sSeq (sDrop (eRv (callM F_check_tree (aD (eV 0) (aD (eV 3) (aNil)))))) (sSeq (sPar 4 5 (aD (eRv (callM F_row_to (aD (eV 1) (aD (eV 2) (aNil))))) (aD (eV 3) (aNil)))) (sSeq (m_with_part_w2) (sRetV 5))))
def F_with_part : List Sl → CR := runBody 4 8 m_with_part

def m_raw_changes_i1 : MStm := sIf (b2 (gEq true) (qD (eBlt bLen (aD (e2 gIx (qR 4) (qD (eC (.int 1)))) (aNil)))) (qD (eBlt bLen (aD (e2 gIx (qR 5) (qD (eC (.int 1)))) (aNil))))) (sRet (eC .none)) (sNil)
def m_raw_changes_b2 : MStm := sFg [4, 5] (sSeq (sAsg (gT (gCons (gN 4) (gCons (gN 5) (gNil)))) (eMt 3 fPop aNil)) (sSeq (m_raw_changes_i1) (sSeq (sAug 2 gIAdd (eBlt bInt (aD (e2 (gEq true) (qD (e2 gIx (qR 4) (qD (eC (.int 0))))) (qD (e2 gIx (qR 5) (qD (eC (.int 0)))))) (aNil)))) (sDrop (eMt 3 fExtA (aF (oBlt bZipL (aD (e2 gIx (qR 4) (qD (eC (.int 1)))) (aD (e2 gIx (qR 5) (qD (eC (.int 1)))) (aNil)))) (aNil)))))))
def m_raw_changes_w3 : MStm := sWhile 20000 (b2 gGt (qD (eBlt bLen (aR 3 (aNil)))) (qD (eC (.int 0)))) m_raw_changes_b2
def m_raw_changes : MStm := sSeq (sPar 2 3 (aD (eC (.int 0)) (aF (oLst (aD (eTup (aD (eV 0) (aD (eV 1) (aNil)))) (aNil))) (aNil)))) (sSeq (m_raw_changes_w3) (sRetV 2))
def F_raw_changes : List Sl → CR := runBody 2 6 m_raw_changes

def m_changes_between : MStm := sSeq (sDrop (eRv (callM F_check_both (aD (eV 0) (aD (eV 1) (aNil)))))) (sSeq (sDrop (eRv (callM F_check_tree (aD (eV 0) (aD (eV 2) (aNil)))))) (sRet (eRv (callM F_raw_changes (aD (eV 1) (aD (eV 2) (aNil)))))))
def F_changes_between : List Sl → CR := runBody 3 3 m_changes_between

def m__law_bag_c1 : M D := e2 gMod (qD (eBlt bInt (aD (eBlt bAbs (aD (eBlt bInt (aR 2 (aNil))) (aNil))) (aNil)))) (qD (e2 gPow (qD (eC (.int 10))) (qD (eC (.int 36)))))
def o__law_bag_1 : M Ob := oComp (iD (eO (oSl gSlX (qR 0) (ret none) (ptI (eC (.int 63)))))) (gN 2) (ret true) m__law_bag_c1 [2]
def m__law_bag : MStm := sSeq (sSetO 1 (o__law_bag_1)) (sRetO (oLst (aD (eV 1) (aD (eC (.int 0)) (aD (eC (.int 0)) (aD (e2 gAdd (qD (eC (.int 6133))) (qD (e2 gMul (qD (eC (.int 11))) (qD (eBlt bLen (aR 1 (aNil))))))) (aD (eC (.int 0)) (aNil))))))))
def F__law_bag : List Sl → CR := runBody 1 3 m__law_bag

def m__law_pick_i1 : MStm := sIf (b2 gGt (qD (e2 gIx (qR 0) (qD (eC (.int 2))))) (qD (eC (.int 0)))) (sSeq (sSet 3 (e2 gMod (qD (eBlt bInt (aD (e2 gIx (qR 0) (qD (eC (.int 2)))) (aNil)))) (qR 1))) (sSeq (sSetIx 0 (e2 gDiv (qD (e2 gIx (qR 0) (qD (eC (.int 2))))) (qR 1)) (eC (.int 2))) (sRetV 3))) (sNil)
def m__law_pick_i2 : MStm := sIf (b2 gGe (qR 2) (qD (e2 gPow (qD (eC (.int 10))) (qD (eC (.int 18)))))) (sSetIx 0 (eV 2) (eC (.int 2))) (sNil)
def m__law_pick_i3 : MStm := sIf (tAnd_ (b2 (gEq false) (qD (e2 gIx (qR 0) (qD (eC (.int 2))))) (qD (eC (.int 0)))) (b2 gLt (qD (e2 gIx (qR 0) (qD (eC (.int 1))))) (qD (eBlt bLen (aD (e2 gIx (qR 0) (qD (eC (.int 0)))) (aNil)))))) (sSeq (sSet 2 (e2 gIx (qD (e2 gIx (qR 0) (qD (eC (.int 0))))) (qD (e2 gIx (qR 0) (qD (eC (.int 1))))))) (sSeq (sSetIx 0 (e2 gAdd (qD (e2 gIx (qR 0) (qD (eC (.int 1))))) (qD (eC (.int 1)))) (eC (.int 1))) (sSeq (sSetIx 0 (e2 gMod (qD (eBlt bInt (aD (e2 gAdd (qD (e2 gAdd (qD (e2 gMul (qD (e2 gIx (qR 0) (qD (eC (.int 3))))) (qD (eC (.int 48271))))) (qD (e2 gMul (qR 2) (qD (eC (.int 69621))))))) (qD (eC (.int 101)))) (aNil)))) (qD (eC (.int 2147483629)))) (eC (.int 3))) (m__law_pick_i2)))) (sNil)
def m__law_pick : MStm := sSeq (m__law_pick_i3) (sSeq (m__law_pick_i1) (sSeq (sSetIx 0 (e2 gAdd (qD (e2 gIx (qR 0) (qD (eC (.int 4))))) (qD (eC (.int 1)))) (eC (.int 4))) (sSeq (sSet 4 (e2 gMod (qD (eBlt bInt (aD (e2 gMul (qD (eBlt bInt (aD (e2 gAdd (qD (e2 gIx (qR 0) (qD (eC (.int 3))))) (qD (e2 gMul (qD (eC (.int 7919))) (qD (e2 gIx (qR 0) (qD (eC (.int 4)))))))) (aNil)))) (qD (eC (.int 48271)))) (aNil)))) (qD (eC (.int 2147483647))))) (sSeq (sSet 4 (e2 gMod (qD (eBlt bInt (aD (e2 gMul (qR 4) (qD (e2 gAdd (qD (e2 gDiv (qR 4) (qD (eC (.int 1009))))) (qD (eC (.int 69621)))))) (aNil)))) (qD (eC (.int 2147483647))))) (sSeq (sSet 4 (e2 gMod (qD (eBlt bInt (aD (e2 gMul (qR 4) (qD (e2 gAdd (qD (e2 gDiv (qR 4) (qD (eC (.int 2003))))) (qD (eC (.int 40014)))))) (aNil)))) (qD (eC (.int 2147483563))))) (sRet (e2 gMod (qD (eBlt bInt (aD (e2 gDiv (qR 4) (qD (eC (.int 16)))) (aNil)))) (qR 1))))))))
def F__law_pick : List Sl → CR := runBody 2 5 m__law_pick

def m__law_some : MStm := sRet (e2 gIx (qR 1) (qD (eRv (callM F__law_pick (aR 0 (aD (eBlt bLen (aR 1 (aNil))) (aNil)))))))
def F__law_some : List Sl → CR := runBody 2 2 m__law_some

def m__law_signature : MStm := sRet (eRv (callM F__law_some (aR 0 (aD (eO (oLst (aD (eTup (aD (eTup (aD (eC (.str "a")) (aD (eC (.int 0)) (aNil)))) (aD (eTup (aD (eC (.str "b")) (aD (eC (.int 0)) (aNil)))) (aD (eTup (aD (eC (.str "f")) (aD (eC (.int 1)) (aNil)))) (aD (eTup (aD (eC (.str "g")) (aD (eC (.int 2)) (aNil)))) (aD (eTup (aD (eC (.str "h")) (aD (eC (.int 1)) (aNil)))) (aD (eTup (aD (eC (.str "k")) (aD (eC (.int 2)) (aNil)))) (aNil)))))))) (aD (eTup (aD (eTup (aD (eC (.str "a")) (aD (eC (.int 0)) (aNil)))) (aD (eTup (aD (eC (.str "b")) (aD (eC (.int 0)) (aNil)))) (aD (eTup (aD (eC (.str "s")) (aD (eC (.int 1)) (aNil)))) (aNil))))) (aD (eTup (aD (eTup (aD (eC (.str "e")) (aD (eC (.int 0)) (aNil)))) (aD (eTup (aD (eC (.str "m")) (aD (eC (.int 2)) (aNil)))) (aD (eTup (aD (eC (.str "n")) (aD (eC (.int 2)) (aNil)))) (aNil))))) (aD (eTup (aD (eTup (aD (eC (.str "a")) (aD (eC (.int 0)) (aNil)))) (aD (eTup (aD (eC (.str "b")) (aD (eC (.int 0)) (aNil)))) (aD (eTup (aD (eC (.str "c")) (aD (eC (.int 0)) (aNil)))) (aD (eTup (aD (eC (.str "g")) (aD (eC (.int 2)) (aNil)))) (aNil)))))) (aD (eTup (aD (eTup (aD (eC (.str "f")) (aD (eC (.int 1)) (aNil)))) (aD (eTup (aD (eC (.str "g")) (aD (eC (.int 1)) (aNil)))) (aD (eTup (aD (eC (.str "z")) (aD (eC (.int 0)) (aNil)))) (aNil))))) (aD (eTup (aD (eTup (aD (eC (.str "a")) (aD (eC (.int 0)) (aNil)))) (aD (eTup (aD (eC (.str "g")) (aD (eC (.int 2)) (aNil)))) (aD (eTup (aD (eC (.str "k")) (aD (eC (.int 2)) (aNil)))) (aD (eTup (aD (eC (.str "u")) (aD (eC (.int 1)) (aNil)))) (aNil)))))) (aNil))))))))) (aNil)))))
def F__law_signature : List Sl → CR := runBody 1 1 m__law_signature

def m__law_nodes_b1 : MStm := sFg [3] (sSeq (sSet 3 (eMt 2 fPop aNil)) (sSeq (sSet 1 (e2 gAdd (qR 1) (qD (eC (.int 1))))) (sDrop (eMt 2 fExtA (aF (oBlt bListA (aD (e2 gIx (qR 3) (qD (eC (.int 1)))) (aNil))) (aNil))))))
def m__law_nodes_w2 : MStm := sWhile 20000 (b2 gGt (qD (eBlt bLen (aR 2 (aNil)))) (qD (eC (.int 0)))) m__law_nodes_b1
def m__law_nodes : MStm := sSeq (sPar 1 2 (aD (eC (.int 0)) (aF (oLst (aD (eV 0) (aNil))) (aNil)))) (sSeq (m__law_nodes_w2) (sRetV 1))
def F__law_nodes : List Sl → CR := runBody 1 4 m__law_nodes

def m__law_tree_c1 : M D := eRv (callM F__law_some (aR 0 (aD (eO (oSl gSlX (qR 3) (ptI (e1 gNeg (eC (.int 4)))) (ret none))) (aNil))))
def o__law_tree_1 : M Ob := oComp (iRg rng1 (aD (eV 6) (aNil))) (gN 9) (ret true) m__law_tree_c1 [9]
def m__law_tree_c2 : M D := eV 8
def o__law_tree_2 : M Ob := oComp (iD (eV 1)) (gN 8) (b2 gGt (qD (e2 gIx (qR 8) (qD (eC (.int 1))))) (qD (eC (.int 0)))) m__law_tree_c2 [8]
def m__law_tree_b3 : MStm := sFg [4, 5, 6, 7, 8, 9] (sSeq (sAsg (gT (gCons (gN 5) (gCons (gN 6) (gNil)))) (eRv (callM F__law_some (aR 0 (aD (eO (o__law_tree_2)) (aNil)))))) (sSeq (sSet 7 (eTup (aD (eV 5) (aD (eBlt bTupOf (aF (o__law_tree_1) (aNil))) (aNil))))) (sDrop (eMt 3 fExtA (aF (oIf (b2 gLe (qD (eRv (callM F__law_nodes (aD (eV 7) (aNil))))) (qR 2)) (oLst (aD (eV 7) (aNil))) (oLst (aNil))) (aNil))))))
def m__law_tree_w4 : MStm := sFor (iRg rng1 (aD (eRv (callM F__law_pick (aR 0 (aD (eV 2) (aNil))))) (aNil))) (gN 4) m__law_tree_b3
def m__law_tree_c5 : M D := eTup (aD (eV 5) (aD (eTup (aNil)) (aNil)))
def o__law_tree_5 : M Ob := oComp (iD (eV 1)) (gT (gCons (gN 5) (gCons (gN 6) (gNil)))) (b2 (gEq false) (qR 6) (qD (eC (.int 0)))) m__law_tree_c5 [5, 6]
def m__law_tree : MStm := sSeq (sSetO 3 (o__law_tree_5)) (sSeq (m__law_tree_w4) (sRet (eRv (callM F__law_some (aR 0 (aD (eO (oSl gSlX (qR 3) (ptI (e1 gNeg (eC (.int 2)))) (ret none))) (aNil)))))))
def F__law_tree : List Sl → CR := runBody 3 10 m__law_tree

def m__law_changes_i1 : MStm := sIf (b2 (gEq true) (qD (eBlt bLen (aD (e2 gIx (qR 4) (qD (eC (.int 1)))) (aNil)))) (qD (eBlt bLen (aD (e2 gIx (qR 5) (qD (eC (.int 1)))) (aNil))))) (sRet (eC .none)) (sNil)
def m__law_changes_b2 : MStm := sFg [4, 5] (sSeq (sAsg (gT (gCons (gN 4) (gCons (gN 5) (gNil)))) (eMt 3 fPop aNil)) (sSeq (m__law_changes_i1) (sSeq (sSet 2 (e2 gAdd (qR 2) (qD (eBlt bInt (aD (e2 (gEq true) (qD (e2 gIx (qR 4) (qD (eC (.int 0))))) (qD (e2 gIx (qR 5) (qD (eC (.int 0)))))) (aNil)))))) (sDrop (eMt 3 fExtA (aF (oBlt bZipL (aD (e2 gIx (qR 4) (qD (eC (.int 1)))) (aD (e2 gIx (qR 5) (qD (eC (.int 1)))) (aNil)))) (aNil)))))))
def m__law_changes_w3 : MStm := sWhile 20000 (b2 gGt (qD (eBlt bLen (aR 3 (aNil)))) (qD (eC (.int 0)))) m__law_changes_b2
def m__law_changes : MStm := sSeq (sPar 2 3 (aD (eC (.int 0)) (aF (oLst (aD (eTup (aD (eV 0) (aD (eV 1) (aNil)))) (aNil))) (aNil)))) (sSeq (m__law_changes_w3) (sRetV 2))
def F__law_changes : List Sl → CR := runBody 2 6 m__law_changes

def m__law_no_tree : MStm := sSeq (sAsg (gT (gCons (gN 2) (gCons (gN 3) (gNil)))) (e2 gIx (qR 1) (qD (eC (.int 0))))) (sSeq (sSet 4 (eTup (aD (eV 2) (aD (e2 gRep (qD (eTup (aD (eTup (aD (eV 2) (aD (eTup (aNil)) (aNil)))) (aNil)))) (qR 3)) (aNil))))) (sSeq (sSet 5 (eO (oLst (aD (eC .none) (aD (eTup (aNil)) (aD (eC (.str "a")) (aD (eV 2) (aD (eTup (aD (eV 2) (aNil))) (aD (eO (oLst (aD (eV 2) (aD (eTup (aNil)) (aNil))))) (aD (eTup (aD (eC (.str "zz")) (aD (eTup (aNil)) (aNil)))) (aD (eTup (aD (eV 2) (aD (eO (oLst (aNil))) (aNil)))) (aD (eTup (aD (eV 2) (aD (e2 gRep (qD (eTup (aD (eV 4) (aNil)))) (qD (e2 gAdd (qR 3) (qD (eC (.int 1)))))) (aNil)))) (aD (eC (.int 0)) (aD (eO (ret (.dct []))) (aNil))))))))))))))) (sRet (eRv (callM F__law_some (aR 0 (aD (eO (o2 gCat (qR 5) (qF (oLst (aD (eTup (aD (eV 2) (aD (e2 gRep (qD (eTup (aD (eTup (aD (eV 2) (aD (eTup (aNil)) (aNil)))) (aNil)))) (qD (e2 gAdd (qR 3) (qD (eC (.int 3)))))) (aNil)))) (aD (eTup (aD (eC .none) (aD (eTup (aNil)) (aNil)))) (aD (eTup (aD (eV 2) (aD (e2 gRep (qD (eTup (aD (eC .none) (aNil)))) (qD (e2 gAdd (qR 3) (qD (eC (.int 1)))))) (aNil)))) (aNil)))))))) (aNil))))))))
def F__law_no_tree : List Sl → CR := runBody 2 6 m__law_no_tree

def m__law_no_signature : MStm := sSeq (sSet 1 (eO (oLst (aD (eC .none) (aD (eTup (aNil)) (aD (eC (.str "a")) (aD (eO (oLst (aD (eTup (aD (eC (.str "a")) (aD (eC (.int 0)) (aNil)))) (aNil)))) (aD (eTup (aD (eTup (aD (eC (.str "a")) (aD (eC (.int 3)) (aNil)))) (aNil))) (aD (eTup (aD (eTup (aD (eC (.str "b")) (aD (eC (.int 0)) (aNil)))) (aD (eTup (aD (eC (.str "a")) (aD (eC (.int 0)) (aNil)))) (aNil)))) (aD (eTup (aD (eTup (aD (eC (.str "a")) (aD (eC (.int 0)) (aNil)))) (aD (eTup (aD (eC (.str "a")) (aD (eC (.int 1)) (aNil)))) (aNil)))) (aD (eTup (aD (eTup (aD (eC (.str "A")) (aD (eC (.int 0)) (aNil)))) (aNil))) (aD (eTup (aD (eTup (aD (eC (.str "a")) (aNil))) (aNil))) (aNil))))))))))))) (sRet (eRv (callM F__law_some (aR 0 (aD (eO (o2 gCat (qR 1) (qF (oLst (aD (eTup (aD (eTup (aD (eC (.str "a")) (aD (eC (.bool true)) (aNil)))) (aNil))) (aD (eTup (aD (eO (oLst (aD (eC (.str "a")) (aD (eC (.int 0)) (aNil))))) (aNil))) (aD (eTup (aD (eTup (aD (eC (.str "a")) (aD (e1 gNeg (eC (.int 1))) (aNil)))) (aNil))) (aD (eTup (aD (eTup (aD (eC (.str "aaaaaaaaa")) (aD (eC (.int 0)) (aNil)))) (aNil))) (aD (eTup (aD (eTup (aD (eC (.str "")) (aD (eC (.int 0)) (aNil)))) (aNil))) (aNil)))))))))) (aNil))))))
def F__law_no_signature : List Sl → CR := runBody 1 2 m__law_no_signature

def m__law_relabelled_i1 : MStm := sIf (b2 gGt (qD (eBlt bLen (aR 10 (aNil)))) (qD (eC (.int 0)))) (sPar 2 5 (aD (eRv (callM F_with_part (aD (eV 1) (aD (eV 2) (aD (eV 7) (aD (eTup (aD (eRv (callM F__law_some (aR 0 (aD (eV 10) (aNil))))) (aD (eV 9) (aNil)))) (aNil))))))) (aD (e2 gAdd (qR 5) (qD (eC (.int 1)))) (aNil)))) (sNil)
def m__law_relabelled_c2 : M D := eV 11
def o__law_relabelled_2 : M Ob := oComp (iD (eV 1)) (gT (gCons (gN 11) (gCons (gN 12) (gNil)))) (tAnd_ (b2 (gEq false) (qR 12) (qD (eBlt bLen (aR 9 (aNil))))) (b2 (gEq true) (qR 11) (qR 8))) m__law_relabelled_c2 [11, 12]
def m__law_relabelled_i3 : MStm := sIf (b2 gGt (qD (eBlt bLen (aR 4 (aNil)))) (qD (eC (.int 0)))) (sSeq (sSet 7 (eRv (callM F__law_some (aR 0 (aR 4 (aNil)))))) (sSeq (sDrop (eMt 4 fRem (aR 7 (aNil)))) (sSeq (sAsg (gT (gCons (gN 8) (gCons (gN 9) (gNil)))) (eRv (callM F_part_at (aD (eV 1) (aD (eV 2) (aD (eV 7) (aNil))))))) (sSeq (sSetO 10 (o__law_relabelled_2)) (m__law_relabelled_i1))))) (sNil)
def m__law_relabelled_b4 : MStm := sFg [6, 7, 8, 9, 10, 11, 12] (m__law_relabelled_i3)
def m__law_relabelled_w5 : MStm := sFor (iRg rng1 (aD (eRv (callM F__law_pick (aR 0 (aD (e2 gAdd (qR 3) (qD (eC (.int 1)))) (aNil))))) (aNil))) (gN 6) m__law_relabelled_b4
def m__law_relabelled : MStm := sSeq (sPar 4 5 (aF (oBlt bListA (aD (eRv (callM F_paths_of (aD (eV 1) (aD (eV 2) (aNil))))) (aNil))) (aD (eC (.int 0)) (aNil)))) (sSeq (m__law_relabelled_w5) (sRet (eTup (aD (eV 2) (aD (eV 5) (aNil))))))
def F__law_relabelled : List Sl → CR := runBody 4 13 m__law_relabelled

def m__law_are_two_right_i1 : MStm := sIf (b2 (gEq true) (qD (e2 gIx (qD (eRv (callM F_part_at (aD (eV 0) (aD (eV 1) (aD (eV 5) (aNil))))))) (qD (eC (.int 0))))) (qD (e2 gIx (qD (eRv (callM F_part_at (aD (eV 0) (aD (eV 2) (aD (eV 5) (aNil))))))) (qD (eC (.int 0)))))) (sSet 4 (e2 gAdd (qR 4) (qD (eC (.int 1))))) (sNil)
def m__law_are_two_right_b2 : MStm := sFg [5] (m__law_are_two_right_i1)
def m__law_are_two_right_w3 : MStm := sFor (iD (eRv (callM F_paths_of (aD (eV 0) (aD (eV 1) (aNil)))))) (gN 5) m__law_are_two_right_b2
def m__law_are_two_right_i4 : MStm := sIf (tOr_ (b2 (gEq true) (qD (eRv (callM F_paths_of (aD (eV 0) (aD (eV 1) (aNil)))))) (qD (eRv (callM F_paths_of (aD (eV 0) (aD (eV 2) (aNil))))))) (b2 (gEq true) (qD (eRv (callM F_deep_of (aD (eV 0) (aD (eV 1) (aNil)))))) (qD (eRv (callM F_deep_of (aD (eV 0) (aD (eV 2) (aNil)))))))) (sRet (eC (.bool false))) (sNil)
def m__law_are_two_right_i5 : MStm := sIf (tOr_ (b2 (gEq true) (qD (eRv (callM F_nodes_many (aD (eV 0) (aD (eV 1) (aNil)))))) (qD (eRv (callM F_nodes_many (aD (eV 0) (aD (eV 2) (aNil))))))) (b2 gGt (qR 3) (qD (eRv (callM F_nodes_many (aD (eV 0) (aD (eV 1) (aNil)))))))) (sRet (eC (.bool false))) (sNil)
def m__law_are_two_right_i6 : MStm := sIf (b2 (gIsN false) (qR 3) (qD (eC .none))) (sRet (e2 (gEq true) (qR 1) (qR 2))) (sNil)
def m__law_are_two_right_i7 : MStm := sIf (tOr_ (b2 (gEq true) (qD (eBlt bRepr (aD (eRv (callM F_changes_between (aD (eV 0) (aD (eV 2) (aD (eV 1) (aNil)))))) (aNil)))) (qD (eBlt bRepr (aR 3 (aNil))))) (b2 (gEq true) (qD (eBlt bRepr (aD (eRv (callM F_changes_between (aD (eV 0) (aD (eV 1) (aD (eV 1) (aNil)))))) (aNil)))) (qD (eC (.str "0"))))) (sRet (eC (.bool false))) (sNil)
def m__law_are_two_right_i8 : MStm := sIf (b2 (gEq true) (qD (eBlt bRepr (aD (eRv (callM F_changes_between (aD (eV 0) (aD (eV 1) (aD (eV 2) (aNil)))))) (aNil)))) (qD (eBlt bRepr (aR 3 (aNil))))) (sRet (eC (.bool false))) (sNil)
def m__law_are_two_right : MStm := sSeq (sSet 3 (eRv (callM F__law_changes (aD (eV 1) (aD (eV 2) (aNil)))))) (sSeq (m__law_are_two_right_i8) (sSeq (m__law_are_two_right_i7) (sSeq (m__law_are_two_right_i6) (sSeq (m__law_are_two_right_i5) (sSeq (m__law_are_two_right_i4) (sSeq (sSet 4 (eC (.int 0))) (sSeq (m__law_are_two_right_w3) (sRet (eAnd (e2 (gEq false) (qR 4) (qR 3)) (e2 (gEq false) (qD (e2 (gEq false) (qR 3) (qD (eC (.int 0))))) (qD (e2 (gEq false) (qR 1) (qR 2)))))))))))))
def F__law_are_two_right : List Sl → CR := runBody 3 6 m__law_are_two_right

def m__law_are_three_right_i1 : MStm := sIf (tOr_ (b2 (gEq true) (qD (eRv (callM F_changes_between (aD (eV 1) (aD (eV 3) (aD (eV 5) (aNil))))))) (qR 6)) (tNot_ (tB_ (eRv (callM F__law_are_two_right (aD (eV 1) (aD (eV 2) (aD (eV 5) (aNil))))))))) (sRet (eC (.bool false))) (sNil)
def m__law_are_three_right_i2 : MStm := sIf (b2 (gEq true) (qD (eRv (callM F_changes_between (aD (eV 1) (aD (eV 2) (aD (eV 3) (aNil))))))) (qR 4)) (sRet (eC (.bool false))) (sNil)
def m__law_are_three_right : MStm := sSeq (sAsg (gT (gCons (gN 3) (gCons (gN 4) (gNil)))) (eRv (callM F__law_relabelled (aR 0 (aD (eV 1) (aD (eV 2) (aD (eC (.int 4)) (aNil)))))))) (sSeq (m__law_are_three_right_i2) (sSeq (sAsg (gT (gCons (gN 5) (gCons (gN 6) (gNil)))) (eRv (callM F__law_relabelled (aR 0 (aD (eV 1) (aD (eV 3) (aD (eC (.int 3)) (aNil)))))))) (sSeq (m__law_are_three_right_i1) (sRet (e2 gLe (qD (eRv (callM F_changes_between (aD (eV 1) (aD (eV 2) (aD (eV 5) (aNil))))))) (qD (e2 gAdd (qR 4) (qR 6))))))))
def F__law_are_three_right : List Sl → CR := runBody 3 7 m__law_are_three_right

def m__law_are_refused : MStm := sSeq (sAsg (gT (gCons (gN 3) (gCons (gN 4) (gNil)))) (eTup (aD (eRv (callM F__law_no_signature (aR 0 (aNil)))) (aD (eRv (callM F__law_no_tree (aR 0 (aD (eV 1) (aNil))))) (aNil))))) (sSeq (sSetO 5 (oLst (aD (eSaid (fun _ => .str "told") (fun w => .str w) pk__law_said (eRv (callM F_changes_between (aD (eV 3) (aD (eV 4) (aD (eV 4) (aNil))))))) (aNil)))) (sSeq (sDrop (eMt 5 fApp (aD (eSaid (fun _ => .str "told") (fun w => .str w) pk__law_said (eRv (callM F_changes_between (aD (eV 1) (aD (eV 4) (aD (eV 2) (aNil))))))) (aNil)))) (sSeq (sDrop (eMt 5 fApp (aD (eSaid (fun _ => .str "told") (fun w => .str w) pk__law_said (eRv (callM F_changes_between (aD (eV 1) (aD (eV 2) (aD (eV 4) (aNil))))))) (aNil)))) (sRet (e2 (gEq false) (qR 5) (qF (oLst (aD (eC (.str "signature")) (aD (eC (.str "tree")) (aD (eC (.str "tree")) (aNil)))))))))))
def F__law_are_refused : List Sl → CR := runBody 3 6 m__law_are_refused

def m_law_i1 : MStm := sIf (tNot_ (tB_ (eRv (callM F__law_are_refused (aR 1 (aD (eV 2) (aD (eV 5) (aNil)))))))) (sRet (eC (.bool false))) (sNil)
def m_law_i2 : MStm := sIf (tOr_ (tNot_ (tB_ (eRv (callM F__law_are_two_right (aD (eV 2) (aD (eV 5) (aD (eV 6) (aNil)))))))) (tNot_ (tB_ (eRv (callM F__law_are_three_right (aR 1 (aD (eV 2) (aD (eV 5) (aNil))))))))) (sRet (eC (.bool false))) (sNil)
def m_law_b3 : MStm := sFg [2, 3, 4, 5, 6] (sSeq (sSet 2 (eRv (callM F__law_signature (aR 1 (aNil))))) (sSeq (sPar 5 6 (aD (eRv (callM F__law_tree (aR 1 (aD (eV 2) (aD (eC (.int 9)) (aNil)))))) (aD (eRv (callM F__law_tree (aR 1 (aD (eV 2) (aD (eC (.int 9)) (aNil)))))) (aNil)))) (sSeq (m_law_i2) (m_law_i1))))
def m_law_w4 : MStm := sFor (iRg rng1 (aD (eC (.int 4)) (aNil))) (gN 4) m_law_b3
def m_law_i5 : MStm := sIf (b2 (gIsN true) (qD (eRv (callM F_changes_between (aD (eV 2) (aD (eV 3) (aD (eTup (aD (eC (.str "a")) (aD (eTup (aNil)) (aNil)))) (aNil))))))) (qD (eC .none))) (sRet (eC (.bool false))) (sNil)
def m_law_i6 : MStm := sIf (b2 (gEq true) (qD (eRv (callM F_changes_between (aD (eV 2) (aD (eV 3) (aD (eTup (aD (eC (.str "g")) (aD (eTup (aD (eTup (aD (eC (.str "b")) (aD (eTup (aNil)) (aNil)))) (aD (eTup (aD (eC (.str "a")) (aD (eTup (aNil)) (aNil)))) (aNil)))) (aNil)))) (aNil))))))) (qD (eC (.int 2)))) (sRet (eC (.bool false))) (sNil)
def m_law : MStm := sSeq (sSetO 1 (oRv (callM F__law_bag (aR 0 (aNil))))) (sSeq (sSet 2 (eTup (aD (eTup (aD (eC (.str "a")) (aD (eC (.int 0)) (aNil)))) (aD (eTup (aD (eC (.str "b")) (aD (eC (.int 0)) (aNil)))) (aD (eTup (aD (eC (.str "g")) (aD (eC (.int 2)) (aNil)))) (aNil)))))) (sSeq (sSet 3 (eTup (aD (eC (.str "g")) (aD (eTup (aD (eTup (aD (eC (.str "a")) (aD (eTup (aNil)) (aNil)))) (aD (eTup (aD (eC (.str "b")) (aD (eTup (aNil)) (aNil)))) (aNil)))) (aNil))))) (sSeq (m_law_i6) (sSeq (m_law_i5) (sSeq (m_law_w4) (sRet (eC (.bool true))))))))
def F_law : List Sl → CR := runBody 1 7 m_law

end K74
end

section
set_option Elab.async false
set_option linter.all false
set_option maxRecDepth 100000
set_option maxHeartbeats 2000000
namespace K74
open PySem L2 ML He LamX
def top (i : Nat) : Stmt := PySem.Challenge.pw_shaperoads_k74_whole_changes_between_tre.main.body.getD i (.Pass ⟨0, 0, 0, 0⟩)
def mth (i j : Nat) : Stmt := match top i with
  | .ClassDef _ _ _ body _ _ _ _ _ _ _ => body.getD j (.Pass ⟨0, 0, 0, 0⟩)
  | _ => .Pass ⟨0, 0, 0, 0⟩
abbrev cA (K : PySem.W.Frag) : CA := ⟨ga K, [((cT K ("_law_are_refused", none)).2, ("_law_are_refused" ++ ".<locals>.") ++ "<lambda>")]⟩
structure Txt (K : PySem.W.Frag) (mg : Str → Option Value) : Prop where
  f_abs : mg "abs" = none
  f_all : mg "all" = none
  f_bool : mg "bool" = none
  f_dict : mg "dict" = none
  f_enumerate : mg "enumerate" = none
  f_int : mg "int" = none
  f_isinstance : mg "isinstance" = none
  f_len : mg "len" = none
  f_list : mg "list" = none
  f_max : mg "max" = none
  f_range : mg "range" = none
  f_repr : mg "repr" = none
  f_str : mg "str" = none
  f_tuple : mg "tuple" = none
  f_zip : mg "zip" = none
  g_LETTERS : ∃ t, mg "LETTERS" = some (.str "abcdefghijklmnopqrstuvwxyz" t)
  g_MOST_LETTERS : ∃ t, mg "MOST_LETTERS" = some (.int 8 t)
  g_MOST_LABELS : ∃ t, mg "MOST_LABELS" = some (.int 10 t)
  g_MOST_RANK : ∃ t, mg "MOST_RANK" = some (.int 2 t)
  a_ShapeError : mg "ShapeError" = some (.ref (ga K "ShapeError"))
  a_NoSignature : mg "NoSignature" = some (.ref (ga K "NoSignature"))
  a_NoTree : mg "NoTree" = some (.ref (ga K "NoTree"))
  a_NoPath : mg "NoPath" = some (.ref (ga K "NoPath"))
  d_is_integer : mg "is_integer" = some (.ref (ga K "is_integer"))
  d_is_within : mg "is_within" = some (.ref (ga K "is_within"))
  d_is_name : mg "is_name" = some (.ref (ga K "is_name"))
  d_is_sized : mg "is_sized" = some (.ref (ga K "is_sized"))
  d_are_rising : mg "are_rising" = some (.ref (ga K "are_rising"))
  d_is_signature : mg "is_signature" = some (.ref (ga K "is_signature"))
  d_check_signature : mg "check_signature" = some (.ref (ga K "check_signature"))
  d_raw_is_tree : mg "raw_is_tree" = some (.ref (ga K "raw_is_tree"))
  d_check_tree : mg "check_tree" = some (.ref (ga K "check_tree"))
  d_check_both : mg "check_both" = some (.ref (ga K "check_both"))
  d_raw_nodes_many : mg "raw_nodes_many" = some (.ref (ga K "raw_nodes_many"))
  d_nodes_many : mg "nodes_many" = some (.ref (ga K "nodes_many"))
  d_deep_of : mg "deep_of" = some (.ref (ga K "deep_of"))
  d_raw_paths : mg "raw_paths" = some (.ref (ga K "raw_paths"))
  d_paths_of : mg "paths_of" = some (.ref (ga K "paths_of"))
  d_row_to : mg "row_to" = some (.ref (ga K "row_to"))
  d_part_at : mg "part_at" = some (.ref (ga K "part_at"))
  d_with_part : mg "with_part" = some (.ref (ga K "with_part"))
  d_raw_changes : mg "raw_changes" = some (.ref (ga K "raw_changes"))
  d_changes_between : mg "changes_between" = some (.ref (ga K "changes_between"))
  d__law_bag : mg "_law_bag" = some (.ref (ga K "_law_bag"))
  d__law_pick : mg "_law_pick" = some (.ref (ga K "_law_pick"))
  d__law_some : mg "_law_some" = some (.ref (ga K "_law_some"))
  d__law_signature : mg "_law_signature" = some (.ref (ga K "_law_signature"))
  d__law_nodes : mg "_law_nodes" = some (.ref (ga K "_law_nodes"))
  d__law_tree : mg "_law_tree" = some (.ref (ga K "_law_tree"))
  d__law_changes : mg "_law_changes" = some (.ref (ga K "_law_changes"))
  d__law_said : mg "_law_said" = some (.ref (ga K "_law_said"))
  d__law_no_tree : mg "_law_no_tree" = some (.ref (ga K "_law_no_tree"))
  d__law_no_signature : mg "_law_no_signature" = some (.ref (ga K "_law_no_signature"))
  d__law_relabelled : mg "_law_relabelled" = some (.ref (ga K "_law_relabelled"))
  d__law_are_two_right : mg "_law_are_two_right" = some (.ref (ga K "_law_are_two_right"))
  d__law_are_three_right : mg "_law_are_three_right" = some (.ref (ga K "_law_are_three_right"))
  d__law_are_refused : mg "_law_are_refused" = some (.ref (ga K "_law_are_refused"))
  d_law : mg "law" = some (.ref (ga K "law"))
  e_NoSignature_NoSignature : PySem.W.exmOne K (.ref (ga K "NoSignature")) (.ref (ga K "NoSignature")) = some true
  e_NoTree_NoSignature : PySem.W.exmOne K (.ref (ga K "NoTree")) (.ref (ga K "NoSignature")) = some false
  e_NoTree_NoTree : PySem.W.exmOne K (.ref (ga K "NoTree")) (.ref (ga K "NoTree")) = some true
  e_NoPath_NoSignature : PySem.W.exmOne K (.ref (ga K "NoPath")) (.ref (ga K "NoSignature")) = some false
  e_NoPath_NoTree : PySem.W.exmOne K (.ref (ga K "NoPath")) (.ref (ga K "NoTree")) = some false
  e_NoPath_ShapeError : PySem.W.exmOne K (.ref (ga K "NoPath")) (.ref (ga K "ShapeError")) = some true
variable {P : Program} {w : World} {K : PySem.W.Frag} {mg : Str → Option Value} {base : Heap}
theorem pk__law_said_ok (T : Txt K mg) : ∀ (e w : Str) (q : Str → Prop), pk__law_said e = some w → q w → chain K [((.ref (ga K "NoSignature") : Value), ("signature" : Str)), ((.ref (ga K "NoTree") : Value), ("tree" : Str)), ((.ref (ga K "ShapeError") : Value), ("other" : Str))] q (.ref ((cA K) e)) := fun e w q h hq => by
  unfold pk__law_said at h
  by_cases z_NoSignature : e = "NoSignature"
  · rw [if_pos z_NoSignature] at h; cases h; subst z_NoSignature; exact ⟨true, T.e_NoSignature_NoSignature, fun _ => hq, fun z => (by cases z)⟩
  rw [if_neg z_NoSignature] at h
  by_cases z_NoTree : e = "NoTree"
  · rw [if_pos z_NoTree] at h; cases h; subst z_NoTree; exact ⟨false, T.e_NoTree_NoSignature, fun z => (by cases z), fun _ => ⟨true, T.e_NoTree_NoTree, fun _ => hq, fun z => (by cases z)⟩⟩
  rw [if_neg z_NoTree] at h
  by_cases z_NoPath : e = "NoPath"
  · rw [if_pos z_NoPath] at h; cases h; subst z_NoPath; exact ⟨false, T.e_NoPath_NoSignature, fun z => (by cases z), fun _ => ⟨false, T.e_NoPath_NoTree, fun z => (by cases z), fun _ => ⟨true, T.e_NoPath_ShapeError, fun _ => hq, fun z => (by cases z)⟩⟩⟩
  rw [if_neg z_NoPath] at h
  cases h
theorem sc_is_integer : FnScope ["thing"] ["thing"] (defScope (top 8)) := ⟨rfl, rfl, rfl, by decide +kernel, rfl, by decide +kernel, by decide +kernel⟩
theorem w_is_integer (T : Txt K mg) {fd : FuncData} (F : FunD K "is_integer" "is_integer" (defArgs (top 8)) (defBody (top 8)) (defScope (top 8)) [] [] (ga K "is_integer") fd) : Cal P w K mg base (cA K) 1 "is_integer" 1 F_is_integer :=
  calD F T.d_is_integer sc_is_integer (fun _ _ _ _ _ _ us hl => match us, hl with | [_], _ => rfl) fun cdv A outer s H E hr => by
    have hu := hr.units
    have hu1 := Nat.lt_of_le_of_lt (Nat.add_le_add_left (by decide : 1 ≤ 64) _) hu
    have sc := sc_is_integer
    exact mss_one (ms_ret (me_and (me_isi (me_var 0) T.f_isinstance T.f_int tyK_int (by decide +kernel)) (me_one (me_not (me_isi (me_var 0) T.f_isinstance T.f_bool tyK_bool (by decide +kernel))))))
theorem sc_is_within : FnScope ["thing", "low", "high"] ["thing", "low", "high"] (defScope (top 9)) := ⟨rfl, rfl, rfl, by decide +kernel, rfl, by decide +kernel, by decide +kernel⟩
theorem w_is_within (T : Txt K mg) (K_is_integer : Cal P w K mg base (cA K) 1 "is_integer" 1 F_is_integer) {fd : FuncData} (F : FunD K "is_within" "is_within" (defArgs (top 9)) (defBody (top 9)) (defScope (top 9)) [] [] (ga K "is_within") fd) : Cal P w K mg base (cA K) 2 "is_within" 3 F_is_within :=
  calD F T.d_is_within sc_is_within (fun _ _ _ _ _ _ us hl => match us, hl with | [_, _, _], _ => rfl) fun cdv A outer s H E hr => by
    have hu := hr.units
    have hu1 := Nat.lt_of_le_of_lt (Nat.add_le_add_left (by decide : 1 ≤ 64) _) hu
    have sc := sc_is_within
    exact mss_one (ms_ret (me_and (me_c (mc_call (K_is_integer.mono (by first | decide | omega | exact Nat.le_refl _)) hr (ma_d (me_var 0) (ma_nil)) (hlen := len_d (len_nil)))) (me_one (me_chain op_le s_le op_le s_le (mq_r 1) (mq_r 0) (mq_r 2)))))
theorem sc_is_name : FnScope ["thing", "sign"] ["thing"] (defScope (top 10)) := ⟨rfl, rfl, rfl, by decide +kernel, rfl, by decide +kernel, by decide +kernel⟩
theorem w_is_name (T : Txt K mg) {fd : FuncData} (F : FunD K "is_name" "is_name" (defArgs (top 10)) (defBody (top 10)) (defScope (top 10)) [] [] (ga K "is_name") fd) : Cal P w K mg base (cA K) 1 "is_name" 1 F_is_name :=
  calD F T.d_is_name sc_is_name (fun _ _ _ _ _ _ us hl => match us, hl with | [_], _ => rfl) fun cdv A outer s H E hr => by
    have hu := hr.units
    have hu1 := Nat.lt_of_le_of_lt (Nat.add_le_add_left (by decide : 1 ≤ 64) _) hu
    have sc := sc_is_name
    exact mss_cons (ms_if (mw_mt (mw_or (mt_not (mt_val (me_isi (me_var 0) T.f_isinstance T.f_str tyK_str (by decide +kernel)))) (mw_or1 (mt_not (mt_chain op_le s_le op_le s_le (mq_d (me_int)) (mq_d (me_blt call_len b_len (ma_r 0 (ma_nil)) T.f_len (by decide +kernel))) (mq_d (me_gi T.g_MOST_LETTERS))))))) (mss_one (ms_ret (me_bl))) (mss_nil)) (mss_one (ms_ret (me_blt (cr_all rfl) b_all (ma_f (mo_lc sc.nd (own := [("sign", 1)]) (mi_any (me_var 0)) (show BlkOk ["thing", "sign"] (defScope (top 10)) _ _ from ⟨rfl, by decide +kernel, by decide +kernel, by decide +kernel, by decide +kernel⟩) (fun _ _ _ _ _ => mg_name 1 sc.nd) (fun _ _ _ _ _ => mts_nil) (fun _ _ _ _ _ => me_cmp op_inA s_in (mq_r 1) (mq_d (me_gs T.g_LETTERS)))) (ma_nil)) T.f_all (by decide +kernel))))
theorem sc_is_sized : FnScope ["thing", "least", "most"] ["thing", "least", "most"] (defScope (top 11)) := ⟨rfl, rfl, rfl, by decide +kernel, rfl, by decide +kernel, by decide +kernel⟩
theorem w_is_sized (T : Txt K mg) {fd : FuncData} (F : FunD K "is_sized" "is_sized" (defArgs (top 11)) (defBody (top 11)) (defScope (top 11)) [] [] (ga K "is_sized") fd) : Cal P w K mg base (cA K) 1 "is_sized" 3 F_is_sized :=
  calD F T.d_is_sized sc_is_sized (fun _ _ _ _ _ _ us hl => match us, hl with | [_, _, _], _ => rfl) fun cdv A outer s H E hr => by
    have hu := hr.units
    have hu1 := Nat.lt_of_le_of_lt (Nat.add_le_add_left (by decide : 1 ≤ 64) _) hu
    have sc := sc_is_sized
    exact mss_one (ms_ret (me_and (me_isi (me_var 0) T.f_isinstance T.f_tuple tyK_tuple (by decide +kernel)) (me_one (me_chain op_le s_le op_le s_le (mq_r 1) (mq_d (me_blt call_len b_len (ma_r 0 (ma_nil)) T.f_len (by decide +kernel))) (mq_r 2)))))
theorem sc_are_rising : FnScope ["things", "at"] ["things"] (defScope (top 12)) := ⟨rfl, rfl, rfl, by decide +kernel, rfl, by decide +kernel, by decide +kernel⟩
theorem w_are_rising (T : Txt K mg) {fd : FuncData} (F : FunD K "are_rising" "are_rising" (defArgs (top 12)) (defBody (top 12)) (defScope (top 12)) [] [] (ga K "are_rising") fd) : Cal P w K mg base (cA K) 1 "are_rising" 1 F_are_rising :=
  calD F T.d_are_rising sc_are_rising (fun _ _ _ _ _ _ us hl => match us, hl with | [_], _ => rfl) fun cdv A outer s H E hr => by
    have hu := hr.units
    have hu1 := Nat.lt_of_le_of_lt (Nat.add_le_add_left (by decide : 1 ≤ 64) _) hu
    have sc := sc_are_rising
    exact mss_one (ms_ret (me_blt (cr_all rfl) b_all (ma_f (mo_lc sc.nd (own := [("at", 1)]) (mi_range1 (ma_d (me_op op_sub s_sub (mq_d (me_blt call_len b_len (ma_r 0 (ma_nil)) T.f_len (by decide +kernel))) (mq_d (me_int))) (ma_nil)) T.f_range) (show BlkOk ["things", "at"] (defScope (top 12)) _ _ from ⟨rfl, by decide +kernel, by decide +kernel, by decide +kernel, by decide +kernel⟩) (fun _ _ _ _ _ => mg_name 1 sc.nd) (fun _ _ _ _ _ => mts_nil) (fun _ _ _ _ _ => me_cmp (MK.op_ltD hu) s_ltD (mq_d (me_ix ix_seq s_ix (mq_r 0) (mq_r 1))) (mq_d (me_ix ix_seq s_ix (mq_r 0) (mq_d (me_op op_addD s_add (mq_r 1) (mq_d (me_int)))))))) (ma_nil)) T.f_all (by decide +kernel)))
theorem sc_is_signature : FnScope ["thing", "pair"] ["thing"] (defScope (top 16)) := ⟨rfl, rfl, rfl, by decide +kernel, rfl, by decide +kernel, by decide +kernel⟩
theorem w_is_signature (T : Txt K mg) (K_are_rising : Cal P w K mg base (cA K) 1 "are_rising" 1 F_are_rising) (K_is_sized : Cal P w K mg base (cA K) 1 "is_sized" 3 F_is_sized) (K_is_name : Cal P w K mg base (cA K) 1 "is_name" 1 F_is_name) (K_is_within : Cal P w K mg base (cA K) 2 "is_within" 3 F_is_within) {fd : FuncData} (F : FunD K "is_signature" "is_signature" (defArgs (top 16)) (defBody (top 16)) (defScope (top 16)) [] [] (ga K "is_signature") fd) : Cal P w K mg base (cA K) 3 "is_signature" 1 F_is_signature :=
  calD F T.d_is_signature sc_is_signature (fun _ _ _ _ _ _ us hl => match us, hl with | [_], _ => rfl) fun cdv A outer s H E hr => by
    have hu := hr.units
    have hu1 := Nat.lt_of_le_of_lt (Nat.add_le_add_left (by decide : 1 ≤ 64) _) hu
    have sc := sc_is_signature
    exact mss_cons (ms_if (mw_mt (mw_or (mt_not (mt_val (me_c (mc_call (K_is_sized.mono (by first | decide | omega | exact Nat.le_refl _)) hr (ma_d (me_var 0) (ma_d (me_int) (ma_d (me_gi T.g_MOST_LABELS) (ma_nil)))) (hlen := len_d (len_d (len_d (len_nil)))))))) (mw_or1 (mt_not (mt_val (me_blt (cr_all rfl) b_all (ma_f (mo_lc sc.nd (own := [("pair", 1)]) (mi_any (me_var 0)) (show BlkOk ["thing", "pair"] (defScope (top 16)) _ _ from ⟨rfl, by decide +kernel, by decide +kernel, by decide +kernel, by decide +kernel⟩) (fun _ _ _ _ _ => mg_name 1 sc.nd) (fun _ _ _ _ _ => mts_nil) (fun _ _ _ _ _ => me_c (mc_call (K_is_sized.mono (by first | decide | omega | exact Nat.le_refl _)) hr (ma_d (me_var 1) (ma_d (me_int) (ma_d (me_int) (ma_nil)))) (hlen := len_d (len_d (len_d (len_nil))))))) (ma_nil)) T.f_all (by decide +kernel))))))) (mss_one (ms_ret (me_bl))) (mss_nil)) (mss_cons (ms_if (mt_not (mt_val (me_blt (cr_all rfl) b_all (ma_f (mo_lc sc.nd (own := [("pair", 1)]) (mi_any (me_var 0)) (show BlkOk ["thing", "pair"] (defScope (top 16)) _ _ from ⟨rfl, by decide +kernel, by decide +kernel, by decide +kernel, by decide +kernel⟩) (fun _ _ _ _ _ => mg_name 1 sc.nd) (fun _ _ _ _ _ => mts_nil) (fun _ _ _ _ _ => me_and (me_c (mc_call (K_is_name.mono (by first | decide | omega | exact Nat.le_refl _)) hr (ma_d (me_ix ix_seq s_ix (mq_r 1) (mq_d (me_int))) (ma_nil)) (hlen := len_d (len_nil)))) (me_one (me_c (mc_call (K_is_within.mono (by first | decide | omega | exact Nat.le_refl _)) hr (ma_d (me_ix ix_seq s_ix (mq_r 1) (mq_d (me_int))) (ma_d (me_int) (ma_d (me_gi T.g_MOST_RANK) (ma_nil)))) (hlen := len_d (len_d (len_d (len_nil))))))))) (ma_nil)) T.f_all (by decide +kernel)))) (mss_one (ms_ret (me_bl))) (mss_nil)) (mss_one (ms_ret (me_c (mc_call (K_are_rising.mono (by first | decide | omega | exact Nat.le_refl _)) hr (ma_d (me_o (mo_lc sc.nd (own := [("pair", 1)]) (mi_any (me_var 0)) (show BlkOk ["thing", "pair"] (defScope (top 16)) _ _ from ⟨rfl, by decide +kernel, by decide +kernel, by decide +kernel, by decide +kernel⟩) (fun _ _ _ _ _ => mg_name 1 sc.nd) (fun _ _ _ _ _ => mts_nil) (fun _ _ _ _ _ => me_ix ix_seq s_ix (mq_r 1) (mq_d (me_int))))) (ma_nil)) (hlen := len_d (len_nil)))))))
theorem sc_check_signature : FnScope ["thing"] ["thing"] (defScope (top 17)) := ⟨rfl, rfl, rfl, by decide +kernel, rfl, by decide +kernel, by decide +kernel⟩
theorem w_check_signature (T : Txt K mg) (K_is_signature : Cal P w K mg base (cA K) 3 "is_signature" 1 F_is_signature) (r_NoSignature : Rz P w K mg base (cA K) "NoSignature") {fd : FuncData} (F : FunD K "check_signature" "check_signature" (defArgs (top 17)) (defBody (top 17)) (defScope (top 17)) [] [] (ga K "check_signature") fd) : Cal P w K mg base (cA K) 4 "check_signature" 1 F_check_signature :=
  calD F T.d_check_signature sc_check_signature (fun _ _ _ _ _ _ us hl => match us, hl with | [_], _ => rfl) fun cdv A outer s H E hr => by
    have hu := hr.units
    have hu1 := Nat.lt_of_le_of_lt (Nat.add_le_add_left (by decide : 1 ≤ 64) _) hu
    have sc := sc_check_signature
    exact mss_one (ms_if (mt_not (mt_val (me_c (mc_call (K_is_signature.mono (by first | decide | omega | exact Nat.le_refl _)) hr (ma_d (me_var 0) (ma_nil)) (hlen := len_d (len_nil)))))) (mss_one (ms_raise "NoSignature" (pmk_r r_NoSignature (hr.mono (by first | decide | omega | exact Nat.le_refl _))))) (mss_nil))
theorem sc_raw_is_tree : FnScope ["signature", "thing", "ranks", "waiting", "here"] ["signature", "thing"] (defScope (top 18)) := ⟨rfl, rfl, rfl, by decide +kernel, rfl, by decide +kernel, by decide +kernel⟩
theorem w_raw_is_tree (T : Txt K mg) (K_is_sized : Cal P w K mg base (cA K) 1 "is_sized" 3 F_is_sized) {fd : FuncData} (F : FunD K "raw_is_tree" "raw_is_tree" (defArgs (top 18)) (defBody (top 18)) (defScope (top 18)) [] [] (ga K "raw_is_tree") fd) : Cal P w K mg base (cA K) 2 "raw_is_tree" 2 F_raw_is_tree :=
  calD F T.d_raw_is_tree sc_raw_is_tree (fun _ _ _ _ _ _ us hl => match us, hl with | [_, _], _ => rfl) fun cdv A outer s H E hr => by
    have hu := hr.units
    have hu1 := Nat.lt_of_le_of_lt (Nat.add_le_add_left (by decide : 1 ≤ 64) _) hu
    have sc := sc_raw_is_tree
    exact mss_cons (ms_par 2 3 (ma_f (mo_dictT (me_var 0) T.f_dict) (ma_f (mo_lst (ma_d (me_var 1) (ma_nil))) (ma_nil))) sc.nd) (mss_cons (ms_while 20000 (mt_cmp op_gt s_gt (mq_d (me_blt call_len b_len (ma_r 3 (ma_nil)) T.f_len (by decide +kernel))) (mq_d (me_int))) (mss_fg [4] (mss_cons (ms_set 4 (me_mt0 3 PySem.F.slot_list_pop PySem.F.type_list_pop mt_pop mts_pop) sc.nd) (mss_cons (ms_if (mw_mt (mw_or (mt_not (mt_val (me_c (mc_call (K_is_sized.mono (by first | decide | omega | exact Nat.le_refl _)) hr (ma_d (me_var 4) (ma_d (me_int) (ma_d (me_int) (ma_nil)))) (hlen := len_d (len_d (len_d (len_nil)))))))) (mw_or (mt_not (mt_val (me_isi (me_ix ix_seq s_ix (mq_r 4) (mq_d (me_int))) T.f_isinstance T.f_str tyK_str (by decide +kernel)))) (mw_or1 (mt_dnin hu1 (me_ix ix_seq s_ix (mq_r 4) (mq_d (me_int))) (mq_r 2)))))) (mss_one (ms_ret (me_bl))) (mss_nil)) (mss_cons (ms_if (mt_not (mt_val (me_c (mc_call (K_is_sized.mono (by first | decide | omega | exact Nat.le_refl _)) hr (ma_d (me_ix ix_seq s_ix (mq_r 4) (mq_d (me_int))) (ma_d (me_dgetQ hu1 (mq_r 2) (me_ix ix_seq s_ix (mq_r 4) (mq_d (me_int))) (fun _ _ => rfl)) (ma_d (me_dgetQ hu1 (mq_r 2) (me_ix ix_seq s_ix (mq_r 4) (mq_d (me_int))) (fun _ _ => rfl)) (ma_nil)))) (hlen := len_d (len_d (len_d (len_nil)))))))) (mss_one (ms_ret (me_bl))) (mss_nil)) (mss_one (ms_expr (me_mt 3 PySem.F.slot_list_extend PySem.F.type_list_extend mt_extA mts_extA (ma_f (mo_bltT (cr_listA rfl) b_listA (ma_d (me_ix ix_seq s_ix (mq_r 4) (mq_d (me_int))) (ma_nil)) T.f_list (by decide +kernel)) (ma_nil)))))))))) (mss_one (ms_ret (me_bl))))
theorem sc_check_tree : FnScope ["signature", "tree"] ["signature", "tree"] (defScope (top 19)) := ⟨rfl, rfl, rfl, by decide +kernel, rfl, by decide +kernel, by decide +kernel⟩
theorem w_check_tree (T : Txt K mg) (K_raw_is_tree : Cal P w K mg base (cA K) 2 "raw_is_tree" 2 F_raw_is_tree) (r_NoTree : Rz P w K mg base (cA K) "NoTree") {fd : FuncData} (F : FunD K "check_tree" "check_tree" (defArgs (top 19)) (defBody (top 19)) (defScope (top 19)) [] [] (ga K "check_tree") fd) : Cal P w K mg base (cA K) 3 "check_tree" 2 F_check_tree :=
  calD F T.d_check_tree sc_check_tree (fun _ _ _ _ _ _ us hl => match us, hl with | [_, _], _ => rfl) fun cdv A outer s H E hr => by
    have hu := hr.units
    have hu1 := Nat.lt_of_le_of_lt (Nat.add_le_add_left (by decide : 1 ≤ 64) _) hu
    have sc := sc_check_tree
    exact mss_one (ms_if (mt_not (mt_val (me_c (mc_call (K_raw_is_tree.mono (by first | decide | omega | exact Nat.le_refl _)) hr (ma_d (me_var 0) (ma_d (me_var 1) (ma_nil))) (hlen := len_d (len_d (len_nil))))))) (mss_one (ms_raise "NoTree" (pmk_r r_NoTree (hr.mono (by first | decide | omega | exact Nat.le_refl _))))) (mss_nil))
theorem sc_check_both : FnScope ["signature", "tree"] ["signature", "tree"] (defScope (top 20)) := ⟨rfl, rfl, rfl, by decide +kernel, rfl, by decide +kernel, by decide +kernel⟩
theorem w_check_both (T : Txt K mg) (K_check_signature : Cal P w K mg base (cA K) 4 "check_signature" 1 F_check_signature) (K_check_tree : Cal P w K mg base (cA K) 3 "check_tree" 2 F_check_tree) {fd : FuncData} (F : FunD K "check_both" "check_both" (defArgs (top 20)) (defBody (top 20)) (defScope (top 20)) [] [] (ga K "check_both") fd) : Cal P w K mg base (cA K) 5 "check_both" 2 F_check_both :=
  calD F T.d_check_both sc_check_both (fun _ _ _ _ _ _ us hl => match us, hl with | [_, _], _ => rfl) fun cdv A outer s H E hr => by
    have hu := hr.units
    have hu1 := Nat.lt_of_le_of_lt (Nat.add_le_add_left (by decide : 1 ≤ 64) _) hu
    have sc := sc_check_both
    exact mss_cons (ms_expr (me_c (mc_call (K_check_signature.mono (by first | decide | omega | exact Nat.le_refl _)) hr (ma_d (me_var 0) (ma_nil)) (hlen := len_d (len_nil))))) (mss_one (ms_expr (me_c (mc_call (K_check_tree.mono (by first | decide | omega | exact Nat.le_refl _)) hr (ma_d (me_var 0) (ma_d (me_var 1) (ma_nil))) (hlen := len_d (len_d (len_nil)))))))
theorem sc_raw_nodes_many : FnScope ["tree", "many", "waiting"] ["tree"] (defScope (top 21)) := ⟨rfl, rfl, rfl, by decide +kernel, rfl, by decide +kernel, by decide +kernel⟩
theorem w_raw_nodes_many (T : Txt K mg) {fd : FuncData} (F : FunD K "raw_nodes_many" "raw_nodes_many" (defArgs (top 21)) (defBody (top 21)) (defScope (top 21)) [] [] (ga K "raw_nodes_many") fd) : Cal P w K mg base (cA K) 1 "raw_nodes_many" 1 F_raw_nodes_many :=
  calD F T.d_raw_nodes_many sc_raw_nodes_many (fun _ _ _ _ _ _ us hl => match us, hl with | [_], _ => rfl) fun cdv A outer s H E hr => by
    have hu := hr.units
    have hu1 := Nat.lt_of_le_of_lt (Nat.add_le_add_left (by decide : 1 ≤ 64) _) hu
    have sc := sc_raw_nodes_many
    exact mss_cons (ms_par 1 2 (ma_d (me_int) (ma_f (mo_lst (ma_d (me_var 0) (ma_nil))) (ma_nil))) sc.nd) (mss_cons (ms_while 20000 (mt_cmp op_gt s_gt (mq_d (me_blt call_len b_len (ma_r 2 (ma_nil)) T.f_len (by decide +kernel))) (mq_d (me_int))) (mss_fg [] (mss_cons (ms_aug 1 iop_addD s_iadd (me_int) sc.nd) (mss_one (ms_expr (me_mt 2 PySem.F.slot_list_extend PySem.F.type_list_extend mt_extA mts_extA (ma_d (me_ix ix_seq s_ix (mq_d (me_mt0 2 PySem.F.slot_list_pop PySem.F.type_list_pop mt_pop mts_pop)) (mq_d (me_int))) (ma_nil)))))))) (mss_one (ms_retV 1)))
theorem sc_nodes_many : FnScope ["signature", "tree"] ["signature", "tree"] (defScope (top 22)) := ⟨rfl, rfl, rfl, by decide +kernel, rfl, by decide +kernel, by decide +kernel⟩
theorem w_nodes_many (T : Txt K mg) (K_check_both : Cal P w K mg base (cA K) 5 "check_both" 2 F_check_both) (K_raw_nodes_many : Cal P w K mg base (cA K) 1 "raw_nodes_many" 1 F_raw_nodes_many) {fd : FuncData} (F : FunD K "nodes_many" "nodes_many" (defArgs (top 22)) (defBody (top 22)) (defScope (top 22)) [] [] (ga K "nodes_many") fd) : Cal P w K mg base (cA K) 6 "nodes_many" 2 F_nodes_many :=
  calD F T.d_nodes_many sc_nodes_many (fun _ _ _ _ _ _ us hl => match us, hl with | [_, _], _ => rfl) fun cdv A outer s H E hr => by
    have hu := hr.units
    have hu1 := Nat.lt_of_le_of_lt (Nat.add_le_add_left (by decide : 1 ≤ 64) _) hu
    have sc := sc_nodes_many
    exact mss_cons (ms_expr (me_c (mc_call (K_check_both.mono (by first | decide | omega | exact Nat.le_refl _)) hr (ma_d (me_var 0) (ma_d (me_var 1) (ma_nil))) (hlen := len_d (len_d (len_nil)))))) (mss_one (ms_ret (me_c (mc_call (K_raw_nodes_many.mono (by first | decide | omega | exact Nat.le_refl _)) hr (ma_d (me_var 1) (ma_nil)) (hlen := len_d (len_nil))))))
theorem sc_deep_of : FnScope ["signature", "tree", "deepest", "waiting", "here", "deep", "part"] ["signature", "tree"] (defScope (top 23)) := ⟨rfl, rfl, rfl, by decide +kernel, rfl, by decide +kernel, by decide +kernel⟩
theorem w_deep_of (T : Txt K mg) (K_check_both : Cal P w K mg base (cA K) 5 "check_both" 2 F_check_both) {fd : FuncData} (F : FunD K "deep_of" "deep_of" (defArgs (top 23)) (defBody (top 23)) (defScope (top 23)) [] [] (ga K "deep_of") fd) : Cal P w K mg base (cA K) 6 "deep_of" 2 F_deep_of :=
  calD F T.d_deep_of sc_deep_of (fun _ _ _ _ _ _ us hl => match us, hl with | [_, _], _ => rfl) fun cdv A outer s H E hr => by
    have hu := hr.units
    have hu1 := Nat.lt_of_le_of_lt (Nat.add_le_add_left (by decide : 1 ≤ 64) _) hu
    have sc := sc_deep_of
    exact mss_cons (ms_expr (me_c (mc_call (K_check_both.mono (by first | decide | omega | exact Nat.le_refl _)) hr (ma_d (me_var 0) (ma_d (me_var 1) (ma_nil))) (hlen := len_d (len_d (len_nil)))))) (mss_cons (ms_par 2 3 (ma_d (me_int) (ma_f (mo_lst (ma_d (me_tup (ma_d (me_var 1) (ma_d (me_int) (ma_nil)))) (ma_nil))) (ma_nil))) sc.nd) (mss_cons (ms_while 20000 (mt_cmp op_gt s_gt (mq_d (me_blt call_len b_len (ma_r 3 (ma_nil)) T.f_len (by decide +kernel))) (mq_d (me_int))) (mss_fg [4, 5, 6] (mss_cons (ms_asg (me_mt0 3 PySem.F.slot_list_pop PySem.F.type_list_pop mt_pop mts_pop) (mg_tup (mgs_cons (mg_name 4 sc.nd) (mgs_cons (mg_name 5 sc.nd) (mgs_nil))) (gCons_len (gCons_len (gNil_len))))) (mss_cons (ms_set 2 (me_blt (call_max2 rfl) b_max (ma_r 2 (ma_r 5 (ma_nil))) T.f_max (by decide +kernel)) sc.nd) (mss_one (ms_expr (me_mt 3 PySem.F.slot_list_extend PySem.F.type_list_extend mt_extA mts_extA (ma_f (mo_lc sc.nd (own := [("part", 6)]) (mi_any (me_ix ix_seq s_ix (mq_r 4) (mq_d (me_int)))) (show BlkOk ["signature", "tree", "deepest", "waiting", "here", "deep", "part"] (defScope (top 23)) _ _ from ⟨rfl, by decide +kernel, by decide +kernel, by decide +kernel, by decide +kernel⟩) (fun _ _ _ _ _ => mg_name 6 sc.nd) (fun _ _ _ _ _ => mts_nil) (fun _ _ _ _ _ => me_tup (ma_d (me_var 6) (ma_d (me_op op_addD s_add (mq_r 5) (mq_d (me_int))) (ma_nil))))) (ma_nil))))))))) (mss_one (ms_retV 2))))
theorem sc_raw_paths : FnScope ["tree", "found", "waiting", "path", "here", "at", "part"] ["tree"] (defScope (top 24)) := ⟨rfl, rfl, rfl, by decide +kernel, rfl, by decide +kernel, by decide +kernel⟩
theorem w_raw_paths (T : Txt K mg) {fd : FuncData} (F : FunD K "raw_paths" "raw_paths" (defArgs (top 24)) (defBody (top 24)) (defScope (top 24)) [] [] (ga K "raw_paths") fd) : Cal P w K mg base (cA K) 1 "raw_paths" 1 F_raw_paths :=
  calD F T.d_raw_paths sc_raw_paths (fun _ _ _ _ _ _ us hl => match us, hl with | [_], _ => rfl) fun cdv A outer s H E hr => by
    have hu := hr.units
    have hu1 := Nat.lt_of_le_of_lt (Nat.add_le_add_left (by decide : 1 ≤ 64) _) hu
    have sc := sc_raw_paths
    exact mss_cons (ms_par 1 2 (ma_f (mo_lst (ma_nil)) (ma_f (mo_lst (ma_d (me_tup (ma_d (me_tup (ma_nil)) (ma_d (me_var 0) (ma_nil)))) (ma_nil))) (ma_nil))) sc.nd) (mss_cons (ms_while 20000 (mt_cmp op_gt s_gt (mq_d (me_blt call_len b_len (ma_r 2 (ma_nil)) T.f_len (by decide +kernel))) (mq_d (me_int))) (mss_fg [3, 4, 5, 6] (mss_cons (ms_asg (me_mt0 2 PySem.F.slot_list_pop PySem.F.type_list_pop mt_pop mts_pop) (mg_tup (mgs_cons (mg_name 3 sc.nd) (mgs_cons (mg_name 4 sc.nd) (mgs_nil))) (gCons_len (gCons_len (gNil_len))))) (mss_cons (ms_expr (me_mt 1 PySem.F.slot_list_append PySem.F.type_list_append mt_append mts_app (ma_d (me_tup (ma_d (me_var 3) (ma_d (me_var 4) (ma_nil)))) (ma_nil)))) (mss_one (ms_expr (me_mt 2 PySem.F.slot_list_extend PySem.F.type_list_extend mt_extA mts_extA (ma_f (mo_revQ (mq_f (mo_lc sc.nd (own := [("at", 5), ("part", 6)]) (mi_enumA (me_ix ix_seq s_ix (mq_r 4) (mq_d (me_int))) T.f_enumerate) (show BlkOk ["tree", "found", "waiting", "path", "here", "at", "part"] (defScope (top 24)) _ _ from ⟨rfl, by decide +kernel, by decide +kernel, by decide +kernel, by decide +kernel⟩) (fun _ _ _ _ _ => mg_tup (mgs_cons (mg_name 5 sc.nd) (mgs_cons (mg_name 6 sc.nd) (mgs_nil))) (gCons_len (gCons_len (gNil_len)))) (fun _ _ _ _ _ => mts_nil) (fun _ _ _ _ _ => me_tup (ma_d (me_op op_addD s_add (mq_r 3) (mq_d (me_tup (ma_d (me_var 5) (ma_nil))))) (ma_d (me_var 6) (ma_nil))))))) (ma_nil))))))))) (mss_one (ms_retV 1)))
theorem sc_paths_of : FnScope ["signature", "tree", "path", "here"] ["signature", "tree"] (defScope (top 25)) := ⟨rfl, rfl, rfl, by decide +kernel, rfl, by decide +kernel, by decide +kernel⟩
theorem w_paths_of (T : Txt K mg) (K_check_both : Cal P w K mg base (cA K) 5 "check_both" 2 F_check_both) (K_raw_paths : Cal P w K mg base (cA K) 1 "raw_paths" 1 F_raw_paths) {fd : FuncData} (F : FunD K "paths_of" "paths_of" (defArgs (top 25)) (defBody (top 25)) (defScope (top 25)) [] [] (ga K "paths_of") fd) : Cal P w K mg base (cA K) 6 "paths_of" 2 F_paths_of :=
  calD F T.d_paths_of sc_paths_of (fun _ _ _ _ _ _ us hl => match us, hl with | [_, _], _ => rfl) fun cdv A outer s H E hr => by
    have hu := hr.units
    have hu1 := Nat.lt_of_le_of_lt (Nat.add_le_add_left (by decide : 1 ≤ 64) _) hu
    have sc := sc_paths_of
    exact mss_cons (ms_expr (me_c (mc_call (K_check_both.mono (by first | decide | omega | exact Nat.le_refl _)) hr (ma_d (me_var 0) (ma_d (me_var 1) (ma_nil))) (hlen := len_d (len_d (len_nil)))))) (mss_one (ms_ret (me_bltT MK.cr_tupOfZ b_tup (ma_f (mo_lc sc.nd (own := [("path", 2), ("here", 3)]) (mi_any (me_c (mc_call (K_raw_paths.mono (by first | decide | omega | exact Nat.le_refl _)) hr (ma_d (me_var 1) (ma_nil)) (hlen := len_d (len_nil))))) (show BlkOk ["signature", "tree", "path", "here"] (defScope (top 25)) _ _ from ⟨rfl, by decide +kernel, by decide +kernel, by decide +kernel, by decide +kernel⟩) (fun _ _ _ _ _ => mg_tup (mgs_cons (mg_name 2 sc.nd) (mgs_cons (mg_name 3 sc.nd) (mgs_nil))) (gCons_len (gCons_len (gNil_len)))) (fun _ _ _ _ _ => mts_nil) (fun _ _ _ _ _ => me_var 2)) (ma_nil)) T.f_tuple (by decide +kernel))))
theorem sc_row_to : FnScope ["tree", "path", "found", "at"] ["tree", "path"] (defScope (top 26)) := ⟨rfl, rfl, rfl, by decide +kernel, rfl, by decide +kernel, by decide +kernel⟩
theorem w_row_to (T : Txt K mg) (r_NoPath : Rz P w K mg base (cA K) "NoPath") (K_is_within : Cal P w K mg base (cA K) 2 "is_within" 3 F_is_within) {fd : FuncData} (F : FunD K "row_to" "row_to" (defArgs (top 26)) (defBody (top 26)) (defScope (top 26)) [] [] (ga K "row_to") fd) : Cal P w K mg base (cA K) 3 "row_to" 2 F_row_to :=
  calD F T.d_row_to sc_row_to (fun _ _ _ _ _ _ us hl => match us, hl with | [_, _], _ => rfl) fun cdv A outer s H E hr => by
    have hu := hr.units
    have hu1 := Nat.lt_of_le_of_lt (Nat.add_le_add_left (by decide : 1 ≤ 64) _) hu
    have sc := sc_row_to
    exact mss_cons (ms_if (mt_not (mt_val (me_isi (me_var 1) T.f_isinstance T.f_tuple tyK_tuple (by decide +kernel)))) (mss_one (ms_raise "NoPath" (pmk_r r_NoPath (hr.mono (by first | decide | omega | exact Nat.le_refl _))))) (mss_nil)) (mss_cons (ms_setO 2 (mo_lst (ma_d (me_var 0) (ma_nil))) sc.nd) (mss_cons (ms_for (mi_any (me_var 1)) (mg_name 3 sc.nd) (mss_fg [3] (mss_cons (ms_if (mt_not (mt_val (me_c (mc_call (K_is_within.mono (by first | decide | omega | exact Nat.le_refl _)) hr (ma_d (me_var 3) (ma_d (me_int) (ma_d (me_op op_sub s_sub (mq_d (me_blt call_len b_len (ma_d (me_ix ix_seq s_ix (mq_d (me_ix ix_seq s_ix (mq_r 2) (mq_d (me_neg (me_int))))) (mq_d (me_int))) (ma_nil)) T.f_len (by decide +kernel))) (mq_d (me_int))) (ma_nil)))) (hlen := len_d (len_d (len_d (len_nil)))))))) (mss_one (ms_raise "NoPath" (pmk_r r_NoPath (hr.mono (by first | decide | omega | exact Nat.le_refl _))))) (mss_nil)) (mss_one (ms_expr (me_mt 2 PySem.F.slot_list_append PySem.F.type_list_append mt_append mts_app (ma_d (me_ix ix_seq s_ix (mq_d (me_ix ix_seq s_ix (mq_d (me_ix ix_seq s_ix (mq_r 2) (mq_d (me_neg (me_int))))) (mq_d (me_int)))) (mq_r 3)) (ma_nil)))))))) (mss_one (ms_retV 2))))
theorem sc_part_at : FnScope ["signature", "tree", "path"] ["signature", "tree", "path"] (defScope (top 27)) := ⟨rfl, rfl, rfl, by decide +kernel, rfl, by decide +kernel, by decide +kernel⟩
theorem w_part_at (T : Txt K mg) (K_check_both : Cal P w K mg base (cA K) 5 "check_both" 2 F_check_both) (K_row_to : Cal P w K mg base (cA K) 3 "row_to" 2 F_row_to) {fd : FuncData} (F : FunD K "part_at" "part_at" (defArgs (top 27)) (defBody (top 27)) (defScope (top 27)) [] [] (ga K "part_at") fd) : Cal P w K mg base (cA K) 6 "part_at" 3 F_part_at :=
  calD F T.d_part_at sc_part_at (fun _ _ _ _ _ _ us hl => match us, hl with | [_, _, _], _ => rfl) fun cdv A outer s H E hr => by
    have hu := hr.units
    have hu1 := Nat.lt_of_le_of_lt (Nat.add_le_add_left (by decide : 1 ≤ 64) _) hu
    have sc := sc_part_at
    exact mss_cons (ms_expr (me_c (mc_call (K_check_both.mono (by first | decide | omega | exact Nat.le_refl _)) hr (ma_d (me_var 0) (ma_d (me_var 1) (ma_nil))) (hlen := len_d (len_d (len_nil)))))) (mss_one (ms_ret (me_ix ix_seq s_ix (mq_d (me_c (mc_call (K_row_to.mono (by first | decide | omega | exact Nat.le_refl _)) hr (ma_d (me_var 1) (ma_d (me_var 2) (ma_nil))) (hlen := len_d (len_d (len_nil)))))) (mq_d (me_neg (me_int))))))
theorem sc_with_part : FnScope ["signature", "tree", "path", "other", "row", "found", "here", "at"] ["signature", "tree", "path", "other"] (defScope (top 28)) := ⟨rfl, rfl, rfl, by decide +kernel, rfl, by decide +kernel, by decide +kernel⟩
theorem w_with_part (T : Txt K mg) (K_check_both : Cal P w K mg base (cA K) 5 "check_both" 2 F_check_both) (K_check_tree : Cal P w K mg base (cA K) 3 "check_tree" 2 F_check_tree) (K_row_to : Cal P w K mg base (cA K) 3 "row_to" 2 F_row_to) {fd : FuncData} (F : FunD K "with_part" "with_part" (defArgs (top 28)) (defBody (top 28)) (defScope (top 28)) [] [] (ga K "with_part") fd) : Cal P w K mg base (cA K) 6 "with_part" 4 F_with_part :=
  calD F T.d_with_part sc_with_part (fun _ _ _ _ _ _ us hl => match us, hl with | [_, _, _, _], _ => rfl) fun cdv A outer s H E hr => by
    have hu := hr.units
    have hu1 := Nat.lt_of_le_of_lt (Nat.add_le_add_left (by decide : 1 ≤ 64) _) hu
    have sc := sc_with_part
    exact mss_cons (ms_expr (me_c (mc_call (K_check_both.mono (by first | decide | omega | exact Nat.le_refl _)) hr (ma_d (me_var 0) (ma_d (me_var 1) (ma_nil))) (hlen := len_d (len_d (len_nil)))))) (mss_cons (ms_expr (me_c (mc_call (K_check_tree.mono (by first | decide | omega | exact Nat.le_refl _)) hr (ma_d (me_var 0) (ma_d (me_var 3) (ma_nil))) (hlen := len_d (len_d (len_nil)))))) (mss_cons (ms_par 4 5 (ma_d (me_c (mc_call (K_row_to.mono (by first | decide | omega | exact Nat.le_refl _)) hr (ma_d (me_var 1) (ma_d (me_var 2) (ma_nil))) (hlen := len_d (len_d (len_nil))))) (ma_d (me_var 3) (ma_nil))) sc.nd) (mss_cons (ms_for (mi_any (me_o (mo_revQ (mq_f (mo_listZip (ma_r 4 (ma_r 2 (ma_nil))) T.f_list T.f_zip))))) (mg_tup (mgs_cons (mg_name 6 sc.nd) (mgs_cons (mg_name 7 sc.nd) (mgs_nil))) (gCons_len (gCons_len (gNil_len)))) (mss_fg [4, 6, 7] (mss_one (ms_set 5 (me_tup (ma_d (me_ix ix_seq s_ix (mq_r 6) (mq_d (me_int))) (ma_d (me_op op_addD s_add (mq_d (me_op op_addD s_add (mq_d (me_slice MK.sl_tupZ s_slT (mq_d (me_ix ix_seq s_ix (mq_r 6) (mq_d (me_int)))) (mpt_none) (mpt_some (me_var 7)))) (mq_d (me_tup (ma_d (me_var 5) (ma_nil)))))) (mq_d (me_slice MK.sl_tupZ s_slT (mq_d (me_ix ix_seq s_ix (mq_r 6) (mq_d (me_int)))) (mpt_some (me_op op_addD s_add (mq_r 7) (mq_d (me_int)))) (mpt_none)))) (ma_nil)))) sc.nd)))) (mss_one (ms_retV 5)))))
theorem sc_raw_changes : FnScope ["one", "other", "many", "waiting", "here", "there"] ["one", "other"] (defScope (top 30)) := ⟨rfl, rfl, rfl, by decide +kernel, rfl, by decide +kernel, by decide +kernel⟩
theorem w_raw_changes (T : Txt K mg) {fd : FuncData} (F : FunD K "raw_changes" "raw_changes" (defArgs (top 30)) (defBody (top 30)) (defScope (top 30)) [] [] (ga K "raw_changes") fd) : Cal P w K mg base (cA K) 1 "raw_changes" 2 F_raw_changes :=
  calD F T.d_raw_changes sc_raw_changes (fun _ _ _ _ _ _ us hl => match us, hl with | [_, _], _ => rfl) fun cdv A outer s H E hr => by
    have hu := hr.units
    have hu1 := Nat.lt_of_le_of_lt (Nat.add_le_add_left (by decide : 1 ≤ 64) _) hu
    have sc := sc_raw_changes
    exact mss_cons (ms_par 2 3 (ma_d (me_int) (ma_f (mo_lst (ma_d (me_tup (ma_d (me_var 0) (ma_d (me_var 1) (ma_nil)))) (ma_nil))) (ma_nil))) sc.nd) (mss_cons (ms_while 20000 (mt_cmp op_gt s_gt (mq_d (me_blt call_len b_len (ma_r 3 (ma_nil)) T.f_len (by decide +kernel))) (mq_d (me_int))) (mss_fg [4, 5] (mss_cons (ms_asg (me_mt0 3 PySem.F.slot_list_pop PySem.F.type_list_pop mt_pop mts_pop) (mg_tup (mgs_cons (mg_name 4 sc.nd) (mgs_cons (mg_name 5 sc.nd) (mgs_nil))) (gCons_len (gCons_len (gNil_len))))) (mss_cons (ms_if (mt_cmp (op_neD hu) s_ne (mq_d (me_blt call_len b_len (ma_d (me_ix ix_seq s_ix (mq_r 4) (mq_d (me_int))) (ma_nil)) T.f_len (by decide +kernel))) (mq_d (me_blt call_len b_len (ma_d (me_ix ix_seq s_ix (mq_r 5) (mq_d (me_int))) (ma_nil)) T.f_len (by decide +kernel)))) (mss_one (ms_ret (me_non))) (mss_nil)) (mss_cons (ms_aug 2 iop_addD s_iadd (me_bltT call_int1 b_int (ma_d (me_cmp (op_neD hu) s_ne (mq_d (me_ix ix_seq s_ix (mq_r 4) (mq_d (me_int)))) (mq_d (me_ix ix_seq s_ix (mq_r 5) (mq_d (me_int))))) (ma_nil)) T.f_int (by decide +kernel)) sc.nd) (mss_one (ms_expr (me_mt 3 PySem.F.slot_list_extend PySem.F.type_list_extend mt_extA mts_extA (ma_f (mo_listZip (ma_d (me_ix ix_seq s_ix (mq_r 4) (mq_d (me_int))) (ma_d (me_ix ix_seq s_ix (mq_r 5) (mq_d (me_int))) (ma_nil))) T.f_list T.f_zip) (ma_nil)))))))))) (mss_one (ms_retV 2)))
theorem sc_changes_between : FnScope ["signature", "one", "other"] ["signature", "one", "other"] (defScope (top 31)) := ⟨rfl, rfl, rfl, by decide +kernel, rfl, by decide +kernel, by decide +kernel⟩
theorem w_changes_between (T : Txt K mg) (K_check_both : Cal P w K mg base (cA K) 5 "check_both" 2 F_check_both) (K_check_tree : Cal P w K mg base (cA K) 3 "check_tree" 2 F_check_tree) (K_raw_changes : Cal P w K mg base (cA K) 1 "raw_changes" 2 F_raw_changes) {fd : FuncData} (F : FunD K "changes_between" "changes_between" (defArgs (top 31)) (defBody (top 31)) (defScope (top 31)) [] [] (ga K "changes_between") fd) : Cal P w K mg base (cA K) 6 "changes_between" 3 F_changes_between :=
  calD F T.d_changes_between sc_changes_between (fun _ _ _ _ _ _ us hl => match us, hl with | [_, _, _], _ => rfl) fun cdv A outer s H E hr => by
    have hu := hr.units
    have hu1 := Nat.lt_of_le_of_lt (Nat.add_le_add_left (by decide : 1 ≤ 64) _) hu
    have sc := sc_changes_between
    exact mss_cons (ms_expr (me_c (mc_call (K_check_both.mono (by first | decide | omega | exact Nat.le_refl _)) hr (ma_d (me_var 0) (ma_d (me_var 1) (ma_nil))) (hlen := len_d (len_d (len_nil)))))) (mss_cons (ms_expr (me_c (mc_call (K_check_tree.mono (by first | decide | omega | exact Nat.le_refl _)) hr (ma_d (me_var 0) (ma_d (me_var 2) (ma_nil))) (hlen := len_d (len_d (len_nil)))))) (mss_one (ms_ret (me_c (mc_call (K_raw_changes.mono (by first | decide | omega | exact Nat.le_refl _)) hr (ma_d (me_var 1) (ma_d (me_var 2) (ma_nil))) (hlen := len_d (len_d (len_nil))))))))
theorem sc__law_bag : FnScope ["script", "cells", "cell"] ["script"] (defScope (top 33)) := ⟨rfl, rfl, rfl, by decide +kernel, rfl, by decide +kernel, by decide +kernel⟩
theorem w__law_bag (T : Txt K mg) {fd : FuncData} (F : FunD K "_law_bag" "_law_bag" (defArgs (top 33)) (defBody (top 33)) (defScope (top 33)) [] [] (ga K "_law_bag") fd) : Cal P w K mg base (cA K) 1 "_law_bag" 1 F__law_bag :=
  calD F T.d__law_bag sc__law_bag (fun _ _ _ _ _ _ us hl => match us, hl with | [_], _ => rfl) fun cdv A outer s H E hr => by
    have hu := hr.units
    have hu1 := Nat.lt_of_le_of_lt (Nat.add_le_add_left (by decide : 1 ≤ 64) _) hu
    have sc := sc__law_bag
    exact mss_cons (ms_setLc 1 sc.nd (own := [("cell", 2)]) (mi_any (me_o (mo_slice sl_list s_slX (mq_r 0) (mpt_none) (mpt_some (me_int))))) (show BlkOk ["script", "cells", "cell"] (defScope (top 33)) _ _ from ⟨rfl, by decide +kernel, by decide +kernel, by decide +kernel, by decide +kernel⟩) (fun _ _ _ _ _ => mg_name 2 sc.nd) (fun _ _ _ _ _ => mts_nil) (fun _ _ _ _ _ => me_op op_mod s_mod (mq_d (me_bltT call_int1 b_int (ma_d (me_blt call_abs b_abs (ma_d (me_bltT call_int1 b_int (ma_r 2 (ma_nil)) T.f_int (by decide +kernel)) (ma_nil)) T.f_abs (by decide +kernel)) (ma_nil)) T.f_int (by decide +kernel))) (mq_d (me_op op_pow s_pow (mq_d (me_int)) (mq_d (me_int)))))) (mss_one (ms_retO (mo_lst (ma_d (me_var 1) (ma_d (me_int) (ma_d (me_int) (ma_d (me_op op_addD s_add (mq_d (me_int)) (mq_d (me_op op_mul s_mul (mq_d (me_int)) (mq_d (me_blt call_len b_len (ma_r 1 (ma_nil)) T.f_len (by decide +kernel)))))) (ma_d (me_int) (ma_nil)))))))))
theorem sc__law_pick : FnScope ["bag", "width", "cell", "digit", "number"] ["bag", "width"] (defScope (top 34)) := ⟨rfl, rfl, rfl, by decide +kernel, rfl, by decide +kernel, by decide +kernel⟩
theorem w__law_pick (T : Txt K mg) {fd : FuncData} (F : FunD K "_law_pick" "_law_pick" (defArgs (top 34)) (defBody (top 34)) (defScope (top 34)) [] [] (ga K "_law_pick") fd) : Cal P w K mg base (cA K) 1 "_law_pick" 2 F__law_pick :=
  calD F T.d__law_pick sc__law_pick (fun _ _ _ _ _ _ us hl => match us, hl with | [_, _], _ => rfl) fun cdv A outer s H E hr => by
    have hu := hr.units
    have hu1 := Nat.lt_of_le_of_lt (Nat.add_le_add_left (by decide : 1 ≤ 64) _) hu
    have sc := sc__law_pick
    exact mss_cons (ms_if (mw_mt (mw_and (mt_cmp (op_eqD hu) s_eq (mq_d (me_ix ix_seq s_ix (mq_r 0) (mq_d (me_int)))) (mq_d (me_int))) (mw_and1 (mt_cmp op_lt s_lt (mq_d (me_ix ix_seq s_ix (mq_r 0) (mq_d (me_int)))) (mq_d (me_blt call_len b_len (ma_d (me_ix ix_seq s_ix (mq_r 0) (mq_d (me_int))) (ma_nil)) T.f_len (by decide +kernel))))))) (mss_cons (ms_set 2 (me_ix ix_seq s_ix (mq_d (me_ix ix_seq s_ix (mq_r 0) (mq_d (me_int)))) (mq_d (me_ix ix_seq s_ix (mq_r 0) (mq_d (me_int))))) sc.nd) (mss_cons (ms_setIx 0 (me_op op_addD s_add (mq_d (me_ix ix_seq s_ix (mq_r 0) (mq_d (me_int)))) (mq_d (me_int))) (me_int)) (mss_cons (ms_setIx 0 (me_op op_mod s_mod (mq_d (me_bltT call_int1 b_int (ma_d (me_op op_addD s_add (mq_d (me_op op_addD s_add (mq_d (me_op op_mul s_mul (mq_d (me_ix ix_seq s_ix (mq_r 0) (mq_d (me_int)))) (mq_d (me_int)))) (mq_d (me_op op_mul s_mul (mq_r 2) (mq_d (me_int)))))) (mq_d (me_int))) (ma_nil)) T.f_int (by decide +kernel))) (mq_d (me_int))) (me_int)) (mss_one (ms_if (mt_cmp op_ge s_ge (mq_r 2) (mq_d (me_op op_pow s_pow (mq_d (me_int)) (mq_d (me_int))))) (mss_one (ms_setIx 0 (me_var 2) (me_int))) (mss_nil)))))) (mss_nil)) (mss_cons (ms_if (mt_cmp op_gt s_gt (mq_d (me_ix ix_seq s_ix (mq_r 0) (mq_d (me_int)))) (mq_d (me_int))) (mss_cons (ms_set 3 (me_op op_mod s_mod (mq_d (me_bltT call_int1 b_int (ma_d (me_ix ix_seq s_ix (mq_r 0) (mq_d (me_int))) (ma_nil)) T.f_int (by decide +kernel))) (mq_r 1)) sc.nd) (mss_cons (ms_setIx 0 (me_op op_fdiv s_div (mq_d (me_ix ix_seq s_ix (mq_r 0) (mq_d (me_int)))) (mq_r 1)) (me_int)) (mss_one (ms_retV 3)))) (mss_nil)) (mss_cons (ms_setIx 0 (me_op op_addD s_add (mq_d (me_ix ix_seq s_ix (mq_r 0) (mq_d (me_int)))) (mq_d (me_int))) (me_int)) (mss_cons (ms_set 4 (me_op op_mod s_mod (mq_d (me_bltT call_int1 b_int (ma_d (me_op op_mul s_mul (mq_d (me_bltT call_int1 b_int (ma_d (me_op op_addD s_add (mq_d (me_ix ix_seq s_ix (mq_r 0) (mq_d (me_int)))) (mq_d (me_op op_mul s_mul (mq_d (me_int)) (mq_d (me_ix ix_seq s_ix (mq_r 0) (mq_d (me_int))))))) (ma_nil)) T.f_int (by decide +kernel))) (mq_d (me_int))) (ma_nil)) T.f_int (by decide +kernel))) (mq_d (me_int))) sc.nd) (mss_cons (ms_set 4 (me_op op_mod s_mod (mq_d (me_bltT call_int1 b_int (ma_d (me_op op_mul s_mul (mq_r 4) (mq_d (me_op op_addD s_add (mq_d (me_op op_fdiv s_div (mq_r 4) (mq_d (me_int)))) (mq_d (me_int))))) (ma_nil)) T.f_int (by decide +kernel))) (mq_d (me_int))) sc.nd) (mss_cons (ms_set 4 (me_op op_mod s_mod (mq_d (me_bltT call_int1 b_int (ma_d (me_op op_mul s_mul (mq_r 4) (mq_d (me_op op_addD s_add (mq_d (me_op op_fdiv s_div (mq_r 4) (mq_d (me_int)))) (mq_d (me_int))))) (ma_nil)) T.f_int (by decide +kernel))) (mq_d (me_int))) sc.nd) (mss_one (ms_ret (me_op op_mod s_mod (mq_d (me_bltT call_int1 b_int (ma_d (me_op op_fdiv s_div (mq_r 4) (mq_d (me_int))) (ma_nil)) T.f_int (by decide +kernel))) (mq_r 1)))))))))
theorem sc__law_some : FnScope ["bag", "things"] ["bag", "things"] (defScope (top 35)) := ⟨rfl, rfl, rfl, by decide +kernel, rfl, by decide +kernel, by decide +kernel⟩
theorem w__law_some (T : Txt K mg) (K__law_pick : Cal P w K mg base (cA K) 1 "_law_pick" 2 F__law_pick) {fd : FuncData} (F : FunD K "_law_some" "_law_some" (defArgs (top 35)) (defBody (top 35)) (defScope (top 35)) [] [] (ga K "_law_some") fd) : Cal P w K mg base (cA K) 2 "_law_some" 2 F__law_some :=
  calD F T.d__law_some sc__law_some (fun _ _ _ _ _ _ us hl => match us, hl with | [_, _], _ => rfl) fun cdv A outer s H E hr => by
    have hu := hr.units
    have hu1 := Nat.lt_of_le_of_lt (Nat.add_le_add_left (by decide : 1 ≤ 64) _) hu
    have sc := sc__law_some
    exact mss_one (ms_ret (me_ix ix_seq s_ix (mq_r 1) (mq_d (me_c (mc_call (K__law_pick.mono (by first | decide | omega | exact Nat.le_refl _)) hr (ma_r 0 (ma_d (me_blt call_len b_len (ma_r 1 (ma_nil)) T.f_len (by decide +kernel)) (ma_nil))) (hlen := len_r (len_d (len_nil))))))))
theorem sc__law_signature : FnScope ["bag"] ["bag"] (defScope (top 36)) := ⟨rfl, rfl, rfl, by decide +kernel, rfl, by decide +kernel, by decide +kernel⟩
theorem w__law_signature (T : Txt K mg) (K__law_some : Cal P w K mg base (cA K) 2 "_law_some" 2 F__law_some) {fd : FuncData} (F : FunD K "_law_signature" "_law_signature" (defArgs (top 36)) (defBody (top 36)) (defScope (top 36)) [] [] (ga K "_law_signature") fd) : Cal P w K mg base (cA K) 3 "_law_signature" 1 F__law_signature :=
  calD F T.d__law_signature sc__law_signature (fun _ _ _ _ _ _ us hl => match us, hl with | [_], _ => rfl) fun cdv A outer s H E hr => by
    have hu := hr.units
    have hu1 := Nat.lt_of_le_of_lt (Nat.add_le_add_left (by decide : 1 ≤ 64) _) hu
    have sc := sc__law_signature
    exact mss_one (ms_ret (me_c (mc_call (K__law_some.mono (by first | decide | omega | exact Nat.le_refl _)) hr (ma_r 0 (ma_d (me_o (mo_lst (ma_d (me_tup (ma_d (me_tup (ma_d (me_str) (ma_d (me_int) (ma_nil)))) (ma_d (me_tup (ma_d (me_str) (ma_d (me_int) (ma_nil)))) (ma_d (me_tup (ma_d (me_str) (ma_d (me_int) (ma_nil)))) (ma_d (me_tup (ma_d (me_str) (ma_d (me_int) (ma_nil)))) (ma_d (me_tup (ma_d (me_str) (ma_d (me_int) (ma_nil)))) (ma_d (me_tup (ma_d (me_str) (ma_d (me_int) (ma_nil)))) (ma_nil)))))))) (ma_d (me_tup (ma_d (me_tup (ma_d (me_str) (ma_d (me_int) (ma_nil)))) (ma_d (me_tup (ma_d (me_str) (ma_d (me_int) (ma_nil)))) (ma_d (me_tup (ma_d (me_str) (ma_d (me_int) (ma_nil)))) (ma_nil))))) (ma_d (me_tup (ma_d (me_tup (ma_d (me_str) (ma_d (me_int) (ma_nil)))) (ma_d (me_tup (ma_d (me_str) (ma_d (me_int) (ma_nil)))) (ma_d (me_tup (ma_d (me_str) (ma_d (me_int) (ma_nil)))) (ma_nil))))) (ma_d (me_tup (ma_d (me_tup (ma_d (me_str) (ma_d (me_int) (ma_nil)))) (ma_d (me_tup (ma_d (me_str) (ma_d (me_int) (ma_nil)))) (ma_d (me_tup (ma_d (me_str) (ma_d (me_int) (ma_nil)))) (ma_d (me_tup (ma_d (me_str) (ma_d (me_int) (ma_nil)))) (ma_nil)))))) (ma_d (me_tup (ma_d (me_tup (ma_d (me_str) (ma_d (me_int) (ma_nil)))) (ma_d (me_tup (ma_d (me_str) (ma_d (me_int) (ma_nil)))) (ma_d (me_tup (ma_d (me_str) (ma_d (me_int) (ma_nil)))) (ma_nil))))) (ma_d (me_tup (ma_d (me_tup (ma_d (me_str) (ma_d (me_int) (ma_nil)))) (ma_d (me_tup (ma_d (me_str) (ma_d (me_int) (ma_nil)))) (ma_d (me_tup (ma_d (me_str) (ma_d (me_int) (ma_nil)))) (ma_d (me_tup (ma_d (me_str) (ma_d (me_int) (ma_nil)))) (ma_nil)))))) (ma_nil))))))))) (ma_nil))) (hlen := len_r (len_d (len_nil))))))
theorem sc__law_nodes : FnScope ["tree", "found", "waiting", "here"] ["tree"] (defScope (top 37)) := ⟨rfl, rfl, rfl, by decide +kernel, rfl, by decide +kernel, by decide +kernel⟩
theorem w__law_nodes (T : Txt K mg) {fd : FuncData} (F : FunD K "_law_nodes" "_law_nodes" (defArgs (top 37)) (defBody (top 37)) (defScope (top 37)) [] [] (ga K "_law_nodes") fd) : Cal P w K mg base (cA K) 1 "_law_nodes" 1 F__law_nodes :=
  calD F T.d__law_nodes sc__law_nodes (fun _ _ _ _ _ _ us hl => match us, hl with | [_], _ => rfl) fun cdv A outer s H E hr => by
    have hu := hr.units
    have hu1 := Nat.lt_of_le_of_lt (Nat.add_le_add_left (by decide : 1 ≤ 64) _) hu
    have sc := sc__law_nodes
    exact mss_cons (ms_par 1 2 (ma_d (me_int) (ma_f (mo_lst (ma_d (me_var 0) (ma_nil))) (ma_nil))) sc.nd) (mss_cons (ms_while 20000 (mt_cmp op_gt s_gt (mq_d (me_blt call_len b_len (ma_r 2 (ma_nil)) T.f_len (by decide +kernel))) (mq_d (me_int))) (mss_fg [3] (mss_cons (ms_set 3 (me_mt0 2 PySem.F.slot_list_pop PySem.F.type_list_pop mt_pop mts_pop) sc.nd) (mss_cons (ms_set 1 (me_op op_addD s_add (mq_r 1) (mq_d (me_int))) sc.nd) (mss_one (ms_expr (me_mt 2 PySem.F.slot_list_extend PySem.F.type_list_extend mt_extA mts_extA (ma_f (mo_bltT (cr_listA rfl) b_listA (ma_d (me_ix ix_seq s_ix (mq_r 3) (mq_d (me_int))) (ma_nil)) T.f_list (by decide +kernel)) (ma_nil))))))))) (mss_one (ms_retV 1)))
theorem sc__law_tree : FnScope ["bag", "signature", "most", "pool", "turn", "label", "rank", "tree", "one", "place"] ["bag", "signature", "most"] (defScope (top 38)) := ⟨rfl, rfl, rfl, by decide +kernel, rfl, by decide +kernel, by decide +kernel⟩
theorem w__law_tree (T : Txt K mg) (K__law_some : Cal P w K mg base (cA K) 2 "_law_some" 2 F__law_some) (K__law_pick : Cal P w K mg base (cA K) 1 "_law_pick" 2 F__law_pick) (K__law_nodes : Cal P w K mg base (cA K) 1 "_law_nodes" 1 F__law_nodes) {fd : FuncData} (F : FunD K "_law_tree" "_law_tree" (defArgs (top 38)) (defBody (top 38)) (defScope (top 38)) [] [] (ga K "_law_tree") fd) : Cal P w K mg base (cA K) 3 "_law_tree" 3 F__law_tree :=
  calD F T.d__law_tree sc__law_tree (fun _ _ _ _ _ _ us hl => match us, hl with | [_, _, _], _ => rfl) fun cdv A outer s H E hr => by
    have hu := hr.units
    have hu1 := Nat.lt_of_le_of_lt (Nat.add_le_add_left (by decide : 1 ≤ 64) _) hu
    have sc := sc__law_tree
    exact mss_cons (ms_setO 3 (mo_lc sc.nd (own := [("label", 5), ("rank", 6)]) (mi_any (me_var 1)) (show BlkOk ["bag", "signature", "most", "pool", "turn", "label", "rank", "tree", "one", "place"] (defScope (top 38)) _ _ from ⟨rfl, by decide +kernel, by decide +kernel, by decide +kernel, by decide +kernel⟩) (fun _ _ _ _ _ => mg_tup (mgs_cons (mg_name 5 sc.nd) (mgs_cons (mg_name 6 sc.nd) (mgs_nil))) (gCons_len (gCons_len (gNil_len)))) (fun _ _ _ _ _ => mts_one (mt_cmp (op_eqD hu) s_eq (mq_r 6) (mq_d (me_int)))) (fun _ _ _ _ _ => me_tup (ma_d (me_var 5) (ma_d (me_tup (ma_nil)) (ma_nil))))) sc.nd) (mss_cons (ms_for (mi_range1 (ma_d (me_c (mc_call (K__law_pick.mono (by first | decide | omega | exact Nat.le_refl _)) hr (ma_r 0 (ma_d (me_var 2) (ma_nil))) (hlen := len_r (len_d (len_nil))))) (ma_nil)) T.f_range) (mg_name 4 sc.nd) (mss_fg [4, 5, 6, 7, 8, 9] (mss_cons (ms_asg (me_c (mc_call (K__law_some.mono (by first | decide | omega | exact Nat.le_refl _)) hr (ma_r 0 (ma_d (me_o (mo_lc sc.nd (own := [("one", 8)]) (mi_any (me_var 1)) (show BlkOk ["bag", "signature", "most", "pool", "turn", "label", "rank", "tree", "one", "place"] (defScope (top 38)) _ _ from ⟨rfl, by decide +kernel, by decide +kernel, by decide +kernel, by decide +kernel⟩) (fun _ _ _ _ _ => mg_name 8 sc.nd) (fun _ _ _ _ _ => mts_one (mt_cmp op_gt s_gt (mq_d (me_ix ix_seq s_ix (mq_r 8) (mq_d (me_int)))) (mq_d (me_int)))) (fun _ _ _ _ _ => me_var 8))) (ma_nil))) (hlen := len_r (len_d (len_nil))))) (mg_tup (mgs_cons (mg_name 5 sc.nd) (mgs_cons (mg_name 6 sc.nd) (mgs_nil))) (gCons_len (gCons_len (gNil_len))))) (mss_cons (ms_set 7 (me_tup (ma_d (me_var 5) (ma_d (me_bltT MK.cr_tupOfZ b_tup (ma_f (mo_lc sc.nd (own := [("place", 9)]) (mi_range1 (ma_d (me_var 6) (ma_nil)) T.f_range) (show BlkOk ["bag", "signature", "most", "pool", "turn", "label", "rank", "tree", "one", "place"] (defScope (top 38)) _ _ from ⟨rfl, by decide +kernel, by decide +kernel, by decide +kernel, by decide +kernel⟩) (fun _ _ _ _ _ => mg_name 9 sc.nd) (fun _ _ _ _ _ => mts_nil) (fun _ _ _ _ _ => me_c (mc_call (K__law_some.mono (by first | decide | omega | exact Nat.le_refl _)) hr (ma_r 0 (ma_d (me_o (mo_slice sl_list s_slX (mq_r 3) (mpt_some (me_neg (me_int))) (mpt_none))) (ma_nil))) (hlen := len_r (len_d (len_nil)))))) (ma_nil)) T.f_tuple (by decide +kernel)) (ma_nil)))) sc.nd) (mss_one (ms_expr (me_mt 3 PySem.F.slot_list_extend PySem.F.type_list_extend mt_extA mts_extA (ma_f (mo_if (mt_cmp op_le s_le (mq_d (me_c (mc_call (K__law_nodes.mono (by first | decide | omega | exact Nat.le_refl _)) hr (ma_d (me_var 7) (ma_nil)) (hlen := len_d (len_nil))))) (mq_r 2)) (mo_lst (ma_d (me_var 7) (ma_nil))) (mo_lst (ma_nil))) (ma_nil))))))))) (mss_one (ms_ret (me_c (mc_call (K__law_some.mono (by first | decide | omega | exact Nat.le_refl _)) hr (ma_r 0 (ma_d (me_o (mo_slice sl_list s_slX (mq_r 3) (mpt_some (me_neg (me_int))) (mpt_none))) (ma_nil))) (hlen := len_r (len_d (len_nil))))))))
theorem sc__law_changes : FnScope ["one", "other", "found", "waiting", "first", "last"] ["one", "other"] (defScope (top 39)) := ⟨rfl, rfl, rfl, by decide +kernel, rfl, by decide +kernel, by decide +kernel⟩
theorem w__law_changes (T : Txt K mg) {fd : FuncData} (F : FunD K "_law_changes" "_law_changes" (defArgs (top 39)) (defBody (top 39)) (defScope (top 39)) [] [] (ga K "_law_changes") fd) : Cal P w K mg base (cA K) 1 "_law_changes" 2 F__law_changes :=
  calD F T.d__law_changes sc__law_changes (fun _ _ _ _ _ _ us hl => match us, hl with | [_, _], _ => rfl) fun cdv A outer s H E hr => by
    have hu := hr.units
    have hu1 := Nat.lt_of_le_of_lt (Nat.add_le_add_left (by decide : 1 ≤ 64) _) hu
    have sc := sc__law_changes
    exact mss_cons (ms_par 2 3 (ma_d (me_int) (ma_f (mo_lst (ma_d (me_tup (ma_d (me_var 0) (ma_d (me_var 1) (ma_nil)))) (ma_nil))) (ma_nil))) sc.nd) (mss_cons (ms_while 20000 (mt_cmp op_gt s_gt (mq_d (me_blt call_len b_len (ma_r 3 (ma_nil)) T.f_len (by decide +kernel))) (mq_d (me_int))) (mss_fg [4, 5] (mss_cons (ms_asg (me_mt0 3 PySem.F.slot_list_pop PySem.F.type_list_pop mt_pop mts_pop) (mg_tup (mgs_cons (mg_name 4 sc.nd) (mgs_cons (mg_name 5 sc.nd) (mgs_nil))) (gCons_len (gCons_len (gNil_len))))) (mss_cons (ms_if (mt_cmp (op_neD hu) s_ne (mq_d (me_blt call_len b_len (ma_d (me_ix ix_seq s_ix (mq_r 4) (mq_d (me_int))) (ma_nil)) T.f_len (by decide +kernel))) (mq_d (me_blt call_len b_len (ma_d (me_ix ix_seq s_ix (mq_r 5) (mq_d (me_int))) (ma_nil)) T.f_len (by decide +kernel)))) (mss_one (ms_ret (me_non))) (mss_nil)) (mss_cons (ms_set 2 (me_op op_addD s_add (mq_r 2) (mq_d (me_bltT call_int1 b_int (ma_d (me_cmp (op_neD hu) s_ne (mq_d (me_ix ix_seq s_ix (mq_r 4) (mq_d (me_int)))) (mq_d (me_ix ix_seq s_ix (mq_r 5) (mq_d (me_int))))) (ma_nil)) T.f_int (by decide +kernel)))) sc.nd) (mss_one (ms_expr (me_mt 3 PySem.F.slot_list_extend PySem.F.type_list_extend mt_extA mts_extA (ma_f (mo_listZip (ma_d (me_ix ix_seq s_ix (mq_r 4) (mq_d (me_int))) (ma_d (me_ix ix_seq s_ix (mq_r 5) (mq_d (me_int))) (ma_nil))) T.f_list T.f_zip) (ma_nil)))))))))) (mss_one (ms_retV 2)))
theorem sc__law_said : FnScope ["call", "found"] ["call"] (defScope (top 40)) := ⟨rfl, rfl, rfl, by decide +kernel, rfl, by decide +kernel, by decide +kernel⟩
theorem sc__law_no_tree : FnScope ["bag", "signature", "label", "rank", "full", "odd"] ["bag", "signature"] (defScope (top 41)) := ⟨rfl, rfl, rfl, by decide +kernel, rfl, by decide +kernel, by decide +kernel⟩
theorem w__law_no_tree (T : Txt K mg) (K__law_some : Cal P w K mg base (cA K) 2 "_law_some" 2 F__law_some) {fd : FuncData} (F : FunD K "_law_no_tree" "_law_no_tree" (defArgs (top 41)) (defBody (top 41)) (defScope (top 41)) [] [] (ga K "_law_no_tree") fd) : Cal P w K mg base (cA K) 3 "_law_no_tree" 2 F__law_no_tree :=
  calD F T.d__law_no_tree sc__law_no_tree (fun _ _ _ _ _ _ us hl => match us, hl with | [_, _], _ => rfl) fun cdv A outer s H E hr => by
    have hu := hr.units
    have hu1 := Nat.lt_of_le_of_lt (Nat.add_le_add_left (by decide : 1 ≤ 64) _) hu
    have sc := sc__law_no_tree
    exact mss_cons (ms_asg (me_ix ix_seq s_ix (mq_r 1) (mq_d (me_int))) (mg_tup (mgs_cons (mg_name 2 sc.nd) (mgs_cons (mg_name 3 sc.nd) (mgs_nil))) (gCons_len (gCons_len (gNil_len))))) (mss_cons (ms_set 4 (me_tup (ma_d (me_var 2) (ma_d (me_op MK.op_repZ s_rep (mq_d (me_tup (ma_d (me_tup (ma_d (me_var 2) (ma_d (me_tup (ma_nil)) (ma_nil)))) (ma_nil)))) (mq_r 3)) (ma_nil)))) sc.nd) (mss_cons (ms_set 5 (me_o (mo_lst (ma_d (me_non) (ma_d (me_tup (ma_nil)) (ma_d (me_str) (ma_d (me_var 2) (ma_d (me_tup (ma_d (me_var 2) (ma_nil))) (ma_d (me_o (mo_lst (ma_d (me_var 2) (ma_d (me_tup (ma_nil)) (ma_nil))))) (ma_d (me_tup (ma_d (me_str) (ma_d (me_tup (ma_nil)) (ma_nil)))) (ma_d (me_tup (ma_d (me_var 2) (ma_d (me_o (mo_lst (ma_nil))) (ma_nil)))) (ma_d (me_tup (ma_d (me_var 2) (ma_d (me_op MK.op_repZ s_rep (mq_d (me_tup (ma_d (me_var 4) (ma_nil)))) (mq_d (me_op op_addD s_add (mq_r 3) (mq_d (me_int))))) (ma_nil)))) (ma_d (me_int) (ma_d (me_o (mo_dict0)) (ma_nil)))))))))))))) sc.nd) (mss_one (ms_ret (me_c (mc_call (K__law_some.mono (by first | decide | omega | exact Nat.le_refl _)) hr (ma_r 0 (ma_d (me_o (mo_op op_cat s_cat (mq_r 5) (mq_f (mo_lst (ma_d (me_tup (ma_d (me_var 2) (ma_d (me_op MK.op_repZ s_rep (mq_d (me_tup (ma_d (me_tup (ma_d (me_var 2) (ma_d (me_tup (ma_nil)) (ma_nil)))) (ma_nil)))) (mq_d (me_op op_addD s_add (mq_r 3) (mq_d (me_int))))) (ma_nil)))) (ma_d (me_tup (ma_d (me_non) (ma_d (me_tup (ma_nil)) (ma_nil)))) (ma_d (me_tup (ma_d (me_var 2) (ma_d (me_op MK.op_repZ s_rep (mq_d (me_tup (ma_d (me_non) (ma_nil)))) (mq_d (me_op op_addD s_add (mq_r 3) (mq_d (me_int))))) (ma_nil)))) (ma_nil)))))))) (ma_nil))) (hlen := len_r (len_d (len_nil)))))))))
theorem sc__law_no_signature : FnScope ["bag", "odd"] ["bag"] (defScope (top 42)) := ⟨rfl, rfl, rfl, by decide +kernel, rfl, by decide +kernel, by decide +kernel⟩
theorem w__law_no_signature (T : Txt K mg) (K__law_some : Cal P w K mg base (cA K) 2 "_law_some" 2 F__law_some) {fd : FuncData} (F : FunD K "_law_no_signature" "_law_no_signature" (defArgs (top 42)) (defBody (top 42)) (defScope (top 42)) [] [] (ga K "_law_no_signature") fd) : Cal P w K mg base (cA K) 3 "_law_no_signature" 1 F__law_no_signature :=
  calD F T.d__law_no_signature sc__law_no_signature (fun _ _ _ _ _ _ us hl => match us, hl with | [_], _ => rfl) fun cdv A outer s H E hr => by
    have hu := hr.units
    have hu1 := Nat.lt_of_le_of_lt (Nat.add_le_add_left (by decide : 1 ≤ 64) _) hu
    have sc := sc__law_no_signature
    exact mss_cons (ms_set 1 (me_o (mo_lst (ma_d (me_non) (ma_d (me_tup (ma_nil)) (ma_d (me_str) (ma_d (me_o (mo_lst (ma_d (me_tup (ma_d (me_str) (ma_d (me_int) (ma_nil)))) (ma_nil)))) (ma_d (me_tup (ma_d (me_tup (ma_d (me_str) (ma_d (me_int) (ma_nil)))) (ma_nil))) (ma_d (me_tup (ma_d (me_tup (ma_d (me_str) (ma_d (me_int) (ma_nil)))) (ma_d (me_tup (ma_d (me_str) (ma_d (me_int) (ma_nil)))) (ma_nil)))) (ma_d (me_tup (ma_d (me_tup (ma_d (me_str) (ma_d (me_int) (ma_nil)))) (ma_d (me_tup (ma_d (me_str) (ma_d (me_int) (ma_nil)))) (ma_nil)))) (ma_d (me_tup (ma_d (me_tup (ma_d (me_str) (ma_d (me_int) (ma_nil)))) (ma_nil))) (ma_d (me_tup (ma_d (me_tup (ma_d (me_str) (ma_nil))) (ma_nil))) (ma_nil)))))))))))) sc.nd) (mss_one (ms_ret (me_c (mc_call (K__law_some.mono (by first | decide | omega | exact Nat.le_refl _)) hr (ma_r 0 (ma_d (me_o (mo_op op_cat s_cat (mq_r 1) (mq_f (mo_lst (ma_d (me_tup (ma_d (me_tup (ma_d (me_str) (ma_d (me_bl) (ma_nil)))) (ma_nil))) (ma_d (me_tup (ma_d (me_o (mo_lst (ma_d (me_str) (ma_d (me_int) (ma_nil))))) (ma_nil))) (ma_d (me_tup (ma_d (me_tup (ma_d (me_str) (ma_d (me_neg (me_int)) (ma_nil)))) (ma_nil))) (ma_d (me_tup (ma_d (me_tup (ma_d (me_str) (ma_d (me_int) (ma_nil)))) (ma_nil))) (ma_d (me_tup (ma_d (me_tup (ma_d (me_str) (ma_d (me_int) (ma_nil)))) (ma_nil))) (ma_nil)))))))))) (ma_nil))) (hlen := len_r (len_d (len_nil)))))))
theorem sc__law_relabelled : FnScope ["bag", "signature", "tree", "most", "paths", "many", "turn", "path", "label", "parts", "some", "its", "rank"] ["bag", "signature", "tree", "most"] (defScope (top 43)) := ⟨rfl, rfl, rfl, by decide +kernel, rfl, by decide +kernel, by decide +kernel⟩
theorem w__law_relabelled (T : Txt K mg) (K__law_pick : Cal P w K mg base (cA K) 1 "_law_pick" 2 F__law_pick) (K_paths_of : Cal P w K mg base (cA K) 6 "paths_of" 2 F_paths_of) (K__law_some : Cal P w K mg base (cA K) 2 "_law_some" 2 F__law_some) (K_part_at : Cal P w K mg base (cA K) 6 "part_at" 3 F_part_at) (K_with_part : Cal P w K mg base (cA K) 6 "with_part" 4 F_with_part) {fd : FuncData} (F : FunD K "_law_relabelled" "_law_relabelled" (defArgs (top 43)) (defBody (top 43)) (defScope (top 43)) [] [] (ga K "_law_relabelled") fd) : Cal P w K mg base (cA K) 7 "_law_relabelled" 4 F__law_relabelled :=
  calD F T.d__law_relabelled sc__law_relabelled (fun _ _ _ _ _ _ us hl => match us, hl with | [_, _, _, _], _ => rfl) fun cdv A outer s H E hr => by
    have hu := hr.units
    have hu1 := Nat.lt_of_le_of_lt (Nat.add_le_add_left (by decide : 1 ≤ 64) _) hu
    have sc := sc__law_relabelled
    exact mss_cons (ms_par 4 5 (ma_f (mo_bltT (cr_listA rfl) b_listA (ma_d (me_c (mc_call (K_paths_of.mono (by first | decide | omega | exact Nat.le_refl _)) hr (ma_d (me_var 1) (ma_d (me_var 2) (ma_nil))) (hlen := len_d (len_d (len_nil))))) (ma_nil)) T.f_list (by decide +kernel)) (ma_d (me_int) (ma_nil))) sc.nd) (mss_cons (ms_for (mi_range1 (ma_d (me_c (mc_call (K__law_pick.mono (by first | decide | omega | exact Nat.le_refl _)) hr (ma_r 0 (ma_d (me_op op_addD s_add (mq_r 3) (mq_d (me_int))) (ma_nil))) (hlen := len_r (len_d (len_nil))))) (ma_nil)) T.f_range) (mg_name 6 sc.nd) (mss_fg [6, 7, 8, 9, 10, 11, 12] (mss_one (ms_if (mt_cmp op_gt s_gt (mq_d (me_blt call_len b_len (ma_r 4 (ma_nil)) T.f_len (by decide +kernel))) (mq_d (me_int))) (mss_cons (ms_set 7 (me_c (mc_call (K__law_some.mono (by first | decide | omega | exact Nat.le_refl _)) hr (ma_r 0 (ma_r 4 (ma_nil))) (hlen := len_r (len_r (len_nil))))) sc.nd) (mss_cons (ms_expr (me_mt 4 PySem.F.slot_list_remove PySem.F.type_list_remove (MK.mt_remD hu) mts_rem (ma_r 7 (ma_nil)))) (mss_cons (ms_asg (me_c (mc_call (K_part_at.mono (by first | decide | omega | exact Nat.le_refl _)) hr (ma_d (me_var 1) (ma_d (me_var 2) (ma_d (me_var 7) (ma_nil)))) (hlen := len_d (len_d (len_d (len_nil)))))) (mg_tup (mgs_cons (mg_name 8 sc.nd) (mgs_cons (mg_name 9 sc.nd) (mgs_nil))) (gCons_len (gCons_len (gNil_len))))) (mss_cons (ms_setLc 10 sc.nd (own := [("its", 11), ("rank", 12)]) (mi_any (me_var 1)) (show BlkOk ["bag", "signature", "tree", "most", "paths", "many", "turn", "path", "label", "parts", "some", "its", "rank"] (defScope (top 43)) _ _ from ⟨rfl, by decide +kernel, by decide +kernel, by decide +kernel, by decide +kernel⟩) (fun _ _ _ _ _ => mg_tup (mgs_cons (mg_name 11 sc.nd) (mgs_cons (mg_name 12 sc.nd) (mgs_nil))) (gCons_len (gCons_len (gNil_len)))) (fun _ _ _ _ _ => mts_one (mw_mt (mw_and (mt_cmp (op_eqD hu) s_eq (mq_r 12) (mq_d (me_blt call_len b_len (ma_r 9 (ma_nil)) T.f_len (by decide +kernel)))) (mw_and1 (mt_cmp (op_neD hu) s_ne (mq_r 11) (mq_r 8)))))) (fun _ _ _ _ _ => me_var 11)) (mss_one (ms_if (mt_cmp op_gt s_gt (mq_d (me_blt call_len b_len (ma_r 10 (ma_nil)) T.f_len (by decide +kernel))) (mq_d (me_int))) (mss_one (ms_par 2 5 (ma_d (me_c (mc_call (K_with_part.mono (by first | decide | omega | exact Nat.le_refl _)) hr (ma_d (me_var 1) (ma_d (me_var 2) (ma_d (me_var 7) (ma_d (me_tup (ma_d (me_c (mc_call (K__law_some.mono (by first | decide | omega | exact Nat.le_refl _)) hr (ma_r 0 (ma_d (me_var 10) (ma_nil))) (hlen := len_r (len_d (len_nil))))) (ma_d (me_var 9) (ma_nil)))) (ma_nil))))) (hlen := len_d (len_d (len_d (len_d (len_nil))))))) (ma_d (me_op op_addD s_add (mq_r 5) (mq_d (me_int))) (ma_nil))) sc.nd)) (mss_nil))))))) (mss_nil))))) (mss_one (ms_ret (me_tup (ma_d (me_var 2) (ma_d (me_var 5) (ma_nil)))))))
theorem sc__law_are_two_right : FnScope ["signature", "one", "other", "due", "unlike", "path"] ["signature", "one", "other"] (defScope (top 44)) := ⟨rfl, rfl, rfl, by decide +kernel, rfl, by decide +kernel, by decide +kernel⟩
theorem w__law_are_two_right (T : Txt K mg) (K__law_changes : Cal P w K mg base (cA K) 1 "_law_changes" 2 F__law_changes) (K_paths_of : Cal P w K mg base (cA K) 6 "paths_of" 2 F_paths_of) (K_changes_between : Cal P w K mg base (cA K) 6 "changes_between" 3 F_changes_between) (K_nodes_many : Cal P w K mg base (cA K) 6 "nodes_many" 2 F_nodes_many) (K_deep_of : Cal P w K mg base (cA K) 6 "deep_of" 2 F_deep_of) (K_part_at : Cal P w K mg base (cA K) 6 "part_at" 3 F_part_at) {fd : FuncData} (F : FunD K "_law_are_two_right" "_law_are_two_right" (defArgs (top 44)) (defBody (top 44)) (defScope (top 44)) [] [] (ga K "_law_are_two_right") fd) : Cal P w K mg base (cA K) 7 "_law_are_two_right" 3 F__law_are_two_right :=
  calD F T.d__law_are_two_right sc__law_are_two_right (fun _ _ _ _ _ _ us hl => match us, hl with | [_, _, _], _ => rfl) fun cdv A outer s H E hr => by
    have hu := hr.units
    have hu1 := Nat.lt_of_le_of_lt (Nat.add_le_add_left (by decide : 1 ≤ 64) _) hu
    have sc := sc__law_are_two_right
    exact mss_cons (ms_set 3 (me_c (mc_call (K__law_changes.mono (by first | decide | omega | exact Nat.le_refl _)) hr (ma_d (me_var 1) (ma_d (me_var 2) (ma_nil))) (hlen := len_d (len_d (len_nil))))) sc.nd) (mss_cons (ms_if (mt_cmp (op_neD hu) s_ne (mq_d (me_blt cr_repr b_repr (ma_d (me_c (mc_call (K_changes_between.mono (by first | decide | omega | exact Nat.le_refl _)) hr (ma_d (me_var 0) (ma_d (me_var 1) (ma_d (me_var 2) (ma_nil)))) (hlen := len_d (len_d (len_d (len_nil)))))) (ma_nil)) T.f_repr (by decide +kernel))) (mq_d (me_blt cr_repr b_repr (ma_r 3 (ma_nil)) T.f_repr (by decide +kernel)))) (mss_one (ms_ret (me_bl))) (mss_nil)) (mss_cons (ms_if (mw_mt (mw_or (mt_cmp (op_neD hu) s_ne (mq_d (me_blt cr_repr b_repr (ma_d (me_c (mc_call (K_changes_between.mono (by first | decide | omega | exact Nat.le_refl _)) hr (ma_d (me_var 0) (ma_d (me_var 2) (ma_d (me_var 1) (ma_nil)))) (hlen := len_d (len_d (len_d (len_nil)))))) (ma_nil)) T.f_repr (by decide +kernel))) (mq_d (me_blt cr_repr b_repr (ma_r 3 (ma_nil)) T.f_repr (by decide +kernel)))) (mw_or1 (mt_cmp (op_neD hu) s_ne (mq_d (me_blt cr_repr b_repr (ma_d (me_c (mc_call (K_changes_between.mono (by first | decide | omega | exact Nat.le_refl _)) hr (ma_d (me_var 0) (ma_d (me_var 1) (ma_d (me_var 1) (ma_nil)))) (hlen := len_d (len_d (len_d (len_nil)))))) (ma_nil)) T.f_repr (by decide +kernel))) (mq_d (me_str)))))) (mss_one (ms_ret (me_bl))) (mss_nil)) (mss_cons (ms_if (mt_cmp op_isN s_isN (mq_r 3) (mq_d (me_non))) (mss_one (ms_ret (me_cmp (op_neD hu) s_ne (mq_r 1) (mq_r 2)))) (mss_nil)) (mss_cons (ms_if (mw_mt (mw_or (mt_cmp (op_neD hu) s_ne (mq_d (me_c (mc_call (K_nodes_many.mono (by first | decide | omega | exact Nat.le_refl _)) hr (ma_d (me_var 0) (ma_d (me_var 1) (ma_nil))) (hlen := len_d (len_d (len_nil)))))) (mq_d (me_c (mc_call (K_nodes_many.mono (by first | decide | omega | exact Nat.le_refl _)) hr (ma_d (me_var 0) (ma_d (me_var 2) (ma_nil))) (hlen := len_d (len_d (len_nil))))))) (mw_or1 (mt_cmp op_gt s_gt (mq_r 3) (mq_d (me_c (mc_call (K_nodes_many.mono (by first | decide | omega | exact Nat.le_refl _)) hr (ma_d (me_var 0) (ma_d (me_var 1) (ma_nil))) (hlen := len_d (len_d (len_nil)))))))))) (mss_one (ms_ret (me_bl))) (mss_nil)) (mss_cons (ms_if (mw_mt (mw_or (mt_cmp (op_neD hu) s_ne (mq_d (me_c (mc_call (K_paths_of.mono (by first | decide | omega | exact Nat.le_refl _)) hr (ma_d (me_var 0) (ma_d (me_var 1) (ma_nil))) (hlen := len_d (len_d (len_nil)))))) (mq_d (me_c (mc_call (K_paths_of.mono (by first | decide | omega | exact Nat.le_refl _)) hr (ma_d (me_var 0) (ma_d (me_var 2) (ma_nil))) (hlen := len_d (len_d (len_nil))))))) (mw_or1 (mt_cmp (op_neD hu) s_ne (mq_d (me_c (mc_call (K_deep_of.mono (by first | decide | omega | exact Nat.le_refl _)) hr (ma_d (me_var 0) (ma_d (me_var 1) (ma_nil))) (hlen := len_d (len_d (len_nil)))))) (mq_d (me_c (mc_call (K_deep_of.mono (by first | decide | omega | exact Nat.le_refl _)) hr (ma_d (me_var 0) (ma_d (me_var 2) (ma_nil))) (hlen := len_d (len_d (len_nil)))))))))) (mss_one (ms_ret (me_bl))) (mss_nil)) (mss_cons (ms_set 4 (me_int) sc.nd) (mss_cons (ms_for (mi_any (me_c (mc_call (K_paths_of.mono (by first | decide | omega | exact Nat.le_refl _)) hr (ma_d (me_var 0) (ma_d (me_var 1) (ma_nil))) (hlen := len_d (len_d (len_nil)))))) (mg_name 5 sc.nd) (mss_fg [5] (mss_one (ms_if (mt_cmp (op_neD hu) s_ne (mq_d (me_ix ix_seq s_ix (mq_d (me_c (mc_call (K_part_at.mono (by first | decide | omega | exact Nat.le_refl _)) hr (ma_d (me_var 0) (ma_d (me_var 1) (ma_d (me_var 5) (ma_nil)))) (hlen := len_d (len_d (len_d (len_nil))))))) (mq_d (me_int)))) (mq_d (me_ix ix_seq s_ix (mq_d (me_c (mc_call (K_part_at.mono (by first | decide | omega | exact Nat.le_refl _)) hr (ma_d (me_var 0) (ma_d (me_var 2) (ma_d (me_var 5) (ma_nil)))) (hlen := len_d (len_d (len_d (len_nil))))))) (mq_d (me_int))))) (mss_one (ms_set 4 (me_op op_addD s_add (mq_r 4) (mq_d (me_int))) sc.nd)) (mss_nil))))) (mss_one (ms_ret (me_and (me_cmp (op_eqD hu) s_eq (mq_r 4) (mq_r 3)) (me_one (me_cmp (op_eqD hu) s_eq (mq_d (me_cmp (op_eqD hu) s_eq (mq_r 3) (mq_d (me_int)))) (mq_d (me_cmp (op_eqD hu) s_eq (mq_r 1) (mq_r 2)))))))))))))))
theorem sc__law_are_three_right : FnScope ["bag", "signature", "tree", "one", "many", "other", "more"] ["bag", "signature", "tree"] (defScope (top 45)) := ⟨rfl, rfl, rfl, by decide +kernel, rfl, by decide +kernel, by decide +kernel⟩
theorem w__law_are_three_right (T : Txt K mg) (K__law_relabelled : Cal P w K mg base (cA K) 7 "_law_relabelled" 4 F__law_relabelled) (K_changes_between : Cal P w K mg base (cA K) 6 "changes_between" 3 F_changes_between) (K__law_are_two_right : Cal P w K mg base (cA K) 7 "_law_are_two_right" 3 F__law_are_two_right) {fd : FuncData} (F : FunD K "_law_are_three_right" "_law_are_three_right" (defArgs (top 45)) (defBody (top 45)) (defScope (top 45)) [] [] (ga K "_law_are_three_right") fd) : Cal P w K mg base (cA K) 8 "_law_are_three_right" 3 F__law_are_three_right :=
  calD F T.d__law_are_three_right sc__law_are_three_right (fun _ _ _ _ _ _ us hl => match us, hl with | [_, _, _], _ => rfl) fun cdv A outer s H E hr => by
    have hu := hr.units
    have hu1 := Nat.lt_of_le_of_lt (Nat.add_le_add_left (by decide : 1 ≤ 64) _) hu
    have sc := sc__law_are_three_right
    exact mss_cons (ms_asg (me_c (mc_call (K__law_relabelled.mono (by first | decide | omega | exact Nat.le_refl _)) hr (ma_r 0 (ma_d (me_var 1) (ma_d (me_var 2) (ma_d (me_int) (ma_nil))))) (hlen := len_r (len_d (len_d (len_d (len_nil))))))) (mg_tup (mgs_cons (mg_name 3 sc.nd) (mgs_cons (mg_name 4 sc.nd) (mgs_nil))) (gCons_len (gCons_len (gNil_len))))) (mss_cons (ms_if (mt_cmp (op_neD hu) s_ne (mq_d (me_c (mc_call (K_changes_between.mono (by first | decide | omega | exact Nat.le_refl _)) hr (ma_d (me_var 1) (ma_d (me_var 2) (ma_d (me_var 3) (ma_nil)))) (hlen := len_d (len_d (len_d (len_nil))))))) (mq_r 4)) (mss_one (ms_ret (me_bl))) (mss_nil)) (mss_cons (ms_asg (me_c (mc_call (K__law_relabelled.mono (by first | decide | omega | exact Nat.le_refl _)) hr (ma_r 0 (ma_d (me_var 1) (ma_d (me_var 3) (ma_d (me_int) (ma_nil))))) (hlen := len_r (len_d (len_d (len_d (len_nil))))))) (mg_tup (mgs_cons (mg_name 5 sc.nd) (mgs_cons (mg_name 6 sc.nd) (mgs_nil))) (gCons_len (gCons_len (gNil_len))))) (mss_cons (ms_if (mw_mt (mw_or (mt_cmp (op_neD hu) s_ne (mq_d (me_c (mc_call (K_changes_between.mono (by first | decide | omega | exact Nat.le_refl _)) hr (ma_d (me_var 1) (ma_d (me_var 3) (ma_d (me_var 5) (ma_nil)))) (hlen := len_d (len_d (len_d (len_nil))))))) (mq_r 6)) (mw_or1 (mt_not (mt_val (me_c (mc_call (K__law_are_two_right.mono (by first | decide | omega | exact Nat.le_refl _)) hr (ma_d (me_var 1) (ma_d (me_var 2) (ma_d (me_var 5) (ma_nil)))) (hlen := len_d (len_d (len_d (len_nil))))))))))) (mss_one (ms_ret (me_bl))) (mss_nil)) (mss_one (ms_ret (me_cmp op_le s_le (mq_d (me_c (mc_call (K_changes_between.mono (by first | decide | omega | exact Nat.le_refl _)) hr (ma_d (me_var 1) (ma_d (me_var 2) (ma_d (me_var 5) (ma_nil)))) (hlen := len_d (len_d (len_d (len_nil))))))) (mq_d (me_op op_addD s_add (mq_r 4) (mq_r 6)))))))))
theorem sc__law_are_refused : FnScope ["bag", "signature", "tree", "none", "odd", "said"] ["bag", "signature", "tree"] (defScope (top 46)) := ⟨rfl, rfl, rfl, by decide +kernel, rfl, by decide +kernel, by decide +kernel⟩
theorem w__law_are_refused (T : Txt K mg) {fds : FuncData} (D__law_said : FunD K "_law_said" "_law_said" (defArgs (top 40)) (defBody (top 40)) (defScope (top 40)) [] [] (ga K "_law_said") fds) (TB : TabB base mg (cT K ("_law_are_refused", none)).1 (cT K ("_law_are_refused", none)).2) (K__law_no_signature : Cal P w K mg base (cA K) 3 "_law_no_signature" 1 F__law_no_signature) (K__law_no_tree : Cal P w K mg base (cA K) 3 "_law_no_tree" 2 F__law_no_tree) (K_changes_between : Cal P w K mg base (cA K) 6 "changes_between" 3 F_changes_between) {fd : FuncData} (F : FunD K "_law_are_refused" "_law_are_refused" (defArgs (top 46)) (defBody (top 46)) (defScope (top 46)) [] [] (ga K "_law_are_refused") fd) : Cal P w K mg base (cA K) 9 "_law_are_refused" 3 F__law_are_refused :=
  calDc F T.d__law_are_refused sc__law_are_refused (fun _ _ _ _ _ _ us hl => match us, hl with | [_, _, _], _ => rfl) ("_law_are_refused", none) rfl fun cdv hcdv A outer s H E hr => by
    subst hcdv
    have hu := hr.units
    have hu1 := Nat.lt_of_le_of_lt (Nat.add_le_add_left (by decide : 1 ≤ 64) _) hu
    have sc := sc__law_are_refused
    exact mss_cons (ms_asg (me_tup (ma_d (me_c (mc_call (K__law_no_signature.mono (by first | decide | omega | exact Nat.le_refl _)) hr (ma_r 0 (ma_nil)) (hlen := len_r (len_nil)))) (ma_d (me_c (mc_call (K__law_no_tree.mono (by first | decide | omega | exact Nat.le_refl _)) hr (ma_r 0 (ma_d (me_var 1) (ma_nil))) (hlen := len_r (len_d (len_nil))))) (ma_nil)))) (mg_tup (mgs_cons (mg_name 3 sc.nd) (mgs_cons (mg_name 4 sc.nd) (mgs_nil))) (gCons_len (gCons_len (gNil_len))))) (mss_cons (ms_setO 5 (mo_lst (ma_d (me_said (l := [((.ref (ga K "NoSignature") : Value), ("signature" : Str)), ((.ref (ga K "NoTree") : Value), ("tree" : Str)), ((.ref (ga K "ShapeError") : Value), ("other" : Str))]) (k := 6) (saidD T.d__law_said D__law_said sc__law_said (fun _ _ _ _ _ _ us hl => match us, hl with | [_], _ => rfl)) gvT_str gvW_str (pk__law_said_ok T) (fun _ _ => gives_B (.cons T.a_NoSignature (.cons T.a_NoTree (.cons T.a_ShapeError .nil))) (by decide) (by decide) (by first | exact Or.inl rfl | exact Or.inr rfl) (by first | exact Or.inl rfl | exact Or.inr (Or.inl rfl) | exact Or.inr (Or.inr rfl))) TB rfl List.mem_cons_self (fun p hp e => (List.mem_cons.mp hp).elim (fun h => by subst h; exact rfl) (fun hp => nomatch hp)) (hr.mono (by first | decide | omega | exact Nat.le_refl _)) (lamS_by (sc := defScope (top 46)) (by decide +kernel)) (fun A2 o2 s2 H2 E2 f2 c2 hr => by have hu := hr.units; have hu1 := Nat.lt_of_le_of_lt (Nat.add_le_add_left (by decide : 1 ≤ 64) _) hu; exact me_c (mc_call (K_changes_between.mono (by first | decide | omega | exact Nat.le_refl _)) hr (ma_d (me_var 3) (ma_d (me_var 4) (ma_d (me_var 4) (ma_nil)))) (hlen := len_d (len_d (len_d (len_nil))))))) (ma_nil))) sc.nd) (mss_cons (ms_expr (me_mt 5 PySem.F.slot_list_append PySem.F.type_list_append mt_append mts_app (ma_d (me_said (l := [((.ref (ga K "NoSignature") : Value), ("signature" : Str)), ((.ref (ga K "NoTree") : Value), ("tree" : Str)), ((.ref (ga K "ShapeError") : Value), ("other" : Str))]) (k := 6) (saidD T.d__law_said D__law_said sc__law_said (fun _ _ _ _ _ _ us hl => match us, hl with | [_], _ => rfl)) gvT_str gvW_str (pk__law_said_ok T) (fun _ _ => gives_B (.cons T.a_NoSignature (.cons T.a_NoTree (.cons T.a_ShapeError .nil))) (by decide) (by decide) (by first | exact Or.inl rfl | exact Or.inr rfl) (by first | exact Or.inl rfl | exact Or.inr (Or.inl rfl) | exact Or.inr (Or.inr rfl))) TB rfl List.mem_cons_self (fun p hp e => (List.mem_cons.mp hp).elim (fun h => by subst h; exact rfl) (fun hp => nomatch hp)) (hr.mono (by first | decide | omega | exact Nat.le_refl _)) (lamS_by (sc := defScope (top 46)) (by decide +kernel)) (fun A2 o2 s2 H2 E2 f2 c2 hr => by have hu := hr.units; have hu1 := Nat.lt_of_le_of_lt (Nat.add_le_add_left (by decide : 1 ≤ 64) _) hu; exact me_c (mc_call (K_changes_between.mono (by first | decide | omega | exact Nat.le_refl _)) hr (ma_d (me_var 1) (ma_d (me_var 4) (ma_d (me_var 2) (ma_nil)))) (hlen := len_d (len_d (len_d (len_nil))))))) (ma_nil)))) (mss_cons (ms_expr (me_mt 5 PySem.F.slot_list_append PySem.F.type_list_append mt_append mts_app (ma_d (me_said (l := [((.ref (ga K "NoSignature") : Value), ("signature" : Str)), ((.ref (ga K "NoTree") : Value), ("tree" : Str)), ((.ref (ga K "ShapeError") : Value), ("other" : Str))]) (k := 6) (saidD T.d__law_said D__law_said sc__law_said (fun _ _ _ _ _ _ us hl => match us, hl with | [_], _ => rfl)) gvT_str gvW_str (pk__law_said_ok T) (fun _ _ => gives_B (.cons T.a_NoSignature (.cons T.a_NoTree (.cons T.a_ShapeError .nil))) (by decide) (by decide) (by first | exact Or.inl rfl | exact Or.inr rfl) (by first | exact Or.inl rfl | exact Or.inr (Or.inl rfl) | exact Or.inr (Or.inr rfl))) TB rfl List.mem_cons_self (fun p hp e => (List.mem_cons.mp hp).elim (fun h => by subst h; exact rfl) (fun hp => nomatch hp)) (hr.mono (by first | decide | omega | exact Nat.le_refl _)) (lamS_by (sc := defScope (top 46)) (by decide +kernel)) (fun A2 o2 s2 H2 E2 f2 c2 hr => by have hu := hr.units; have hu1 := Nat.lt_of_le_of_lt (Nat.add_le_add_left (by decide : 1 ≤ 64) _) hu; exact me_c (mc_call (K_changes_between.mono (by first | decide | omega | exact Nat.le_refl _)) hr (ma_d (me_var 1) (ma_d (me_var 2) (ma_d (me_var 4) (ma_nil)))) (hlen := len_d (len_d (len_d (len_nil))))))) (ma_nil)))) (mss_one (ms_ret (me_cmp (op_eqD hu) s_eq (mq_r 5) (mq_f (mo_lst (ma_d (me_str) (ma_d (me_str) (ma_d (me_str) (ma_nil))))))))))))
theorem sc_law : FnScope ["script", "bag", "signature", "one", "lap", "tree", "other"] ["script"] (defScope (top 47)) := ⟨rfl, rfl, rfl, by decide +kernel, rfl, by decide +kernel, by decide +kernel⟩
theorem fok_law (T : Txt K mg) (K__law_bag : Cal P w K mg base (cA K) 1 "_law_bag" 1 F__law_bag) (K_changes_between : Cal P w K mg base (cA K) 6 "changes_between" 3 F_changes_between) (K__law_signature : Cal P w K mg base (cA K) 3 "_law_signature" 1 F__law_signature) (K__law_tree : Cal P w K mg base (cA K) 3 "_law_tree" 3 F__law_tree) (K__law_are_refused : Cal P w K mg base (cA K) 9 "_law_are_refused" 3 F__law_are_refused) (K__law_are_two_right : Cal P w K mg base (cA K) 7 "_law_are_two_right" 3 F__law_are_two_right) (K__law_are_three_right : Cal P w K mg base (cA K) 8 "_law_are_three_right" 3 F__law_are_three_right) {fd : FuncData} (F : FunD K "law" "law" (defArgs (top 47)) (defBody (top 47)) (defScope (top 47)) [] [] (ga K "law") fd) : FnOk P w K mg base (L2.CX P w) 10 (ga K "law") fd ["script"] (spM K (cA K) 1 F_law) :=
  fnMD F sc_law (by decide) fun cdv A outer s H E hr => by
    have hu := hr.units
    have hu1 := Nat.lt_of_le_of_lt (Nat.add_le_add_left (by decide : 1 ≤ 64) _) hu
    have sc := sc_law
    exact mss_cons (ms_setO 1 (mo_c (mc_call (K__law_bag.mono (by first | decide | omega | exact Nat.le_refl _)) hr (ma_r 0 (ma_nil)) (hlen := len_r (len_nil)))) sc.nd) (mss_cons (ms_set 2 (me_tup (ma_d (me_tup (ma_d (me_str) (ma_d (me_int) (ma_nil)))) (ma_d (me_tup (ma_d (me_str) (ma_d (me_int) (ma_nil)))) (ma_d (me_tup (ma_d (me_str) (ma_d (me_int) (ma_nil)))) (ma_nil))))) sc.nd) (mss_cons (ms_set 3 (me_tup (ma_d (me_str) (ma_d (me_tup (ma_d (me_tup (ma_d (me_str) (ma_d (me_tup (ma_nil)) (ma_nil)))) (ma_d (me_tup (ma_d (me_str) (ma_d (me_tup (ma_nil)) (ma_nil)))) (ma_nil)))) (ma_nil)))) sc.nd) (mss_cons (ms_if (mt_cmp (op_neD hu) s_ne (mq_d (me_c (mc_call (K_changes_between.mono (by first | decide | omega | exact Nat.le_refl _)) hr (ma_d (me_var 2) (ma_d (me_var 3) (ma_d (me_tup (ma_d (me_str) (ma_d (me_tup (ma_d (me_tup (ma_d (me_str) (ma_d (me_tup (ma_nil)) (ma_nil)))) (ma_d (me_tup (ma_d (me_str) (ma_d (me_tup (ma_nil)) (ma_nil)))) (ma_nil)))) (ma_nil)))) (ma_nil)))) (hlen := len_d (len_d (len_d (len_nil))))))) (mq_d (me_int))) (mss_one (ms_ret (me_bl))) (mss_nil)) (mss_cons (ms_if (mt_cmp op_notN s_notN (mq_d (me_c (mc_call (K_changes_between.mono (by first | decide | omega | exact Nat.le_refl _)) hr (ma_d (me_var 2) (ma_d (me_var 3) (ma_d (me_tup (ma_d (me_str) (ma_d (me_tup (ma_nil)) (ma_nil)))) (ma_nil)))) (hlen := len_d (len_d (len_d (len_nil))))))) (mq_d (me_non))) (mss_one (ms_ret (me_bl))) (mss_nil)) (mss_cons (ms_for (mi_range1 (ma_d (me_int) (ma_nil)) T.f_range) (mg_name 4 sc.nd) (mss_fg [2, 3, 4, 5, 6] (mss_cons (ms_set 2 (me_c (mc_call (K__law_signature.mono (by first | decide | omega | exact Nat.le_refl _)) hr (ma_r 1 (ma_nil)) (hlen := len_r (len_nil)))) sc.nd) (mss_cons (ms_par 5 6 (ma_d (me_c (mc_call (K__law_tree.mono (by first | decide | omega | exact Nat.le_refl _)) hr (ma_r 1 (ma_d (me_var 2) (ma_d (me_int) (ma_nil)))) (hlen := len_r (len_d (len_d (len_nil)))))) (ma_d (me_c (mc_call (K__law_tree.mono (by first | decide | omega | exact Nat.le_refl _)) hr (ma_r 1 (ma_d (me_var 2) (ma_d (me_int) (ma_nil)))) (hlen := len_r (len_d (len_d (len_nil)))))) (ma_nil))) sc.nd) (mss_cons (ms_if (mw_mt (mw_or (mt_not (mt_val (me_c (mc_call (K__law_are_two_right.mono (by first | decide | omega | exact Nat.le_refl _)) hr (ma_d (me_var 2) (ma_d (me_var 5) (ma_d (me_var 6) (ma_nil)))) (hlen := len_d (len_d (len_d (len_nil)))))))) (mw_or1 (mt_not (mt_val (me_c (mc_call (K__law_are_three_right.mono (by first | decide | omega | exact Nat.le_refl _)) hr (ma_r 1 (ma_d (me_var 2) (ma_d (me_var 5) (ma_nil)))) (hlen := len_r (len_d (len_d (len_nil))))))))))) (mss_one (ms_ret (me_bl))) (mss_nil)) (mss_one (ms_if (mt_not (mt_val (me_c (mc_call (K__law_are_refused.mono (by first | decide | omega | exact Nat.le_refl _)) hr (ma_r 1 (ma_d (me_var 2) (ma_d (me_var 5) (ma_nil)))) (hlen := len_r (len_d (len_d (len_nil)))))))) (mss_one (ms_ret (me_bl))) (mss_nil)))))))) (mss_one (ms_ret (me_bl))))))))
end K74
end

section
set_option Elab.async false
set_option linter.all false
set_option maxRecDepth 100000
set_option maxHeartbeats 0
namespace K74
open PySem L2 ML He LamX
def fn : List He.DefD := [⟨("is_integer", none), "is_integer", "is_integer", defArgs (top 8), defBody (top 8), defScope (top 8), [], []⟩,
  ⟨("is_within", none), "is_within", "is_within", defArgs (top 9), defBody (top 9), defScope (top 9), [], []⟩,
  ⟨("is_name", none), "is_name", "is_name", defArgs (top 10), defBody (top 10), defScope (top 10), [], []⟩,
  ⟨("is_sized", none), "is_sized", "is_sized", defArgs (top 11), defBody (top 11), defScope (top 11), [], []⟩,
  ⟨("are_rising", none), "are_rising", "are_rising", defArgs (top 12), defBody (top 12), defScope (top 12), [], []⟩,
  ⟨("is_signature", none), "is_signature", "is_signature", defArgs (top 16), defBody (top 16), defScope (top 16), [], []⟩,
  ⟨("check_signature", none), "check_signature", "check_signature", defArgs (top 17), defBody (top 17), defScope (top 17), [], []⟩,
  ⟨("raw_is_tree", none), "raw_is_tree", "raw_is_tree", defArgs (top 18), defBody (top 18), defScope (top 18), [], []⟩,
  ⟨("check_tree", none), "check_tree", "check_tree", defArgs (top 19), defBody (top 19), defScope (top 19), [], []⟩,
  ⟨("check_both", none), "check_both", "check_both", defArgs (top 20), defBody (top 20), defScope (top 20), [], []⟩,
  ⟨("raw_nodes_many", none), "raw_nodes_many", "raw_nodes_many", defArgs (top 21), defBody (top 21), defScope (top 21), [], []⟩,
  ⟨("nodes_many", none), "nodes_many", "nodes_many", defArgs (top 22), defBody (top 22), defScope (top 22), [], []⟩,
  ⟨("deep_of", none), "deep_of", "deep_of", defArgs (top 23), defBody (top 23), defScope (top 23), [], []⟩,
  ⟨("raw_paths", none), "raw_paths", "raw_paths", defArgs (top 24), defBody (top 24), defScope (top 24), [], []⟩,
  ⟨("paths_of", none), "paths_of", "paths_of", defArgs (top 25), defBody (top 25), defScope (top 25), [], []⟩,
  ⟨("row_to", none), "row_to", "row_to", defArgs (top 26), defBody (top 26), defScope (top 26), [], []⟩,
  ⟨("part_at", none), "part_at", "part_at", defArgs (top 27), defBody (top 27), defScope (top 27), [], []⟩,
  ⟨("with_part", none), "with_part", "with_part", defArgs (top 28), defBody (top 28), defScope (top 28), [], []⟩,
  ⟨("raw_changes", none), "raw_changes", "raw_changes", defArgs (top 30), defBody (top 30), defScope (top 30), [], []⟩,
  ⟨("changes_between", none), "changes_between", "changes_between", defArgs (top 31), defBody (top 31), defScope (top 31), [], []⟩,
  ⟨("_law_bag", none), "_law_bag", "_law_bag", defArgs (top 33), defBody (top 33), defScope (top 33), [], []⟩,
  ⟨("_law_pick", none), "_law_pick", "_law_pick", defArgs (top 34), defBody (top 34), defScope (top 34), [], []⟩,
  ⟨("_law_some", none), "_law_some", "_law_some", defArgs (top 35), defBody (top 35), defScope (top 35), [], []⟩,
  ⟨("_law_signature", none), "_law_signature", "_law_signature", defArgs (top 36), defBody (top 36), defScope (top 36), [], []⟩,
  ⟨("_law_nodes", none), "_law_nodes", "_law_nodes", defArgs (top 37), defBody (top 37), defScope (top 37), [], []⟩,
  ⟨("_law_tree", none), "_law_tree", "_law_tree", defArgs (top 38), defBody (top 38), defScope (top 38), [], []⟩,
  ⟨("_law_changes", none), "_law_changes", "_law_changes", defArgs (top 39), defBody (top 39), defScope (top 39), [], []⟩,
  ⟨("_law_said", none), "_law_said", "_law_said", defArgs (top 40), defBody (top 40), defScope (top 40), [], []⟩,
  ⟨("_law_no_tree", none), "_law_no_tree", "_law_no_tree", defArgs (top 41), defBody (top 41), defScope (top 41), [], []⟩,
  ⟨("_law_no_signature", none), "_law_no_signature", "_law_no_signature", defArgs (top 42), defBody (top 42), defScope (top 42), [], []⟩,
  ⟨("_law_relabelled", none), "_law_relabelled", "_law_relabelled", defArgs (top 43), defBody (top 43), defScope (top 43), [], []⟩,
  ⟨("_law_are_two_right", none), "_law_are_two_right", "_law_are_two_right", defArgs (top 44), defBody (top 44), defScope (top 44), [], []⟩,
  ⟨("_law_are_three_right", none), "_law_are_three_right", "_law_are_three_right", defArgs (top 45), defBody (top 45), defScope (top 45), [], []⟩,
  ⟨("_law_are_refused", none), "_law_are_refused", "_law_are_refused", defArgs (top 46), defBody (top 46), defScope (top 46), [], []⟩,
  ⟨("law", none), "law", "law", defArgs (top 47), defBody (top 47), defScope (top 47), [], []⟩,
  ⟨("NoSignature", some "__init__"), "__init__", "NoSignature.__init__", defArgs (mth 2 0), defBody (mth 2 0), defScope (mth 2 0), [], []⟩,
  ⟨("NoTree", some "__init__"), "__init__", "NoTree.__init__", defArgs (mth 3 0), defBody (mth 3 0), defScope (mth 3 0), [], []⟩,
  ⟨("NoPath", some "__init__"), "__init__", "NoPath.__init__", defArgs (mth 4 0), defBody (mth 4 0), defScope (mth 4 0), [], []⟩]
def tf : List He.Defn := [("_law_are_refused", none)]
def fa : List He.Fa := [.free "abs", .free "all", .free "bool", .free "dict", .free "enumerate", .free "int", .free "isinstance", .free "len", .free "list", .free "max", .free "range", .free "repr", .free "str", .free "tuple", .free "zip", .str "LETTERS" "abcdefghijklmnopqrstuvwxyz", .int "MOST_LETTERS" 8, .int "MOST_LABELS" 10, .int "MOST_RANK" 2, .glo "ShapeError", .glo "NoSignature", .glo "NoTree", .glo "NoPath", .glo "is_integer", .glo "is_within", .glo "is_name", .glo "is_sized", .glo "are_rising", .glo "is_signature", .glo "check_signature", .glo "raw_is_tree", .glo "check_tree", .glo "check_both", .glo "raw_nodes_many", .glo "nodes_many", .glo "deep_of", .glo "raw_paths", .glo "paths_of", .glo "row_to", .glo "part_at", .glo "with_part", .glo "raw_changes", .glo "changes_between", .glo "_law_bag", .glo "_law_pick", .glo "_law_some", .glo "_law_signature", .glo "_law_nodes", .glo "_law_tree", .glo "_law_changes", .glo "_law_said", .glo "_law_no_tree", .glo "_law_no_signature", .glo "_law_relabelled", .glo "_law_are_two_right", .glo "_law_are_three_right", .glo "_law_are_refused", .glo "law", .exm "NoSignature" "NoSignature" true, .exm "NoTree" "NoSignature" false, .exm "NoTree" "NoTree" true, .exm "NoPath" "NoSignature" false, .exm "NoPath" "NoTree" false, .exm "NoPath" "ShapeError" true]
def ex (K : PySem.W.Frag) : Bool := [oexB K (ga K "NoSignature"),
  metB K (ga K "NoSignature") "__init__",
  initB K (ga K "ShapeError"),
  oexB K (ga K "NoTree"),
  metB K (ga K "NoTree") "__init__",
  oexB K (ga K "NoPath"),
  metB K (ga K "NoPath") "__init__"].all id
abbrev R : PySem.W.OpenRow := PySem.W.OpenLaw.row PySem.Challenge.rw_shaperoads_k74_whole_changes_between_tre
abbrev hk : PySem.W.Hook := hookN [cStatics] 5 fa fn tf ex
def ob (s : PySem.W.SharedT) : AlM := obsN [cStatics] fa fn tf ex 5 (HandSHeadRun.getT s)
theorem ob_eq (s : PySem.W.SharedT) : ob s = hk.obs s.abs := obsN_eq (HandSHeadRun.getT_eq s)
def loose : List PySem.Str := (["ShapeError", "NoSignature", "NoTree", "NoPath", "LETTERS", "MOST_LETTERS", "is_integer", "is_within", "is_name", "is_sized", "are_rising", "MOST_LABELS", "MOST_RANK", "is_signature", "check_signature", "raw_is_tree", "check_tree", "check_both", "raw_nodes_many", "nodes_many", "deep_of", "raw_paths", "paths_of", "row_to", "part_at", "with_part", "raw_changes", "changes_between", "_law_bag", "_law_pick"] : List PySem.Str) ++ (["_law_some", "_law_signature", "_law_nodes", "_law_tree", "_law_changes", "_law_said", "_law_no_tree", "_law_no_signature", "_law_relabelled", "_law_are_two_right", "_law_are_three_right", "_law_are_refused"] : List PySem.Str)
theorem run (w : World) : HandSHeadRun.RunEq R (PySem.W.view R.prog [47]) hk ob 20000 loose w := by
  intro os
  kernel_rfl
section
variable {K : PySem.W.Frag} {h h0 : Heap} {mg : Str → Option Value}
theorem ex_at (c : SaysN fa fn tf ex h0 K) (i : Nat) {b : Bool} (hb : ([
  oexB K (ga K "NoSignature"),
  metB K (ga K "NoSignature") "__init__",
  initB K (ga K "ShapeError"),
  oexB K (ga K "NoTree"),
  metB K (ga K "NoTree") "__init__",
  oexB K (ga K "NoPath"),
  metB K (ga K "NoPath") "__init__"] : List Bool)[i]? = some b) : b = true := List.all_eq_true.mp c.more b (List.mem_of_getElem? hb)
theorem txt (X : K.In h) (G : h.Ns mainGlobals mg) (c : SaysN fa fn tf ex h0 K) : Txt K mg where
  f_abs := free_ok X G (c.d.fact 0)
  f_all := free_ok X G (c.d.fact 1)
  f_bool := free_ok X G (c.d.fact 2)
  f_dict := free_ok X G (c.d.fact 3)
  f_enumerate := free_ok X G (c.d.fact 4)
  f_int := free_ok X G (c.d.fact 5)
  f_isinstance := free_ok X G (c.d.fact 6)
  f_len := free_ok X G (c.d.fact 7)
  f_list := free_ok X G (c.d.fact 8)
  f_max := free_ok X G (c.d.fact 9)
  f_range := free_ok X G (c.d.fact 10)
  f_repr := free_ok X G (c.d.fact 11)
  f_str := free_ok X G (c.d.fact 12)
  f_tuple := free_ok X G (c.d.fact 13)
  f_zip := free_ok X G (c.d.fact 14)
  g_LETTERS := str_ok X G (c.d.fact 15)
  g_MOST_LETTERS := int_ok X G (c.d.fact 16)
  g_MOST_LABELS := int_ok X G (c.d.fact 17)
  g_MOST_RANK := int_ok X G (c.d.fact 18)
  a_ShapeError := glo_ok X G (c.d.fact 19)
  a_NoSignature := glo_ok X G (c.d.fact 20)
  a_NoTree := glo_ok X G (c.d.fact 21)
  a_NoPath := glo_ok X G (c.d.fact 22)
  d_is_integer := glo_ok X G (c.d.fact 23)
  d_is_within := glo_ok X G (c.d.fact 24)
  d_is_name := glo_ok X G (c.d.fact 25)
  d_is_sized := glo_ok X G (c.d.fact 26)
  d_are_rising := glo_ok X G (c.d.fact 27)
  d_is_signature := glo_ok X G (c.d.fact 28)
  d_check_signature := glo_ok X G (c.d.fact 29)
  d_raw_is_tree := glo_ok X G (c.d.fact 30)
  d_check_tree := glo_ok X G (c.d.fact 31)
  d_check_both := glo_ok X G (c.d.fact 32)
  d_raw_nodes_many := glo_ok X G (c.d.fact 33)
  d_nodes_many := glo_ok X G (c.d.fact 34)
  d_deep_of := glo_ok X G (c.d.fact 35)
  d_raw_paths := glo_ok X G (c.d.fact 36)
  d_paths_of := glo_ok X G (c.d.fact 37)
  d_row_to := glo_ok X G (c.d.fact 38)
  d_part_at := glo_ok X G (c.d.fact 39)
  d_with_part := glo_ok X G (c.d.fact 40)
  d_raw_changes := glo_ok X G (c.d.fact 41)
  d_changes_between := glo_ok X G (c.d.fact 42)
  d__law_bag := glo_ok X G (c.d.fact 43)
  d__law_pick := glo_ok X G (c.d.fact 44)
  d__law_some := glo_ok X G (c.d.fact 45)
  d__law_signature := glo_ok X G (c.d.fact 46)
  d__law_nodes := glo_ok X G (c.d.fact 47)
  d__law_tree := glo_ok X G (c.d.fact 48)
  d__law_changes := glo_ok X G (c.d.fact 49)
  d__law_said := glo_ok X G (c.d.fact 50)
  d__law_no_tree := glo_ok X G (c.d.fact 51)
  d__law_no_signature := glo_ok X G (c.d.fact 52)
  d__law_relabelled := glo_ok X G (c.d.fact 53)
  d__law_are_two_right := glo_ok X G (c.d.fact 54)
  d__law_are_three_right := glo_ok X G (c.d.fact 55)
  d__law_are_refused := glo_ok X G (c.d.fact 56)
  d_law := glo_ok X G (c.d.fact 57)
  e_NoSignature_NoSignature := exm_ok (c.d.fact 58)
  e_NoTree_NoSignature := exm_ok (c.d.fact 59)
  e_NoTree_NoTree := exm_ok (c.d.fact 60)
  e_NoPath_NoSignature := exm_ok (c.d.fact 61)
  e_NoPath_NoTree := exm_ok (c.d.fact 62)
  e_NoPath_ShapeError := exm_ok (c.d.fact 63)
end
section
variable {P : Program} {w : World} {K : PySem.W.Frag} {h h0 : Heap} {mg : Str → Option Value}
theorem scx_NoSignature : FnScope ["self"] ["self"] (defScope (mth 2 0)) := ⟨rfl, rfl, rfl, by decide +kernel, rfl, by decide +kernel, by decide +kernel⟩
theorem rz_NoSignature {base : Heap} (T : Txt K mg) (c : SaysN fa fn tf ex h0 K) : Rz P w K mg base (cA K) "NoSignature" := by
  have OX := oexB_ok (ex_at c 0 rfl)
  have IB := initB_ok (ex_at c 2 rfl)
  have M := Bool.and_eq_true_iff.mp (ex_at c 1 rfl)
  obtain ⟨fd, F⟩ := c.d.def_ 35 rfl
  refine ⟨T.a_NoSignature, OX, _, fd, ["self"], eqO_ok M.1, of_decide_eq_true M.2, fnID F scx_NoSignature (fun cdv A outer s H E => ?_), FunD.bindsN F (fun _ _ _ _ _ _ us hl => match us, hl with | [_], _ => rfl)⟩
  exact pss_one (ps_expr (pe_ownI T.a_ShapeError IB (pa_cons (pe_var (i := 0) rfl (Or.inl rfl) (by decide) (by decide)) pa_nil)))
theorem scx_NoTree : FnScope ["self"] ["self"] (defScope (mth 3 0)) := ⟨rfl, rfl, rfl, by decide +kernel, rfl, by decide +kernel, by decide +kernel⟩
theorem rz_NoTree {base : Heap} (T : Txt K mg) (c : SaysN fa fn tf ex h0 K) : Rz P w K mg base (cA K) "NoTree" := by
  have OX := oexB_ok (ex_at c 3 rfl)
  have IB := initB_ok (ex_at c 2 rfl)
  have M := Bool.and_eq_true_iff.mp (ex_at c 4 rfl)
  obtain ⟨fd, F⟩ := c.d.def_ 36 rfl
  refine ⟨T.a_NoTree, OX, _, fd, ["self"], eqO_ok M.1, of_decide_eq_true M.2, fnID F scx_NoTree (fun cdv A outer s H E => ?_), FunD.bindsN F (fun _ _ _ _ _ _ us hl => match us, hl with | [_], _ => rfl)⟩
  exact pss_one (ps_expr (pe_ownI T.a_ShapeError IB (pa_cons (pe_var (i := 0) rfl (Or.inl rfl) (by decide) (by decide)) pa_nil)))
theorem scx_NoPath : FnScope ["self"] ["self"] (defScope (mth 4 0)) := ⟨rfl, rfl, rfl, by decide +kernel, rfl, by decide +kernel, by decide +kernel⟩
theorem rz_NoPath {base : Heap} (T : Txt K mg) (c : SaysN fa fn tf ex h0 K) : Rz P w K mg base (cA K) "NoPath" := by
  have OX := oexB_ok (ex_at c 5 rfl)
  have IB := initB_ok (ex_at c 2 rfl)
  have M := Bool.and_eq_true_iff.mp (ex_at c 6 rfl)
  obtain ⟨fd, F⟩ := c.d.def_ 37 rfl
  refine ⟨T.a_NoPath, OX, _, fd, ["self"], eqO_ok M.1, of_decide_eq_true M.2, fnID F scx_NoPath (fun cdv A outer s H E => ?_), FunD.bindsN F (fun _ _ _ _ _ _ us hl => match us, hl with | [_], _ => rfl)⟩
  exact pss_one (ps_expr (pe_ownI T.a_ShapeError IB (pa_cons (pe_var (i := 0) rfl (Or.inl rfl) (by decide) (by decide)) pa_nil)))
theorem facts (X : K.In h) (G : h.Ns mainGlobals mg) {f : Addr} (hfa : mg ("law" : Str) = some (.ref f)) (c : SaysN fa fn tf ex h0 K) :
    ∃ fd : FuncData, (∀ (s : Shared) (v : Value), BindsTo s fd ⟨[v], []⟩ [("script", v)]) ∧ ∀ base : Heap, K.In base → base.Ns mainGlobals mg → (∀ p ∈ tf, TabB base mg (cT K p).1 (cT K p).2) → FnOk P w K mg base (L2.CX P w) 10 f fd ["script"] (spM K (cA K) 1 F_law) := by
  have T := txt X G c
  obtain ⟨fd, FL⟩ := c.d.def_ 34 rfl
  have e := hfa.symm.trans T.d_law
  cases e
  refine ⟨fd, fun s v => FunD.bindsA (ps := ["script"]) FL (fun _ _ _ _ _ _ us hl => match us, hl with | [_], _ => rfl) s [v] rfl, fun base _ _ hTB => ?_⟩
  have r_NoSignature := rz_NoSignature (P := P) (w := w) (base := base) T c
  have r_NoTree := rz_NoTree (P := P) (w := w) (base := base) T c
  have r_NoPath := rz_NoPath (P := P) (w := w) (base := base) T c
  obtain ⟨fd_is_integer, D_is_integer⟩ := c.d.def_ 0 rfl
  have K_is_integer := w_is_integer (P := P) (w := w) (base := base) T D_is_integer
  obtain ⟨fd_is_within, D_is_within⟩ := c.d.def_ 1 rfl
  have K_is_within := w_is_within (P := P) (w := w) (base := base) T K_is_integer D_is_within
  obtain ⟨fd_is_name, D_is_name⟩ := c.d.def_ 2 rfl
  have K_is_name := w_is_name (P := P) (w := w) (base := base) T D_is_name
  obtain ⟨fd_is_sized, D_is_sized⟩ := c.d.def_ 3 rfl
  have K_is_sized := w_is_sized (P := P) (w := w) (base := base) T D_is_sized
  obtain ⟨fd_are_rising, D_are_rising⟩ := c.d.def_ 4 rfl
  have K_are_rising := w_are_rising (P := P) (w := w) (base := base) T D_are_rising
  obtain ⟨fd_is_signature, D_is_signature⟩ := c.d.def_ 5 rfl
  have K_is_signature := w_is_signature (P := P) (w := w) (base := base) T K_are_rising K_is_sized K_is_name K_is_within D_is_signature
  obtain ⟨fd_check_signature, D_check_signature⟩ := c.d.def_ 6 rfl
  have K_check_signature := w_check_signature (P := P) (w := w) (base := base) T K_is_signature r_NoSignature D_check_signature
  obtain ⟨fd_raw_is_tree, D_raw_is_tree⟩ := c.d.def_ 7 rfl
  have K_raw_is_tree := w_raw_is_tree (P := P) (w := w) (base := base) T K_is_sized D_raw_is_tree
  obtain ⟨fd_check_tree, D_check_tree⟩ := c.d.def_ 8 rfl
  have K_check_tree := w_check_tree (P := P) (w := w) (base := base) T K_raw_is_tree r_NoTree D_check_tree
  obtain ⟨fd_check_both, D_check_both⟩ := c.d.def_ 9 rfl
  have K_check_both := w_check_both (P := P) (w := w) (base := base) T K_check_signature K_check_tree D_check_both
  obtain ⟨fd_raw_nodes_many, D_raw_nodes_many⟩ := c.d.def_ 10 rfl
  have K_raw_nodes_many := w_raw_nodes_many (P := P) (w := w) (base := base) T D_raw_nodes_many
  obtain ⟨fd_nodes_many, D_nodes_many⟩ := c.d.def_ 11 rfl
  have K_nodes_many := w_nodes_many (P := P) (w := w) (base := base) T K_check_both K_raw_nodes_many D_nodes_many
  obtain ⟨fd_deep_of, D_deep_of⟩ := c.d.def_ 12 rfl
  have K_deep_of := w_deep_of (P := P) (w := w) (base := base) T K_check_both D_deep_of
  obtain ⟨fd_raw_paths, D_raw_paths⟩ := c.d.def_ 13 rfl
  have K_raw_paths := w_raw_paths (P := P) (w := w) (base := base) T D_raw_paths
  obtain ⟨fd_paths_of, D_paths_of⟩ := c.d.def_ 14 rfl
  have K_paths_of := w_paths_of (P := P) (w := w) (base := base) T K_check_both K_raw_paths D_paths_of
  obtain ⟨fd_row_to, D_row_to⟩ := c.d.def_ 15 rfl
  have K_row_to := w_row_to (P := P) (w := w) (base := base) T r_NoPath K_is_within D_row_to
  obtain ⟨fd_part_at, D_part_at⟩ := c.d.def_ 16 rfl
  have K_part_at := w_part_at (P := P) (w := w) (base := base) T K_check_both K_row_to D_part_at
  obtain ⟨fd_with_part, D_with_part⟩ := c.d.def_ 17 rfl
  have K_with_part := w_with_part (P := P) (w := w) (base := base) T K_check_both K_check_tree K_row_to D_with_part
  obtain ⟨fd_raw_changes, D_raw_changes⟩ := c.d.def_ 18 rfl
  have K_raw_changes := w_raw_changes (P := P) (w := w) (base := base) T D_raw_changes
  obtain ⟨fd_changes_between, D_changes_between⟩ := c.d.def_ 19 rfl
  have K_changes_between := w_changes_between (P := P) (w := w) (base := base) T K_check_both K_check_tree K_raw_changes D_changes_between
  obtain ⟨fd__law_bag, D__law_bag⟩ := c.d.def_ 20 rfl
  have K__law_bag := w__law_bag (P := P) (w := w) (base := base) T D__law_bag
  obtain ⟨fd__law_pick, D__law_pick⟩ := c.d.def_ 21 rfl
  have K__law_pick := w__law_pick (P := P) (w := w) (base := base) T D__law_pick
  obtain ⟨fd__law_some, D__law_some⟩ := c.d.def_ 22 rfl
  have K__law_some := w__law_some (P := P) (w := w) (base := base) T K__law_pick D__law_some
  obtain ⟨fd__law_signature, D__law_signature⟩ := c.d.def_ 23 rfl
  have K__law_signature := w__law_signature (P := P) (w := w) (base := base) T K__law_some D__law_signature
  obtain ⟨fd__law_nodes, D__law_nodes⟩ := c.d.def_ 24 rfl
  have K__law_nodes := w__law_nodes (P := P) (w := w) (base := base) T D__law_nodes
  obtain ⟨fd__law_tree, D__law_tree⟩ := c.d.def_ 25 rfl
  have K__law_tree := w__law_tree (P := P) (w := w) (base := base) T K__law_some K__law_pick K__law_nodes D__law_tree
  obtain ⟨fd__law_changes, D__law_changes⟩ := c.d.def_ 26 rfl
  have K__law_changes := w__law_changes (P := P) (w := w) (base := base) T D__law_changes
  obtain ⟨fd__law_said, D__law_said⟩ := c.d.def_ 27 rfl
  obtain ⟨fd__law_no_tree, D__law_no_tree⟩ := c.d.def_ 28 rfl
  have K__law_no_tree := w__law_no_tree (P := P) (w := w) (base := base) T K__law_some D__law_no_tree
  obtain ⟨fd__law_no_signature, D__law_no_signature⟩ := c.d.def_ 29 rfl
  have K__law_no_signature := w__law_no_signature (P := P) (w := w) (base := base) T K__law_some D__law_no_signature
  obtain ⟨fd__law_relabelled, D__law_relabelled⟩ := c.d.def_ 30 rfl
  have K__law_relabelled := w__law_relabelled (P := P) (w := w) (base := base) T K__law_pick K_paths_of K__law_some K_part_at K_with_part D__law_relabelled
  obtain ⟨fd__law_are_two_right, D__law_are_two_right⟩ := c.d.def_ 31 rfl
  have K__law_are_two_right := w__law_are_two_right (P := P) (w := w) (base := base) T K__law_changes K_paths_of K_changes_between K_nodes_many K_deep_of K_part_at D__law_are_two_right
  obtain ⟨fd__law_are_three_right, D__law_are_three_right⟩ := c.d.def_ 32 rfl
  have K__law_are_three_right := w__law_are_three_right (P := P) (w := w) (base := base) T K__law_relabelled K_changes_between K__law_are_two_right D__law_are_three_right
  obtain ⟨fd__law_are_refused, D__law_are_refused⟩ := c.d.def_ 33 rfl
  have K__law_are_refused := w__law_are_refused (P := P) (w := w) (base := base) T D__law_said (hTB _ List.mem_cons_self) K__law_no_signature K__law_no_tree K_changes_between D__law_are_refused
  exact fok_law T K__law_bag K_changes_between K__law_signature K__law_tree K__law_are_refused K__law_are_two_right K__law_are_three_right FL
end
end K74
end

section
set_option Elab.async false
set_option linter.all false
set_option maxRecDepth 100000
set_option maxHeartbeats 4000000
/-! # Hands: draws -/
namespace K74
open PySem L2 ML
/-- the numbers in a hand -/
def handD (cs : List Int) (a b c d : Int) : List D := [.list (cs.map PyData.int), .int a, .int b, .int c, .int d]
/-- a list that is a hand -/
def HandOk (h : List D) : Prop := ∃ cs a b c d, h = handD cs a b c d ∧ 0 ≤ a
abbrev hS (h : List D) : Sl := .o false (.lst h)
theorem ixN_nat (n i : Nat) : ixN n (i : Int) = if i < n then some i else none := by
  unfold ixN
  simp
theorem atI_nat {α : Type} (xs : List α) (i : Nat) : atI xs (i : Int) = xs[i]? := by
  unfold atI
  rw [ixN_nat]
  by_cases h : i < xs.length
  · rw [if_pos h]; rfl
  · rw [if_neg h, List.getElem?_eq_none (by omega)]; rfl
theorem atI_get {α : Type} {xs : List α} {a : Int} (h0 : 0 ≤ a) (h : a < xs.length) : ∃ c, atI xs a = some c ∧ c ∈ xs := by
  obtain ⟨n, rfl⟩ := Int.eq_ofNat_of_zero_le h0
  rw [atI_nat]
  have hl : n < xs.length := by omega
  exact ⟨xs[n], List.getElem?_eq_getElem hl, List.getElem_mem hl⟩
@[simp] theorem at0 {α : Type} {x : α} {xs : List α} : atI (x :: xs) 0 = some x := atI_nat _ 0
@[simp] theorem at1 {α : Type} {x y : α} {xs : List α} : atI (x :: y :: xs) 1 = some y := atI_nat _ 1
@[simp] theorem at2 {α : Type} {x y z : α} {xs : List α} : atI (x :: y :: z :: xs) 2 = some z := atI_nat _ 2
@[simp] theorem at3 {α : Type} {x y z u : α} {xs : List α} : atI (x :: y :: z :: u :: xs) 3 = some u := atI_nat _ 3
@[simp] theorem at4 {α : Type} {x y z u v : α} {xs : List α} : atI (x :: y :: z :: u :: v :: xs) 4 = some v := atI_nat _ 4
@[simp] theorem ix51 : ixN 5 1 = some 1 := rfl
@[simp] theorem ix52 : ixN 5 2 = some 2 := rfl
@[simp] theorem ix53 : ixN 5 3 = some 3 := rfl
@[simp] theorem ix54 : ixN 5 4 = some 4 := rfl
@[simp] theorem eqOk_int {i : Int} : eqOk (.int i) = true := rfl
@[simp] theorem eqOk_bool {i : Bool} : eqOk (.bool i) = true := rfl
theorem eqOk_str {x : Str} (h : PySem.PyData.strOk x = true) : eqOk (.str x) = true := by
  show (true && (PySem.PyData.strOk x && decide (0 ≤ 64))) = true
  rw [h]; rfl
@[simp] theorem eqv_int {i j : Int} : PyData.eqv (.int i) (.int j) = decide (i = j) := by rw [Bool.eq_iff_iff]; simp [PyData.eqv]
@[simp] theorem eqv_str {i j : Str} : PyData.eqv (.str i) (.str j) = decide (i = j) := by rw [Bool.eq_iff_iff]; simp [PyData.eqv]
@[simp] theorem eqv_bool {i j : Bool} : PyData.eqv (.bool i) (.bool j) = decide (i = j) := by rw [Bool.eq_iff_iff]; simp [PyData.eqv]
theorem draw_i2 (cs : List Int) (a c d x : Int) (m s t : Sl) : ∃ b', m__law_pick_i2 [hS (handD cs a 0 c d), m, .d (.int x), s, t] = .nx [hS (handD cs a b' c d), m, .d (.int x), s, t] := by
  by_cases h : (1000000000000000000 : Int) ≤ x
  · exact ⟨x, by simp [m__law_pick_i2, handD, h]⟩
  · exact ⟨0, by simp [m__law_pick_i2, handD, h]⟩
theorem draw_i3 (cs : List Int) (a b c d : Int) (h0 : 0 ≤ a) (m s t : Sl) : ∃ a' b' c' x, m__law_pick_i3 [hS (handD cs a b c d), m, .un, s, t] = .nx [hS (handD cs a' b' c' d), m, x, s, t] ∧ 0 ≤ a' := by
  by_cases hb : b = 0
  · subst hb
    by_cases ha : a < cs.length
    · obtain ⟨x, hx, _⟩ := atI_get h0 ha
      have hx2 : atI (cs.map PyData.int) a = some (.int x) := by rw [atI_map, hx]; rfl
      obtain ⟨b', e⟩ := draw_i2 cs (a + 1) ((c * 48271 + x * 69621 + 101) % 2147483629) d x m s t
      refine ⟨a + 1, b', (c * 48271 + x * 69621 + 101) % 2147483629, .d (.int x), ?_, by omega⟩
      rw [← e]
      simp [m__law_pick_i3, handD, ha, hx2, small]
    · exact ⟨a, 0, c, .un, by simp [m__law_pick_i3, handD, ha], h0⟩
  · exact ⟨a, b, c, .un, by simp [m__law_pick_i3, handD, hb], h0⟩
@[simp] theorem small_a {x : Int} : small (x % 2147483647) = true := by
  have h0 := Int.emod_nonneg x (b := 2147483647) (by decide)
  have h1 := Int.emod_lt_of_pos x (b := 2147483647) (by decide)
  unfold small
  exact decide_eq_true (by omega)
@[simp] theorem small_b : small 7919 = true := by decide
@[simp] theorem small_c : small 48271 = true := by decide
def rnd (c d : Int) : Int :=
  let n1 := (c + 7919 * d) * 48271 % 2147483647
  let n2 := n1 * (n1 / 1009 + 69621) % 2147483647
  n2 * (n2 / 2003 + 40014) % 2147483563
theorem draw_ok {h : List D} (H : HandOk h) {m : Int} (hm : 0 < m) (hm2 : m < 1073741824) : ∃ (r : Int) (h' : List D), F__law_pick [hS h, .d (.int m)] = .ok (.d (.int r)) [hS h', .un] ∧ HandOk h' ∧ 0 ≤ r ∧ r < m := by
  obtain ⟨cs, a, b, c, d, rfl, ha⟩ := H
  obtain ⟨a', b', c', x, e, ha'⟩ := draw_i3 cs a b c d ha (.d (.int m)) .un .un
  have hn : m.natAbs < 1073741824 := by omega
  by_cases hb : 0 < b'
  · have e1 : m__law_pick_i1 [hS (handD cs a' b' c' d), .d (.int m), x, .un, .un] = .rt (.d (.int (b' % m))) [hS (handD cs a' (b' / m) c' d), .d (.int m), x, .d (.int (b' % m)), .un] := by
      simp [m__law_pick_i1, handD, hb, hm, hn]
    refine ⟨b' % m, handD cs a' (b' / m) c' d, ?_, ⟨_, _, _, _, _, rfl, ha'⟩, Int.emod_nonneg _ (by omega), Int.emod_lt_of_pos _ hm⟩
    simp [F__law_pick, runBody, m__law_pick, e, e1]
  · have e1 : m__law_pick_i1 [hS (handD cs a' b' c' d), .d (.int m), x, .un, .un] = .nx [hS (handD cs a' b' c' d), .d (.int m), x, .un, .un] := by
      simp [m__law_pick_i1, handD, hb]
    refine ⟨(rnd c' (d + 1) / 16) % m, handD cs a' b' c' (d + 1), ?_, ⟨_, _, _, _, _, rfl, ha'⟩, Int.emod_nonneg _ (by omega), Int.emod_lt_of_pos _ hm⟩
    unfold handD at e e1 ⊢
    simp [F__law_pick, runBody, m__law_pick, e, e1, hm, rnd]
theorem some_ok {h : List D} (H : HandOk h) {xs : List D} (h0 : 0 < xs.length) (hl : xs.length < 1073741824) {t : D} (ht : t = .list xs ∨ t = .tuple xs) : ∃ (x : D) (h' : List D), F__law_some [hS h, .d t] = .ok (.d x) [hS h', .un] ∧ HandOk h' ∧ x ∈ xs := by
  obtain ⟨r, h', e, H', r0, r1⟩ := draw_ok H (m := xs.length) (by omega) (by omega)
  obtain ⟨x, hx, mem⟩ := atI_get r0 r1
  refine ⟨x, h', ?_, H', mem⟩
  rcases ht with rfl | rfl
  · simp [F__law_some, runBody, m__law_some, e, hx]
  · simp [F__law_some, runBody, m__law_some, e, hx]
end K74
end

section
set_option Elab.async false
set_option linter.all false
set_option maxRecDepth 100000
set_option maxHeartbeats 4000000
/-! # Comprehensions; names, signatures, trees -/
namespace K74
open PySem L2 ML
theorem oComp_map {mi : M (List D)} {g : GF} {te : M D} {vs : List Nat} {e e1 : List Sl} {ds : List D} {f : D → D} (hi : mi e = .ok ds e1)
    (h : ∀ d ∈ ds, ∃ e2, g d (wipeE e1 vs) = some e2 ∧ te e2 = .ok (f d) e2 ∧ wipeE e2 vs = wipeE e1 vs) (hl : ds.length ≤ LIM) :
    oComp mi g (ML.ret true) te vs e = .ok (.lst (ds.map f)) (restE e1 (wipeE e1 vs) vs) := by
  unfold oComp ML.bind
  rw [hi]
  dsimp only
  rw [compL_map (p := fun _ => true) (f := f) ds [] (fun d hd => by
    obtain ⟨e2, h1, h2, h3⟩ := h d hd
    exact ⟨e2, h1, rfl, fun _ => h2, h3⟩) (by simpa using hl)]
  rw [List.filter_eq_self.mpr (fun _ _ => rfl)]
  rfl
theorem oComp_filter {mi : M (List D)} {g : GF} {tt : M Bool} {te : M D} {vs : List Nat} {e e1 : List Sl} {ds : List D} {f : D → D} {p : D → Bool} (hi : mi e = .ok ds e1)
    (h : ∀ d ∈ ds, ∃ e2, g d (wipeE e1 vs) = some e2 ∧ tt e2 = .ok (p d) e2 ∧ (p d = true → te e2 = .ok (f d) e2) ∧ wipeE e2 vs = wipeE e1 vs) (hl : ds.length ≤ LIM) :
    oComp mi g tt te vs e = .ok (.lst ((ds.filter p).map f)) (restE e1 (wipeE e1 vs) vs) := by
  unfold oComp ML.bind
  rw [hi]
  dsimp only
  rw [compL_map (p := p) (f := f) ds [] h (by simpa using hl)]
  rfl
theorem dBools_map {α : Type} (f : α → Bool) : ∀ xs : List α, dBools (xs.map fun x => PyData.bool (f x)) = some (xs.map f)
  | [] => rfl
  | x :: xs => by simp [dBools_map f xs]
theorem dInts_map {α : Type} (f : α → Int) : ∀ xs : List α, dInts (xs.map fun x => PyData.int (f x)) = some (xs.map f)
  | [] => rfl
  | x :: xs => by simp [dInts_map f xs]
theorem dStrs_map : ∀ xs : List Str, dStrs (xs.map fun x => PyData.str x) = some xs
  | [] => rfl
  | x :: xs => by simp [dStrs_map xs]
/-! ### names -/
structure Nm (z : Str) : Prop where
  lo : 1 ≤ z.length
  hi : z.length ≤ 8
  ab : ∀ c ∈ z.cps.toList, 97 ≤ c ∧ c ≤ 122
theorem letters (c : Nat) (h0 : 97 ≤ c) (h1 : c ≤ 122) : c ∈ (("abcdefghijklmnopqrstuvwxyz" : Str).cps.toList) := by
  have : ∀ c : Fin 123, 97 ≤ c.val → c.val ∈ (("abcdefghijklmnopqrstuvwxyz" : Str).cps.toList) := by decide +kernel
  exact this ⟨c, by omega⟩ h0
theorem map_rep {α β : Type} (y : β) : ∀ xs : List α, (xs.map fun _ => y) = List.replicate xs.length y
  | [] => rfl
  | x :: xs => by rw [List.map_cons, map_rep y xs]; rfl
theorem oComp_true {mi : M (List D)} {g : GF} {te : M D} {vs : List Nat} {e e1 : List Sl} {ds : List D} (hi : mi e = .ok ds e1)
    (h : ∀ d ∈ ds, ∃ e2, g d (wipeE e1 vs) = some e2 ∧ te e2 = .ok (.bool true) e2 ∧ wipeE e2 vs = wipeE e1 vs) (hl : ds.length ≤ LIM) :
    oComp mi g (ML.ret true) te vs e = .ok (.lst (List.replicate ds.length (.bool true))) (restE e1 (wipeE e1 vs) vs) := by
  rw [oComp_map (f := fun _ => .bool true) hi h hl, map_rep]
@[simp] theorem dBools_rep {n : Nat} {b : Bool} : dBools (List.replicate n (.bool b)) = some (List.replicate n b) := by
  induction n with
  | zero => rfl
  | succ n ih => rw [List.replicate_succ, List.replicate_succ]; simp [ih]
@[simp] theorem all_rep {n : Nat} : (List.replicate n true).all id = true := by
  induction n with
  | zero => rfl
  | succ n ih => rw [List.replicate_succ]; simp [ih]
theorem is_name_ok {z : Str} (h : Nm z) : F_is_name [.d (.str z)] = .ok (.d (.bool true)) [.un] := by
  have h1 : m_is_name_i2 [.d (.str z), .un] = .nx [.d (.str z), .un] := by
    have a := h.lo
    have b := h.hi
    have c : (1 : Int) ≤ (z.length : Int) := by omega
    have d : (z.length : Int) ≤ 8 := by omega
    have e : z.length ≤ 10000000 := by omega
    simp [m_is_name_i2, c, d, e]
  have h2 : ∃ n, o_is_name_1 [.d (.str z), .un] = .ok (.lst (List.replicate n (.bool true))) [.d (.str z), .un] := by
    refine ⟨_, (oComp_true (ds := z.cps.toList.map fun c => PyData.str (sign c)) (e1 := [.d (.str z), .un]) (by simp) (fun d hd => ?_) ?_).trans (by simp; rfl)⟩
    · obtain ⟨c, hc, rfl⟩ := List.mem_map.mp hd
      obtain ⟨a, b⟩ := h.ab c hc
      refine ⟨[.d (.str z), .d (.str (sign c))], by simp, ?_, by simp⟩
      have m := letters c a b
      simp [m_is_name_c1, sign]
      exact Array.mem_toList_iff.mp m
    · have := h.hi
      have e : z.cps.toList.length = z.length := by simp [Str.length]
      rw [List.length_map, e]
      show z.length ≤ 10000000
      omega
  obtain ⟨n, h2⟩ := h2
  simp [F_is_name, runBody, m_is_name, h1, h2]
def sized (x : D) (lo hi : Int) : Bool := match x with
  | .tuple xs => decide (lo ≤ xs.length) && decide ((xs.length : Int) ≤ hi)
  | _ => false
theorem is_sized_ok (x : D) (lo hi : Int) : F_is_sized [.d x, .d (.int lo), .d (.int hi)] = .ok (.d (.bool (sized x lo hi))) [.un, .un, .un] := by
  cases x with
  | tuple xs =>
    by_cases h : lo ≤ xs.length
    · simp [F_is_sized, runBody, m_is_sized, sized, h]
    · simp [F_is_sized, runBody, m_is_sized, sized, h]
  | _ => simp [F_is_sized, runBody, m_is_sized, sized]
theorem is_integer_ok (i : Int) : F_is_integer [.d (.int i)] = .ok (.d (.bool true)) [.un] := by
  simp [F_is_integer, runBody, m_is_integer]
theorem is_within_ok (i lo hi : Int) : F_is_within [.d (.int i), .d (.int lo), .d (.int hi)] = .ok (.d (.bool (decide (lo ≤ i) && decide (i ≤ hi)))) [.un, .un, .un] := by
  by_cases h : lo ≤ i
  · simp [F_is_within, runBody, m_is_within, is_integer_ok, h]
  · simp [F_is_within, runBody, m_is_within, is_integer_ok, h]
/-! ### signatures -/
abbrev Row : Type := Str × Int
abbrev rowD (p : Row) : D := .tuple [.str p.1, .int p.2]
abbrev sgD (rows : List Row) : D := .tuple (rows.map rowD)
def strLt (a b : Str) : Bool := PySem.W.dataLt (.str a) (.str b)
structure Sg (rows : List Row) : Prop where
  lo : 1 ≤ rows.length
  hi : rows.length ≤ 10
  nm : ∀ p ∈ rows, Nm p.1
  rk : ∀ p ∈ rows, p.2 = 0 ∨ p.2 = 1 ∨ p.2 = 2
  nd : (rows.map (·.1)).Nodup
  rise : ∀ i a b, rows[i]? = some a → rows[i + 1]? = some b → strLt a.1 b.1 = true
  zero : ∃ p ∈ rows, p.2 = 0
theorem ltOk_str {x y : Str} : ltOk (.str x) (.str y) = true := by
  have h : PySem.W.alike (.str x) (.str y) = true := by rw [PySem.W.alike]
  have h2 : (PyData.str x).depth ≤ MK.DEEP := by rw [PyData.depth]; decide
  unfold ltOk
  rw [h]
  simp [h2]
theorem are_rising_ok {zs : List Str} (h : ∀ i a b, zs[i]? = some a → zs[i + 1]? = some b → strLt a b = true) (hl : zs.length ≤ 100) : F_are_rising [.d (.list (zs.map PyData.str))] = .ok (.d (.bool true)) [.un] := by
  have h2 : ∃ n, o_are_rising_1 [.d (.list (zs.map PyData.str)), .un] = .ok (.lst (List.replicate n (.bool true))) [.d (.list (zs.map PyData.str)), .un] := by
    have e : ((zs.length : Int) - 1).natAbs < 4611686018427387904 := by omega
    refine ⟨_, (oComp_true (ds := (List.range ((zs.length : Int) - 1).toNat).map fun (i : Nat) => .int (0 + (i : Nat))) (e1 := [.d (.list (zs.map PyData.str)), .un]) (by simp [e]) (fun d hd => ?_) ?_).trans (by simp; rfl)⟩
    · obtain ⟨i, hi, rfl⟩ := List.mem_map.mp hd
      have hi := List.mem_range.mp hi
      refine ⟨[.d (.list (zs.map PyData.str)), .d (.int (0 + (i : Nat)))], by simp, ?_, by simp⟩
      have l1 : i < zs.length := by omega
      have l2 : i + 1 < zs.length := by omega
      have a1 : atI (zs.map PyData.str) (i : Int) = some (.str zs[i]) := by rw [atI_nat]; simp [l1]
      have a2 : atI (zs.map PyData.str) ((i : Int) + 1) = some (.str zs[i + 1]) := by
        rw [show ((i : Int) + 1) = ((i + 1 : Nat) : Int) by omega, atI_nat]; simp [l2]
      have a3 : PySem.W.dataLt (.str zs[i]) (.str zs[i + 1]) = true := h i _ _ (List.getElem?_eq_getElem l1) (List.getElem?_eq_getElem l2)
      simp [m_are_rising_c1, a1, a2, a3, ltOk_str]
    · rw [List.length_map, List.length_range]
      show _ ≤ 10000000
      omega
  obtain ⟨n, h2⟩ := h2
  simp [F_are_rising, runBody, m_are_rising, h2]
def lab1 : D → D
  | .tuple [.str z, _] => .str z
  | _ => .none
theorem sig_rows {rows : List Row} (S : Sg rows) {d : D} (hd : d ∈ rows.map rowD) : ∃ z r, d = .tuple [.str z, .int r] ∧ Nm z ∧ 0 ≤ r ∧ r ≤ 2 := by
  obtain ⟨p, hp, rfl⟩ := List.mem_map.mp hd
  have := S.rk p hp
  exact ⟨p.1, p.2, rfl, S.nm p hp, by omega, by omega⟩
theorem is_signature_ok {rows : List Row} (S : Sg rows) : F_is_signature [.d (sgD rows)] = .ok (.d (.bool true)) [.un] := by
  have hl : (rows.map rowD).length ≤ LIM := by
    rw [List.length_map]
    have := S.hi
    show _ ≤ 10000000
    omega
  have o4 : ∃ n, o_is_signature_4 [.d (sgD rows), .un] = .ok (.lst (List.replicate n (.bool true))) [.d (sgD rows), .un] := by
    refine ⟨_, (oComp_true (ds := rows.map rowD) (e1 := [.d (sgD rows), .un]) (by simp) (fun d hd => ?_) hl).trans (by simp; rfl)⟩
    obtain ⟨z, r, rfl, n, r0, r1⟩ := sig_rows S hd
    exact ⟨[.d (sgD rows), .d (.tuple [.str z, .int r])], by simp, by simp [m_is_signature_c4, is_sized_ok, sized], by simp⟩
  have o2 : ∃ n, o_is_signature_2 [.d (sgD rows), .un] = .ok (.lst (List.replicate n (.bool true))) [.d (sgD rows), .un] := by
    refine ⟨_, (oComp_true (ds := rows.map rowD) (e1 := [.d (sgD rows), .un]) (by simp) (fun d hd => ?_) hl).trans (by simp; rfl)⟩
    obtain ⟨z, r, rfl, n, r0, r1⟩ := sig_rows S hd
    exact ⟨[.d (sgD rows), .d (.tuple [.str z, .int r])], by simp, by simp [m_is_signature_c2, is_name_ok n, is_within_ok, r0, r1], by simp⟩
  have o1 : o_is_signature_1 [.d (sgD rows), .un] = .ok (.lst ((rows.map (·.1)).map PyData.str)) [.d (sgD rows), .un] := by
    have f : (rows.map rowD).map lab1 = (rows.map (·.1)).map PyData.str := by
      rw [List.map_map, List.map_map]
      rfl
    rw [← f]
    refine (oComp_map (f := lab1) (ds := rows.map rowD) (e1 := [.d (sgD rows), .un]) (by simp) (fun d hd => ?_) hl).trans (by simp)
    obtain ⟨z, r, rfl, n, r0, r1⟩ := sig_rows S hd
    exact ⟨[.d (sgD rows), .d (.tuple [.str z, .int r])], by simp, by simp [m_is_signature_c1, lab1], by simp⟩
  obtain ⟨n4, o4⟩ := o4
  obtain ⟨n2, o2⟩ := o2
  have hs : sized (sgD rows) 1 10 = true := by
    have a := S.lo
    have b := S.hi
    simp [sized]
    omega
  have i5 : m_is_signature_i5 [.d (sgD rows), .un] = .nx [.d (sgD rows), .un] := by
    simp [m_is_signature_i5, is_sized_ok, hs, o4]
  have i3 : m_is_signature_i3 [.d (sgD rows), .un] = .nx [.d (sgD rows), .un] := by
    simp [m_is_signature_i3, o2]
  have ar := are_rising_ok (zs := rows.map (·.1)) (fun i a b h1 h2 => by
    rw [List.getElem?_map] at h1 h2
    obtain ⟨p, hp, rfl⟩ := Option.map_eq_some_iff.mp h1
    obtain ⟨q, hq, rfl⟩ := Option.map_eq_some_iff.mp h2
    exact S.rise i p q hp hq) (by rw [List.length_map]; have := S.hi; omega)
  simp only [F_is_signature, runBody, m_is_signature, List.length_cons, List.length_nil, Nat.zero_add, if_true, List.cons_append, List.nil_append, List.replicate]
  rw [sSeq_e, i5]
  dsimp only
  rw [sSeq_e, i3]
  simp only [sRet_e, xS_e, eRv_e, bind_e, callM_e, aD_e, eO_e, o1]
  simp at ar ⊢
  simp [ar]
end K74
end

section
set_option Elab.async false
set_option linter.all false
set_option maxRecDepth 100000
set_option maxHeartbeats 4000000
/-! # Trees -/
namespace K74
open PySem L2 ML
inductive Tr where
  | t0 (l : Str)
  | t1 (l : Str) (a : Tr)
  | t2 (l : Str) (a b : Tr)
def Tr.lab : Tr → Str
  | .t0 l => l
  | .t1 l _ => l
  | .t2 l _ _ => l
def Tr.parts : Tr → List Tr
  | .t0 _ => []
  | .t1 _ a => [a]
  | .t2 _ a b => [a, b]
def Tr.enc : Tr → D
  | .t0 l => .tuple [.str l, .tuple []]
  | .t1 l a => .tuple [.str l, .tuple [a.enc]]
  | .t2 l a b => .tuple [.str l, .tuple [a.enc, b.enc]]
def Tr.size : Tr → Nat
  | .t0 _ => 1
  | .t1 _ a => 1 + a.size
  | .t2 _ a b => 1 + a.size + b.size
def Tr.ok (rows : List Row) : Tr → Prop
  | .t0 l => (l, 0) ∈ rows
  | .t1 l a => (l, 1) ∈ rows ∧ a.ok rows
  | .t2 l a b => (l, 2) ∈ rows ∧ a.ok rows ∧ b.ok rows
theorem enc_eq (t : Tr) : t.enc = .tuple [.str t.lab, .tuple (t.parts.map Tr.enc)] := by cases t <;> rfl
def total (ts : List Tr) : Nat := (ts.map Tr.size).sum
theorem size_eq (t : Tr) : t.size = 1 + total t.parts := by
  cases t <;> simp [Tr.size, total, Tr.parts]
  omega
theorem ok_lab {rows : List Row} {t : Tr} (h : t.ok rows) : (t.lab, (t.parts.length : Int)) ∈ rows := by
  cases t with
  | t0 l => exact h
  | t1 l a => exact h.1
  | t2 l a b => exact h.1
theorem ok_parts {rows : List Row} {t : Tr} (h : t.ok rows) : ∀ p ∈ t.parts, p.ok rows := by
  cases t with
  | t0 l => intro p hp; cases hp
  | t1 l a => intro p hp; rw [List.mem_singleton.mp hp]; exact h.2
  | t2 l a b =>
    intro p hp
    rcases List.mem_cons.mp hp with rfl | hp
    · exact h.2.1
    · rw [List.mem_singleton.mp hp]; exact h.2.2
theorem parts_len (t : Tr) : t.parts.length ≤ 2 := by cases t <;> simp [Tr.parts]
theorem size_pos (t : Tr) : 1 ≤ t.size := by rw [size_eq]; omega
/-! ### the dict of a signature -/
abbrev kvs (rows : List Row) : List (Key × D) := rows.map fun p => (Sum.inr p.1, .int p.2)
theorem pairs_ok : ∀ rows : List Row, pairsD (rows.map rowD) = some (kvs rows)
  | [] => rfl
  | p :: r => by simp [pairs_ok r]
theorem sigD_ok {rows : List Row} (h : 1 ≤ rows.length) : sigD (rows.map rowD) = true := by
  unfold sigD
  cases rows with
  | nil => simp at h
  | cons p r => simp
theorem val_ok : ∀ {rows : List Row} {z : Str} {r : Int}, (rows.map (·.1)).Nodup → (z, r) ∈ rows → valD (kvs rows) (Sum.inr z) = some (.int r)
  | p :: rows, z, r, nd, h => by
    rw [List.map_cons, List.nodup_cons] at nd
    rcases List.mem_cons.mp h with h | h
    · subst h
      simp [valD]
    · have ne : p.1 ≠ z := fun e => nd.1 (by rw [e]; exact List.mem_map_of_mem (f := (·.1)) h)
      have ih := val_ok nd.2 h
      have e : valD (kvs (p :: rows)) (Sum.inr z) = valD (kvs rows) (Sum.inr z) := by
        show ((List.find? (fun kv => decide (kv.1 = Sum.inr z)) (((Sum.inr p.1 : Key), (PyData.int p.2 : D)) :: kvs rows)).map (·.2)) = _
        rw [List.find?_cons]
        have h2 : decide ((Sum.inr p.1 : Key) = Sum.inr z) = false := decide_eq_false (fun q => ne (Sum.inr.inj q))
        simp only [h2]
        rfl
      rw [e]; exact ih
theorem nodup_ok : ∀ {rows : List Row}, (rows.map (·.1)).Nodup → nodupK (kvs rows) = true
  | [], _ => rfl
  | p :: rows, nd => by
    rw [List.map_cons, List.nodup_cons] at nd
    have ih := nodup_ok nd.2
    show ((kvs rows).all (fun q => decide (q.1 ≠ (Sum.inr p.1 : Key))) && nodupK (kvs rows)) = true
    rw [ih, Bool.and_true, List.all_eq_true]
    intro q hq
    obtain ⟨x, hx, rfl⟩ := List.mem_map.mp hq
    exact decide_eq_true (fun z => nd.1 (by rw [← Sum.inr.inj z]; exact List.mem_map_of_mem (f := (·.1)) hx))
theorem dict_ok {rows : List Row} (S : Sg rows) : dictOf (sgD rows) = some (.dct (kvs rows)) := by
  show (if sigD (rows.map rowD) = true then (pairsD (rows.map rowD)).bind fun k => if nodupK k = true then some (Ob.dct k) else none else none) = _
  rw [if_pos (sigD_ok S.lo), pairs_ok]
  show (if nodupK (kvs rows) = true then some (Ob.dct (kvs rows)) else none) = _
  rw [if_pos (nodup_ok S.nd)]
@[simp] theorem LIM_e : LIM = 10000000 := rfl
theorem len_total : ∀ ts : List Tr, ts.length ≤ total ts
  | [] => Nat.le_refl _
  | t :: ts => by
    have := len_total ts
    have h := size_pos t
    simp [total] at this ⊢
    omega
/-! ### is it a tree -/
theorem tree_i2 {rows : List Row} (S : Sg rows) {t : Tr} (h : t.ok rows) (a b w : Sl) : m_raw_is_tree_i2 [a, b, .o true (.dct (kvs rows)), w, .d t.enc] = .nx [a, b, .o true (.dct (kvs rows)), w, .d t.enc] := by
  have v := val_ok S.nd (ok_lab h)
  have hs : sized t.enc 2 2 = true := by rw [enc_eq]; rfl
  have e := enc_eq t
  simp [m_raw_is_tree_i2, is_sized_ok, hs]
  rw [e]
  simp [v]
theorem tree_i1 {rows : List Row} (S : Sg rows) {t : Tr} (h : t.ok rows) (a b w : Sl) : m_raw_is_tree_i1 [a, b, .o true (.dct (kvs rows)), w, .d t.enc] = .nx [a, b, .o true (.dct (kvs rows)), w, .d t.enc] := by
  have v := val_ok S.nd (ok_lab h)
  have hs : sized (.tuple (t.parts.map Tr.enc)) t.parts.length t.parts.length = true := by simp [sized]
  have e := enc_eq t
  rw [e]
  simp [m_raw_is_tree_i1, v, is_sized_ok, hs]
theorem tree_b3 {rows : List Row} (S : Sg rows) {ts : List Tr} {t : Tr} (h : t.ok rows) (hl : ts.length ≤ 1000) (a b : Sl) :
    m_raw_is_tree_b3 [a, b, .o true (.dct (kvs rows)), .o true (.lst ((ts ++ [t]).map Tr.enc)), .un] = .nx [a, b, .o true (.dct (kvs rows)), .o true (.lst ((ts ++ t.parts).map Tr.enc)), .un] := by
  have i2 := tree_i2 S h a b (.o true (.lst (ts.map Tr.enc)))
  have i1 := tree_i1 S h a b (.o true (.lst (ts.map Tr.enc)))
  have pl := parts_len t
  have hl2 : ts.length + t.parts.length ≤ 10000000 := by omega
  simp [m_raw_is_tree_b3, i2, i1]
  rw [enc_eq t]
  simp [hl2]
theorem tree_loop {rows : List Row} (S : Sg rows) (a b : Sl) : ∀ (n : Nat) (ts : List Tr), (∀ t ∈ ts, t.ok rows) → total ts < n → n ≤ 1000 →
    whileL (b2 gGt (qD (eBlt bLen (aR 3 aNil))) (qD (eC (.int 0)))) m_raw_is_tree_b3 n [a, b, .o true (.dct (kvs rows)), .o true (.lst (ts.map Tr.enc)), .un] = .nx [a, b, .o true (.dct (kvs rows)), .o true (.lst []), .un] := by
  intro n
  induction n with
  | zero => intro ts _ h; omega
  | succ n ih =>
    intro ts ok h hn
    rcases List.eq_nil_or_concat ts with rfl | ⟨us, t, rfl⟩
    · simp [whileL]
    · rw [List.concat_eq_append] at ok h ⊢
      have hs := size_eq t
      have e1 : total (us ++ [t]) = total us + t.size := by simp [total]
      have e2 : total (us ++ t.parts) = total us + total t.parts := by simp [total]
      have lu : us.length ≤ total us := len_total us
      have hb := tree_b3 S (ok t (by simp)) (ts := us) (by omega) a b
      have hi := ih (us ++ t.parts) (fun x hx => by
        rcases List.mem_append.mp hx with z | z
        · exact ok x (by simp [z])
        · exact ok_parts (ok t (by simp)) x z) (by omega) (by omega)
      rw [whileL]
      have ht : b2 gGt (qD (eBlt bLen (aR 3 aNil))) (qD (eC (.int 0))) [a, b, .o true (.dct (kvs rows)), .o true (.lst ((us ++ [t]).map Tr.enc)), .un] = .ok true [a, b, .o true (.dct (kvs rows)), .o true (.lst ((us ++ [t]).map Tr.enc)), .un] := by
        simp
      rw [ht]
      dsimp only
      rw [hb]
      exact hi
theorem whileL_more {t : M Bool} {mb : MStm} {e' : List Sl} : ∀ (n m : Nat) (e : List Sl), n ≤ m → whileL t mb n e = .nx e' → whileL t mb m e = .nx e' := by
  intro n
  induction n with
  | zero => intro m e _ h; cases h
  | succ n ih =>
    intro m e hm h
    obtain ⟨m', rfl⟩ : ∃ m', m = m' + 1 := ⟨m - 1, by omega⟩
    rw [whileL] at h ⊢
    cases ht : t e with
    | ok b e1 =>
      rw [ht] at h
      cases b with
      | true =>
        dsimp only at h ⊢
        cases hb : mb e1 with
        | nx e2 => rw [hb] at h; exact ih m' e2 (by omega) h
        | ct e2 => rw [hb] at h; exact ih m' e2 (by omega) h
        | bk e2 => rw [hb] at h; exact h
        | rt r e2 => rw [hb] at h; cases h
        | ex c e2 => rw [hb] at h; cases h
        | bad => rw [hb] at h; cases h
      | false => exact h
    | ex c e1 => rw [ht] at h; cases h
    | bad => rw [ht] at h; cases h
theorem raw_is_tree_ok {rows : List Row} (S : Sg rows) {t : Tr} (h : t.ok rows) (hs : t.size ≤ 100) : F_raw_is_tree [.d (sgD rows), .d t.enc] = .ok (.d (.bool true)) [.un, .un] := by
  have w := tree_loop S (.d (sgD rows)) (.d t.enc) 200 [t] (fun x hx => by rw [List.mem_singleton.mp hx]; exact h) (by simp [total]; omega) (by omega)
  have w2 := whileL_more 200 20000 _ (by omega) w
  have d := dict_ok S
  simp [F_raw_is_tree, runBody, m_raw_is_tree, m_raw_is_tree_w4] at d w2 ⊢
  simp [d, w2]
/-! ### how many nodes -/
theorem nodes_b1 {ts : List Tr} {t : Tr} (hl : ts.length ≤ 1000) (a : Sl) (n : Int) :
    m_raw_nodes_many_b1 [a, .d (.int n), .o true (.lst ((ts ++ [t]).map Tr.enc))] = .nx [a, .d (.int (n + 1)), .o true (.lst ((ts ++ t.parts).map Tr.enc))] := by
  have pl := parts_len t
  have hl2 : ts.length + t.parts.length ≤ 10000000 := by omega
  rw [List.map_append, List.map_singleton, enc_eq t]
  simp [m_raw_nodes_many_b1, hl2]
theorem nodes_loop (a : Sl) : ∀ (k : Nat) (n : Int) (ts : List Tr), total ts < k → k ≤ 1000 →
    whileL (b2 gGt (qD (eBlt bLen (aR 2 aNil))) (qD (eC (.int 0)))) m_raw_nodes_many_b1 k [a, .d (.int n), .o true (.lst (ts.map Tr.enc))] = .nx [a, .d (.int (n + total ts)), .o true (.lst [])] := by
  intro k
  induction k with
  | zero => intro n ts h; omega
  | succ k ih =>
    intro n ts h hk
    rcases List.eq_nil_or_concat ts with rfl | ⟨us, t, rfl⟩
    · simp [whileL, total]
    · rw [List.concat_eq_append] at h ⊢
      have hs := size_eq t
      have e1 : total (us ++ [t]) = total us + t.size := by simp [total]
      have e2 : total (us ++ t.parts) = total us + total t.parts := by simp [total]
      have lu : us.length ≤ total us := len_total us
      have hb := nodes_b1 (ts := us) (t := t) (by omega) a n
      have hi := ih (n + 1) (us ++ t.parts) (by omega) (by omega)
      rw [whileL]
      have ht : b2 gGt (qD (eBlt bLen (aR 2 aNil))) (qD (eC (.int 0))) [a, .d (.int n), .o true (.lst ((us ++ [t]).map Tr.enc))] = .ok true [a, .d (.int n), .o true (.lst ((us ++ [t]).map Tr.enc))] := by
        simp
      rw [ht]
      dsimp only
      rw [hb]
      dsimp only
      rw [hi]
      have e3 : n + 1 + ((total (us ++ t.parts) : Nat) : Int) = n + ((total (us ++ [t]) : Nat) : Int) := by omega
      rw [e3]
theorem raw_nodes_ok {t : Tr} (hs : t.size ≤ 100) : F_raw_nodes_many [.d t.enc] = .ok (.d (.int t.size)) [.un] := by
  have w := nodes_loop (.d t.enc) 200 0 [t] (by simp [total]; omega) (by omega)
  have w2 := whileL_more 200 20000 _ (by omega) w
  have e : (total [t] : Nat) = t.size := by simp [total]
  rw [e] at w2
  simp at w2
  simp [F_raw_nodes_many, runBody, m_raw_nodes_many, m_raw_nodes_many_w2, w2]
/-! ### refused -/
/-- no tree of any signature, by its look -/
def noTree (x : D) : Bool := !sized x 2 2
theorem raw_is_tree_no {rows : List Row} (S : Sg rows) {x : D} (h : sized x 2 2 = false) : F_raw_is_tree [.d (sgD rows), .d x] = .ok (.d (.bool false)) [.un, .un] := by
  have d := dict_ok S
  have i2 : m_raw_is_tree_i2 [.d (sgD rows), .d x, .o true (.dct (kvs rows)), .o true (.lst []), .d x] = .rt (.d (.bool false)) [.d (sgD rows), .d x, .o true (.dct (kvs rows)), .o true (.lst []), .d x] := by
    simp [m_raw_is_tree_i2, is_sized_ok, h]
  have b : m_raw_is_tree_b3 [.d (sgD rows), .d x, .o true (.dct (kvs rows)), .o true (.lst [x]), .un] = .rt (.d (.bool false)) [.d (sgD rows), .d x, .o true (.dct (kvs rows)), .o true (.lst []), .d x] := by
    simp [m_raw_is_tree_b3, i2]
  have w : whileL (b2 gGt (qD (eBlt bLen (aR 3 aNil))) (qD (eC (.int 0)))) m_raw_is_tree_b3 20000 [.d (sgD rows), .d x, .o true (.dct (kvs rows)), .o true (.lst [x]), .un] = .rt (.d (.bool false)) [.d (sgD rows), .d x, .o true (.dct (kvs rows)), .o true (.lst []), .d x] := by
    rw [whileL]
    have ht : b2 gGt (qD (eBlt bLen (aR 3 aNil))) (qD (eC (.int 0))) [.d (sgD rows), .d x, .o true (.dct (kvs rows)), .o true (.lst [x]), .un] = .ok true [.d (sgD rows), .d x, .o true (.dct (kvs rows)), .o true (.lst [x]), .un] := by simp
    rw [ht]
    dsimp only
    rw [b]
  simp [F_raw_is_tree, runBody, m_raw_is_tree, m_raw_is_tree_w4] at d w ⊢
  simp [d, w]
theorem check_tree_ok {rows : List Row} (S : Sg rows) {t : Tr} (h : t.ok rows) (hs : t.size ≤ 100) : F_check_tree [.d (sgD rows), .d t.enc] = .ok (.d .none) [.un, .un] := by
  simp [F_check_tree, runBody, m_check_tree, m_check_tree_i1, raw_is_tree_ok S h hs]
theorem check_tree_no {rows : List Row} (S : Sg rows) {x : D} (h : sized x 2 2 = false) : F_check_tree [.d (sgD rows), .d x] = .ex "NoTree" [.un, .un] := by
  simp [F_check_tree, runBody, m_check_tree, m_check_tree_i1, raw_is_tree_no S h]
theorem check_sig_ok {rows : List Row} (S : Sg rows) : F_check_signature [.d (sgD rows)] = .ok (.d .none) [.un] := by
  simp [F_check_signature, runBody, m_check_signature, m_check_signature_i1, is_signature_ok S]
theorem check_sig_no {x : D} (h : sized x 1 10 = false) : F_check_signature [.d x] = .ex "NoSignature" [.un] := by
  have i5 : m_is_signature_i5 [.d x, .un] = .rt (.d (.bool false)) [.d x, .un] := by
    simp [m_is_signature_i5, is_sized_ok, h]
  have f : F_is_signature [.d x] = .ok (.d (.bool false)) [.un] := by
    simp [F_is_signature, runBody, m_is_signature, i5]
  simp [F_check_signature, runBody, m_check_signature, m_check_signature_i1, f]
theorem check_both_ok {rows : List Row} (S : Sg rows) {t : Tr} (h : t.ok rows) (hs : t.size ≤ 100) : F_check_both [.d (sgD rows), .d t.enc] = .ok (.d .none) [.un, .un] := by
  simp [F_check_both, runBody, m_check_both, check_sig_ok S, check_tree_ok S h hs]
theorem check_both_sig {x y : D} (h : sized x 1 10 = false) : F_check_both [.d x, .d y] = .ex "NoSignature" [.un, .un] := by
  simp [F_check_both, runBody, m_check_both, check_sig_no h]
theorem check_both_tree {rows : List Row} (S : Sg rows) {x : D} (h : sized x 2 2 = false) : F_check_both [.d (sgD rows), .d x] = .ex "NoTree" [.un, .un] := by
  simp [F_check_both, runBody, m_check_both, check_sig_ok S, check_tree_no S h]
end K74
end

section
set_option Elab.async false
set_option linter.all false
set_option maxRecDepth 100000
set_option maxHeartbeats 4000000
/-! # Changes, walks, places: plain -/
namespace K74
open PySem L2 ML
/-- 1 for unlike labels -/
def df (l m : Str) : Nat := if l = m then 0 else 1
theorem df_self (l : Str) : df l l = 0 := if_pos rfl
theorem df_comm (l m : Str) : df l m = df m l := by
  unfold df
  by_cases h : l = m
  · rw [if_pos h, if_pos h.symm]
  · rw [if_neg h, if_neg (fun z => h z.symm)]
theorem df_le (l m : Str) : df l m ≤ 1 := by
  unfold df
  split <;> omega
theorem df_tri (l m k : Str) : df l k ≤ df l m + df m k := by
  unfold df
  by_cases h : l = m
  · subst h
    split <;> simp
  · rw [if_neg h]
    split <;> omega
theorem df_zero {l m : Str} : df l m = 0 ↔ l = m := by
  unfold df
  split
  · rename_i h; exact ⟨fun _ => h, fun _ => rfl⟩
  · rename_i h; exact ⟨fun z => absurd z (by omega), fun z => absurd z h⟩
theorem df_ne {l m : Str} (h : l ≠ m) : df l m = 1 := if_neg h
def chT : Tr → Tr → Option Nat
  | .t0 l, .t0 m => some (df l m)
  | .t1 l a, .t1 m b => (chT a b).map fun n => df l m + n
  | .t2 l a b, .t2 m c d => (chT a c).bind fun n => (chT b d).map fun k => df l m + n + k
  | _, _ => none
theorem ch1 {l m : Str} {a b : Tr} {n : Nat} (h : chT (.t1 l a) (.t1 m b) = some n) : ∃ k, chT a b = some k ∧ n = df l m + k := by
  unfold chT at h
  obtain ⟨k, h1, h2⟩ := Option.map_eq_some_iff.mp h
  exact ⟨k, h1, h2.symm⟩
theorem ch2 {l m : Str} {a b c d : Tr} {n : Nat} (h : chT (.t2 l a b) (.t2 m c d) = some n) : ∃ k j, chT a c = some k ∧ chT b d = some j ∧ n = df l m + k + j := by
  unfold chT at h
  obtain ⟨k, h1, h2⟩ := Option.bind_eq_some_iff.mp h
  obtain ⟨j, h3, h4⟩ := Option.map_eq_some_iff.mp h2
  exact ⟨k, j, h1, h3, h4.symm⟩
theorem ch1m {l m : Str} {a b : Tr} {k : Nat} (h : chT a b = some k) : chT (.t1 l a) (.t1 m b) = some (df l m + k) := by
  unfold chT
  rw [h]; rfl
theorem ch2m {l m : Str} {a b c d : Tr} {k j : Nat} (h : chT a c = some k) (h2 : chT b d = some j) : chT (.t2 l a b) (.t2 m c d) = some (df l m + k + j) := by
  unfold chT
  rw [h, h2]; rfl
theorem chT_self : ∀ t : Tr, chT t t = some 0
  | .t0 l => by unfold chT; rw [df_self]
  | .t1 l a => by rw [ch1m (chT_self a), df_self]
  | .t2 l a b => by rw [ch2m (chT_self a) (chT_self b), df_self]
theorem chT_comm : ∀ t u : Tr, chT t u = chT u t
  | .t0 l, .t0 m => by unfold chT; rw [df_comm]
  | .t1 l a, .t1 m b => by
    unfold chT
    rw [chT_comm a b, df_comm]
  | .t2 l a b, .t2 m c d => by
    unfold chT
    rw [chT_comm a c, chT_comm b d, df_comm]
  | .t0 _, .t1 _ _ => rfl
  | .t0 _, .t2 _ _ _ => rfl
  | .t1 _ _, .t0 _ => rfl
  | .t1 _ _, .t2 _ _ _ => rfl
  | .t2 _ _ _, .t0 _ => rfl
  | .t2 _ _ _, .t1 _ _ => rfl
def Tr.deep : Tr → Nat
  | .t0 _ => 1
  | .t1 _ a => 1 + a.deep
  | .t2 _ a b => 1 + max a.deep b.deep
def Tr.walk : Tr → List (List Nat × Tr)
  | .t0 l => [([], .t0 l)]
  | .t1 l a => ([], .t1 l a) :: a.walk.map fun w => (0 :: w.1, w.2)
  | .t2 l a b => ([], .t2 l a b) :: ((a.walk.map fun w => (0 :: w.1, w.2)) ++ b.walk.map fun w => (1 :: w.1, w.2))
def Tr.paths (t : Tr) : List (List Nat) := t.walk.map (·.1)
theorem paths0 (l : Str) : (Tr.t0 l).paths = [[]] := rfl
theorem paths1 (l : Str) (a : Tr) : (Tr.t1 l a).paths = [] :: a.paths.map (0 :: ·) := by
  unfold Tr.paths
  rw [Tr.walk, List.map_cons, List.map_map, List.map_map]; rfl
theorem paths2 (l : Str) (a b : Tr) : (Tr.t2 l a b).paths = [] :: (a.paths.map (0 :: ·) ++ b.paths.map (1 :: ·)) := by
  unfold Tr.paths
  rw [Tr.walk, List.map_cons, List.map_append, List.map_map, List.map_map, List.map_map, List.map_map]; rfl
structure Like (t u : Tr) (n : Nat) : Prop where
  size : t.size = u.size
  le : n ≤ t.size
  deep : t.deep = u.deep
  paths : t.paths = u.paths
  zero : n = 0 ↔ t = u
theorem like : ∀ (t u : Tr) (n : Nat), chT t u = some n → Like t u n
  | .t0 l, .t0 m, n, h => by
    unfold chT at h
    cases h
    exact ⟨rfl, df_le l m, rfl, rfl, df_zero.trans ⟨fun z => by rw [z], fun z => by injection z⟩⟩
  | .t1 l a, .t1 m b, n, h => by
    obtain ⟨k, h1, rfl⟩ := ch1 h
    have i := like a b k h1
    have d := df_le l m
    refine ⟨?_, ?_, ?_, ?_, ?_⟩
    · rw [Tr.size, Tr.size]; rw [i.size]
    · have := i.le
      simp only [Tr.size]; omega
    · rw [Tr.deep, Tr.deep]; rw [i.deep]
    · rw [paths1, paths1, i.paths]
    · constructor
      · intro z
        have z1 : df l m = 0 := by omega
        rw [df_zero.mp z1, i.zero.mp (by omega)]
      · intro z
        injection z with z1 z2
        rw [z1, df_self, i.zero.mpr z2]
  | .t2 l a b, .t2 m c d, n, h => by
    obtain ⟨k, j, h1, h2, rfl⟩ := ch2 h
    have i := like a c k h1
    have i2 := like b d j h2
    have dl := df_le l m
    refine ⟨?_, ?_, ?_, ?_, ?_⟩
    · rw [Tr.size, Tr.size]; rw [i.size, i2.size]
    · have := i.le
      have := i2.le
      simp only [Tr.size]; omega
    · rw [Tr.deep, Tr.deep]; rw [i.deep, i2.deep]
    · rw [paths2, paths2, i.paths, i2.paths]
    · constructor
      · intro z
        have z1 : df l m = 0 := by omega
        rw [df_zero.mp z1, i.zero.mp (by omega), i2.zero.mp (by omega)]
      · intro z
        injection z with z1 z2 z3
        rw [z1, df_self, i.zero.mpr z2, i2.zero.mpr z3]
  | .t0 _, .t1 _ _, _, h => by cases h
  | .t0 _, .t2 _ _ _, _, h => by cases h
  | .t1 _ _, .t0 _, _, h => by cases h
  | .t1 _ _, .t2 _ _ _, _, h => by cases h
  | .t2 _ _ _, .t0 _, _, h => by cases h
  | .t2 _ _ _, .t1 _ _, _, h => by cases h
theorem tri : ∀ (t u v : Tr) (n k : Nat), chT t u = some n → chT u v = some k → ∃ m, chT t v = some m ∧ m ≤ n + k
  | .t0 l, .t0 m, .t0 p, n, k, h1, h2 => by
    unfold chT at h1 h2
    cases h1; cases h2
    exact ⟨df l p, by unfold chT; rfl, df_tri l m p⟩
  | .t1 l a, .t1 m b, .t1 p c, n, k, h1, h2 => by
    obtain ⟨n', e1, rfl⟩ := ch1 h1
    obtain ⟨k', e2, rfl⟩ := ch1 h2
    obtain ⟨j, e3, le⟩ := tri a b c _ _ e1 e2
    have := df_tri l m p
    exact ⟨_, ch1m e3, by omega⟩
  | .t2 l a a', .t2 m b b', .t2 p c c', n, k, h1, h2 => by
    obtain ⟨n1, n2, e1, f1, rfl⟩ := ch2 h1
    obtain ⟨k1, k2, e2, f2, rfl⟩ := ch2 h2
    obtain ⟨j, e3, le⟩ := tri a b c _ _ e1 e2
    obtain ⟨j2, f3, le2⟩ := tri a' b' c' _ _ f1 f2
    have := df_tri l m p
    exact ⟨_, ch2m e3 f3, by omega⟩
  | .t0 _, .t1 _ _, _, _, _, h, _ => by cases h
  | .t0 _, .t2 _ _ _, _, _, _, h, _ => by cases h
  | .t1 _ _, .t0 _, _, _, _, h, _ => by cases h
  | .t1 _ _, .t2 _ _ _, _, _, _, h, _ => by cases h
  | .t2 _ _ _, .t0 _, _, _, _, h, _ => by cases h
  | .t2 _ _ _, .t1 _ _, _, _, _, h, _ => by cases h
  | .t0 _, .t0 _, .t1 _ _, _, _, _, h => by cases h
  | .t0 _, .t0 _, .t2 _ _ _, _, _, _, h => by cases h
  | .t1 _ _, .t1 _ _, .t0 _, _, _, _, h => by cases h
  | .t1 _ _, .t1 _ _, .t2 _ _ _, _, _, _, h => by cases h
  | .t2 _ _ _, .t2 _ _ _, .t0 _, _, _, _, h => by cases h
  | .t2 _ _ _, .t2 _ _ _, .t1 _ _, _, _, _, h => by cases h
/-! ### places -/
inductive At : Tr → List Nat → Tr → Prop where
  | nil (t : Tr) : At t [] t
  | a1 {l : Str} {a x : Tr} {p : List Nat} (h : At a p x) : At (.t1 l a) (0 :: p) x
  | a2 {l : Str} {a b x : Tr} {p : List Nat} (h : At a p x) : At (.t2 l a b) (0 :: p) x
  | b2 {l : Str} {a b x : Tr} {p : List Nat} (h : At b p x) : At (.t2 l a b) (1 :: p) x
def labAt : List Nat → Tr → Str
  | [], t => t.lab
  | 0 :: p, .t1 _ a => labAt p a
  | 0 :: p, .t2 _ a _ => labAt p a
  | 1 :: p, .t2 _ _ b => labAt p b
  | _, _ => ("" : Str)
def put : List Nat → Tr → Tr → Tr
  | [], _, x => x
  | 0 :: p, .t1 l a, x => .t1 l (put p a x)
  | 0 :: p, .t2 l a b, x => .t2 l (put p a x) b
  | 1 :: p, .t2 l a b, x => .t2 l a (put p b x)
  | _, t, _ => t
def Tr.setLab : Tr → Str → Tr
  | .t0 _, s => .t0 s
  | .t1 _ a, s => .t1 s a
  | .t2 _ a b, s => .t2 s a b
theorem walk_at : ∀ (t : Tr) (p : List Nat) (x : Tr), (p, x) ∈ t.walk → At t p x
  | .t0 l, p, x, h => by
    unfold Tr.walk at h
    cases List.mem_singleton.mp h
    exact .nil _
  | .t1 l a, p, x, h => by
    unfold Tr.walk at h
    rcases List.mem_cons.mp h with h | h
    · cases h; exact .nil _
    · obtain ⟨w, hw, e⟩ := List.mem_map.mp h
      cases e
      exact .a1 (walk_at a w.1 w.2 hw)
  | .t2 l a b, p, x, h => by
    unfold Tr.walk at h
    rcases List.mem_cons.mp h with h | h
    · cases h; exact .nil _
    · rcases List.mem_append.mp h with h | h
      · obtain ⟨w, hw, e⟩ := List.mem_map.mp h
        cases e
        exact .a2 (walk_at a w.1 w.2 hw)
      · obtain ⟨w, hw, e⟩ := List.mem_map.mp h
        cases e
        exact .b2 (walk_at b w.1 w.2 hw)
theorem at_walk {t : Tr} {p : List Nat} {x : Tr} (h : At t p x) : (p, x) ∈ t.walk := by
  induction h with
  | nil t => cases t <;> (unfold Tr.walk; exact List.mem_cons_self)
  | a1 h ih => unfold Tr.walk; exact List.mem_cons_of_mem _ (List.mem_map.mpr ⟨_, ih, rfl⟩)
  | a2 h ih => unfold Tr.walk; exact List.mem_cons_of_mem _ (List.mem_append_left _ (List.mem_map.mpr ⟨_, ih, rfl⟩))
  | b2 h ih => unfold Tr.walk; exact List.mem_cons_of_mem _ (List.mem_append_right _ (List.mem_map.mpr ⟨_, ih, rfl⟩))
theorem path_at {t : Tr} {p : List Nat} (h : p ∈ t.paths) : ∃ x, At t p x := by
  obtain ⟨w, hw, rfl⟩ := List.mem_map.mp h
  exact ⟨w.2, walk_at t w.1 w.2 hw⟩
theorem at_path {t : Tr} {p : List Nat} {x : Tr} (h : At t p x) : p ∈ t.paths := List.mem_map.mpr ⟨_, at_walk h, rfl⟩
theorem at_lab {t : Tr} {p : List Nat} {x : Tr} (h : At t p x) : labAt p t = x.lab := by
  induction h with
  | nil t => simp [labAt, Tr.lab]
  | a1 h ih => rw [labAt]; exact ih
  | a2 h ih => rw [labAt]; exact ih
  | b2 h ih => rw [labAt]; exact ih
theorem at_ok {rows : List Row} {t : Tr} {p : List Nat} {x : Tr} (h : At t p x) (o : t.ok rows) : x.ok rows := by
  induction h with
  | nil t => exact o
  | a1 h ih => exact ih o.2
  | a2 h ih => exact ih o.2.1
  | b2 h ih => exact ih o.2.2
theorem put_ok {rows : List Row} {t : Tr} {p : List Nat} {x y : Tr} (h : At t p x) (o : t.ok rows) (oy : y.ok rows) : (put p t y).ok rows := by
  induction h with
  | nil t => exact oy
  | a1 h ih => rw [put]; exact ⟨o.1, ih o.2⟩
  | a2 h ih => rw [put]; exact ⟨o.1, ih o.2.1, o.2.2⟩
  | b2 h ih => rw [put]; exact ⟨o.1, o.2.1, ih o.2.2⟩
theorem at_size {t : Tr} {p : List Nat} {x : Tr} (h : At t p x) : x.size ≤ t.size := by
  induction h with
  | nil t => exact Nat.le_refl _
  | a1 h ih => simp only [Tr.size]; omega
  | a2 h ih => simp only [Tr.size]; omega
  | b2 h ih => simp only [Tr.size]; omega
theorem setLab_size (x : Tr) (s : Str) : (x.setLab s).size = x.size := by cases x <;> rfl
theorem setLab_parts (x : Tr) (s : Str) : (x.setLab s).parts = x.parts := by cases x <;> rfl
theorem setLab_lab (x : Tr) (s : Str) : (x.setLab s).lab = s := by cases x <;> rfl
theorem setLab_ok {rows : List Row} {x : Tr} {s : Str} (h : x.ok rows) (hs : (s, (x.parts.length : Int)) ∈ rows) : (x.setLab s).ok rows := by
  cases x with
  | t0 l => exact hs
  | t1 l a => exact ⟨hs, h.2⟩
  | t2 l a b => exact ⟨hs, h.2⟩
theorem ch_put {c : Tr} {p : List Nat} {x : Tr} (h : At c p x) (s : Str) (ne : s ≠ x.lab) : ∀ (o : Tr) (n : Nat), chT o c = some n → labAt p o = x.lab → chT o (put p c (x.setLab s)) = some (n + 1) := by
  induction h with
  | nil t =>
    intro o n h l
    rw [labAt] at l
    rw [put]
    cases o with
    | t0 m =>
      cases t with
      | t0 k =>
        unfold chT at h
        cases h
        have e : m = k := l
        subst e
        unfold Tr.setLab chT
        rw [df_self, df_ne (l := m) (fun z => ne z.symm)]
      | _ => cases h
    | t1 m a =>
      cases t with
      | t1 k b =>
        obtain ⟨j, h1, rfl⟩ := ch1 h
        have e : m = k := l
        subst e
        unfold Tr.setLab
        rw [ch1m h1, df_self, df_ne (l := m) (fun z => ne z.symm)]
        congr 1; omega
      | _ => cases h
    | t2 m a a' =>
      cases t with
      | t2 k b b' =>
        obtain ⟨j, i, h1, h2, rfl⟩ := ch2 h
        have e : m = k := l
        subst e
        unfold Tr.setLab
        rw [ch2m h1 h2, df_self, df_ne (l := m) (fun z => ne z.symm)]
        congr 1; omega
      | _ => cases h
  | a1 h ih =>
    intro o n hc l
    cases o with
    | t1 m a =>
      obtain ⟨j, h1, rfl⟩ := ch1 hc
      rw [labAt] at l
      rw [put]
      rw [ch1m (ih ne a j h1 l)]
      congr 1
    | _ => cases hc
  | a2 h ih =>
    intro o n hc l
    cases o with
    | t2 m a b =>
      obtain ⟨j, i, h1, h2, rfl⟩ := ch2 hc
      rw [labAt] at l
      rw [put]
      rw [ch2m (ih ne a j h1 l) h2]
      congr 1; omega
    | _ => cases hc
  | b2 h ih =>
    intro o n hc l
    cases o with
    | t2 m a b =>
      obtain ⟨j, i, h1, h2, rfl⟩ := ch2 hc
      rw [labAt] at l
      rw [put]
      rw [ch2m h1 (ih ne b i h2 l)]
      congr 1
    | _ => cases hc
theorem lab_put {c : Tr} {p : List Nat} {x : Tr} (h : At c p x) (s : Str) : ∀ q, q ≠ p → labAt q (put p c (x.setLab s)) = labAt q c := by
  induction h with
  | nil t =>
    intro q hq
    rw [put]
    cases q with
    | nil => exact absurd rfl hq
    | cons i q => cases t <;> rcases i with _ | _ | i <;> simp [Tr.setLab, labAt]
  | a1 h ih =>
    intro q hq
    rw [put]
    cases q with
    | nil => simp [labAt, Tr.lab]
    | cons i q =>
      rcases i with _ | i
      · rw [labAt, labAt]; exact ih q fun z => hq (by rw [z])
      · simp [labAt, Tr.lab]
  | a2 h ih =>
    intro q hq
    rw [put]
    cases q with
    | nil => simp [labAt, Tr.lab]
    | cons i q =>
      rcases i with _ | _ | i
      · rw [labAt, labAt]; exact ih q fun z => hq (by rw [z])
      · simp [labAt, Tr.lab]
      · simp [labAt, Tr.lab]
  | b2 h ih =>
    intro q hq
    rw [put]
    cases q with
    | nil => simp [labAt, Tr.lab]
    | cons i q =>
      rcases i with _ | _ | i
      · simp [labAt, Tr.lab]
      · rw [labAt, labAt]; exact ih q fun z => hq (by rw [z])
      · simp [labAt, Tr.lab]
def cnt (t u : Tr) (ps : List (List Nat)) : Nat := (ps.map fun p => df (labAt p t) (labAt p u)).sum
theorem cnt_ok : ∀ (t u : Tr) (n : Nat), chT t u = some n → cnt t u t.paths = n
  | .t0 l, .t0 m, n, h => by
    unfold chT at h
    cases h
    rw [paths0]
    simp [cnt, labAt, Tr.lab]
  | .t1 l a, .t1 m b, n, h => by
    obtain ⟨k, h1, rfl⟩ := ch1 h
    have i := cnt_ok a b k h1
    unfold cnt at i ⊢
    rw [paths1, List.map_cons, List.map_map, List.sum_cons, ← i]
    simp [labAt, Tr.lab, Function.comp_def]
  | .t2 l a b, .t2 m c d, n, h => by
    obtain ⟨k, j, h1, h2, rfl⟩ := ch2 h
    have i := cnt_ok a c k h1
    have i2 := cnt_ok b d j h2
    unfold cnt at i i2 ⊢
    rw [paths2, List.map_cons, List.map_append, List.map_map, List.map_map, List.sum_cons, List.sum_append_nat, ← i, ← i2]
    simp [labAt, Tr.lab, Function.comp_def]
    omega
  | .t0 _, .t1 _ _, _, h => by cases h
  | .t0 _, .t2 _ _ _, _, h => by cases h
  | .t1 _ _, .t0 _, _, h => by cases h
  | .t1 _ _, .t2 _ _ _, _, h => by cases h
  | .t2 _ _ _, .t0 _, _, h => by cases h
  | .t2 _ _ _, .t1 _ _, _, h => by cases h
theorem nodup_map {α β : Type} {f : α → β} (hf : ∀ a b, f a = f b → a = b) : ∀ {xs : List α}, xs.Nodup → (xs.map f).Nodup
  | [], _ => List.nodup_nil
  | x :: xs, h => by
    rw [List.nodup_cons] at h
    rw [List.map_cons, List.nodup_cons]
    refine ⟨fun z => ?_, nodup_map hf h.2⟩
    obtain ⟨y, hy, e⟩ := List.mem_map.mp z
    exact h.1 (by rw [← hf _ _ e]; exact hy)
theorem paths_nodup : ∀ t : Tr, t.paths.Nodup
  | .t0 l => by rw [paths0]; simp
  | .t1 l a => by
    rw [paths1, List.nodup_cons]
    refine ⟨fun z => ?_, nodup_map (fun _ _ e => by injection e) (paths_nodup a)⟩
    obtain ⟨y, _, e⟩ := List.mem_map.mp z
    cases e
  | .t2 l a b => by
    rw [paths2, List.nodup_cons]
    refine ⟨fun z => ?_, ?_⟩
    · rcases List.mem_append.mp z with z | z
      · obtain ⟨y, _, e⟩ := List.mem_map.mp z
        cases e
      · obtain ⟨y, _, e⟩ := List.mem_map.mp z
        cases e
    · rw [List.nodup_append]
      refine ⟨nodup_map (fun _ _ e => by injection e) (paths_nodup a), nodup_map (fun _ _ e => by injection e) (paths_nodup b), fun x hx y hy e => ?_⟩
      obtain ⟨p, _, rfl⟩ := List.mem_map.mp hx
      obtain ⟨q, _, rfl⟩ := List.mem_map.mp hy
      cases e
theorem walk_len : ∀ t : Tr, t.walk.length = t.size
  | .t0 l => rfl
  | .t1 l a => by rw [Tr.walk, Tr.size]; rw [List.length_cons, List.length_map, walk_len a]; omega
  | .t2 l a b => by rw [Tr.walk, Tr.size]; rw [List.length_cons, List.length_append, List.length_map, List.length_map, walk_len a, walk_len b]; omega
theorem path_small {t : Tr} {p : List Nat} {x : Tr} (h : At t p x) : (∀ i ∈ p, i ≤ 1) ∧ p.length < t.size := by
  induction h with
  | nil t => exact ⟨by simp, size_pos t⟩
  | a1 h ih => exact ⟨by simpa using ih.1, by simp only [Tr.size, List.length_cons]; omega⟩
  | a2 h ih => exact ⟨by simpa using ih.1, by simp only [Tr.size, List.length_cons]; omega⟩
  | b2 h ih => exact ⟨by simpa using ih.1, by simp only [Tr.size, List.length_cons]; omega⟩
end K74
end

section
set_option Elab.async false
set_option linter.all false
set_option maxRecDepth 100000
set_option maxHeartbeats 4000000
/-! # Changes -/
namespace K74
open PySem L2 ML
theorem depth_enc : ∀ t : Tr, t.enc.depth ≤ 2 * t.size
  | .t0 l => by simp [Tr.enc, PyData.depth, PyData.depthAll, Tr.size]
  | .t1 l a => by
    have := depth_enc a
    have h := size_pos a
    simp only [Tr.enc, PyData.depth, PyData.depthAll, Tr.size]
    omega
  | .t2 l a b => by
    have := depth_enc a
    have := depth_enc b
    have h := size_pos a
    simp only [Tr.enc, PyData.depth, PyData.depthAll, Tr.size]
    omega
theorem noDct_enc : ∀ t : Tr, noDct t.enc = true
  | .t0 l => by simp [Tr.enc, noDct, noDctA]
  | .t1 l a => by simp [Tr.enc, noDct, noDctA, noDct_enc a]
  | .t2 l a b => by simp [Tr.enc, noDct, noDctA, noDct_enc a, noDct_enc b]
theorem nm_strOk {z : Str} (h : Nm z) : PyData.strOk z = true := by
  unfold PyData.strOk
  rw [Array.all_eq_true_iff_forall_mem]
  intro c hc
  have := h.ab c (Array.mem_toList_iff.mpr hc)
  exact decide_eq_true (by omega)
theorem canLay_enc {rows : List Row} (S : Sg rows) : ∀ {t : Tr}, t.ok rows → t.enc.canLay0 = true
  | .t0 l, h => by
    have n := nm_strOk (S.nm _ h)
    simp [Tr.enc, PyData.canLay0, PyData.canLayAll0]; exact n
  | .t1 l a, h => by
    have n := nm_strOk (S.nm _ h.1)
    have i := canLay_enc S h.2
    simp [Tr.enc, PyData.canLay0, PyData.canLayAll0, i]; exact n
  | .t2 l a b, h => by
    have n := nm_strOk (S.nm _ h.1)
    have i := canLay_enc S h.2.1
    have j := canLay_enc S h.2.2
    simp [Tr.enc, PyData.canLay0, PyData.canLayAll0, i, j]; exact n
theorem eqOk_enc {rows : List Row} (S : Sg rows) {t : Tr} (h : t.ok rows) (hs : t.size ≤ 20) : eqOk t.enc = true := by
  have d := depth_enc t
  unfold eqOk SeqAt.shaped
  rw [noDct_enc t, canLay_enc S h, Bool.true_and, Bool.true_and]
  exact decide_eq_true (by omega)
theorem eqv_enc : ∀ t u : Tr, PyData.eqv t.enc u.enc = true ↔ t = u
  | .t0 l, u => by cases u <;> simp [Tr.enc, PyData.eqv, PyData.eqvAll]
  | .t1 l a, u => by
    cases u with
    | t0 m => simp [Tr.enc, PyData.eqv, PyData.eqvAll]
    | t1 m c => simp [Tr.enc, PyData.eqv, PyData.eqvAll, eqv_enc a c]
    | t2 m c d => simp [Tr.enc, PyData.eqv, PyData.eqvAll]
  | .t2 l a b, u => by
    cases u with
    | t0 m => simp [Tr.enc, PyData.eqv, PyData.eqvAll]
    | t1 m c => simp [Tr.enc, PyData.eqv, PyData.eqvAll]
    | t2 m c d => simp [Tr.enc, PyData.eqv, PyData.eqvAll, eqv_enc a c, eqv_enc b d]

theorem lab_eqOk {rows : List Row} (S : Sg rows) {t : Tr} (h : t.ok rows) : eqOk (.str t.lab) = true := eqOk_str (nm_strOk (S.nm _ (ok_lab h)))
abbrev prD (w : Tr × Tr) : D := .tuple [w.1.enc, w.2.enc]
abbrev prL (ws : List (Tr × Tr)) : Sl := .o true (.lst (ws.map prD))
def opt2 (a b : Option Nat) : Option Nat := a.bind fun n => b.map fun k => n + k
def chL : List (Tr × Tr) → Option Nat
  | [] => some 0
  | w :: ws => opt2 (chT w.1 w.2) (chL ws)
theorem opt2_none {a : Option Nat} : opt2 a none = none := by cases a <;> rfl
theorem opt2_zero {a : Option Nat} : opt2 a (some 0) = a := by cases a <;> rfl
theorem opt2_assoc {a b c : Option Nat} : opt2 (opt2 a b) c = opt2 a (opt2 b c) := by
  cases a <;> cases b <;> cases c <;> simp [opt2]
  omega
theorem chL_app : ∀ xs ys : List (Tr × Tr), chL (xs ++ ys) = opt2 (chL xs) (chL ys)
  | [], ys => by
    show chL ys = opt2 (some 0) (chL ys)
    cases chL ys <;> simp [opt2]
  | w :: xs, ys => by
    show opt2 (chT w.1 w.2) (chL (xs ++ ys)) = opt2 (opt2 (chT w.1 w.2) (chL xs)) (chL ys)
    rw [chL_app xs ys, opt2_assoc]
theorem zip_pr : ∀ ts us : List Tr, zipD (ts.map Tr.enc) (us.map Tr.enc) = (ts.zip us).map prD
  | [], us => by simp [zipD]
  | t :: ts, [] => by simp [zipD]
  | t :: ts, u :: us => by
    rw [List.map_cons, List.map_cons, zipD, zip_pr ts us]; rfl
theorem chT_same {t u : Tr} (h : t.parts.length = u.parts.length) : chT t u = (chL (t.parts.zip u.parts)).map (df t.lab u.lab + ·) := by
  cases t <;> cases u <;> simp [Tr.parts] at h <;> simp [Tr.parts, Tr.lab, chT, chL, opt2_zero]
  rename_i l a b m c d
  cases chT a c <;> cases chT b d <;> simp [opt2]
  omega
theorem chT_unlike {t u : Tr} (h : t.parts.length ≠ u.parts.length) : chT t u = none := by
  cases t <;> cases u <;> simp [Tr.parts] at h <;> rfl
theorem chL_step {ws : List (Tr × Tr)} {t u : Tr} (h : t.parts.length = u.parts.length) : chL (ws ++ [(t, u)]) = (chL (ws ++ t.parts.zip u.parts)).map (df t.lab u.lab + ·) := by
  rw [chL_app, chL_app]
  show opt2 (chL ws) (opt2 (chT t u) (some 0)) = _
  rw [opt2_zero, chT_same h]
  cases chL ws <;> cases chL (t.parts.zip u.parts) <;> simp [opt2]
  omega
theorem chL_unlike {ws : List (Tr × Tr)} {t u : Tr} (h : t.parts.length ≠ u.parts.length) : chL (ws ++ [(t, u)]) = none := by
  rw [chL_app]
  show opt2 (chL ws) (opt2 (chT t u) (some 0)) = _
  rw [opt2_zero, chT_unlike h, opt2_none]
theorem df_int (l m : Str) : (if l = m then (0 : Int) else 1) = (df l m : Nat) := by
  unfold df
  by_cases h : l = m
  · rw [if_pos h, if_pos h]; rfl
  · rw [if_neg h, if_neg h]; rfl
def ochD : Option Nat → D
  | none => .none
  | some n => .int n

theorem whileL_moreR {t : M Bool} {mb : MStm} {r : RV} {e' : List Sl} : ∀ (n m : Nat) (e : List Sl), n ≤ m → whileL t mb n e = .rt r e' → whileL t mb m e = .rt r e' := by
  intro n
  induction n with
  | zero => intro m e _ h; cases h
  | succ n ih =>
    intro m e hm h
    obtain ⟨m', rfl⟩ : ∃ m', m = m' + 1 := ⟨m - 1, by omega⟩
    rw [whileL] at h ⊢
    cases ht : t e with
    | ok b e1 =>
      rw [ht] at h
      cases b with
      | true =>
        dsimp only at h ⊢
        cases hb : mb e1 with
        | nx e2 => rw [hb] at h; exact ih m' e2 (by omega) h
        | ct e2 => rw [hb] at h; exact ih m' e2 (by omega) h
        | bk e2 => rw [hb] at h; cases h
        | rt r e2 => rw [hb] at h; exact h
        | ex c e2 => rw [hb] at h; cases h
        | bad => rw [hb] at h; cases h
      | false => cases h
    | ex c e1 => rw [ht] at h; cases h
    | bad => rw [ht] at h; cases h

theorem raw_changes_i1 {t u : Tr} (h : t.parts.length = u.parts.length) (a b c d : Sl) : m_raw_changes_i1 [a, b, c, d, .d t.enc, .d u.enc] = .nx [a, b, c, d, .d t.enc, .d u.enc] := by
  rw [enc_eq t, enc_eq u]
  simp [m_raw_changes_i1, h]
theorem raw_changes_i1n {t u : Tr} (h : t.parts.length ≠ u.parts.length) (a b c d : Sl) : m_raw_changes_i1 [a, b, c, d, .d t.enc, .d u.enc] = .rt (.d .none) [a, b, c, d, .d t.enc, .d u.enc] := by
  rw [enc_eq t, enc_eq u]
  simp [m_raw_changes_i1]
  rw [if_neg (by omega)]
  simp
theorem raw_changes_b2 {ws : List (Tr × Tr)} {t u : Tr} (o1 : eqOk (.str t.lab) = true) (o2 : eqOk (.str u.lab) = true) (h : t.parts.length = u.parts.length) (hl : ws.length ≤ 1000) (a b : Sl) (n : Int) :
    m_raw_changes_b2 [a, b, .d (.int n), prL (ws ++ [(t, u)]), .un, .un] = .nx [a, b, .d (.int (n + (df t.lab u.lab : Nat))), prL (ws ++ t.parts.zip u.parts), .un, .un] := by
  have i1 := raw_changes_i1 h a b (.d (.int n)) (prL ws)
  have pl := parts_len t
  have z := zip_pr t.parts u.parts
  have lz : (t.parts.zip u.parts).length ≤ 2 := by rw [List.length_zip]; omega
  have hl2 : ws.length + min t.parts.length u.parts.length ≤ 10000000 := by omega
  have dd := df_int t.lab u.lab
  simp [m_raw_changes_b2, i1]
  rw [enc_eq t, enc_eq u]
  simp [z, o1, o2, hl2]
  exact dd
theorem raw_changes_b2n {ws : List (Tr × Tr)} {t u : Tr} (h : t.parts.length ≠ u.parts.length) (a b : Sl) (n : Int) :
    m_raw_changes_b2 [a, b, .d (.int n), prL (ws ++ [(t, u)]), .un, .un] = .rt (.d .none) [a, b, .d (.int n), prL ws, .d t.enc, .d u.enc] := by
  have i1 := raw_changes_i1n h a b (.d (.int n)) (prL ws)
  simp [m_raw_changes_b2, i1]
theorem raw_changes_loop {rows : List Row} (S : Sg rows) (a b : Sl) : ∀ (k : Nat) (n : Int) (ws : List (Tr × Tr)), (∀ w ∈ ws, w.1.ok rows ∧ w.2.ok rows) → total (ws.map (·.1)) < k → k ≤ 1000 →
    (∀ m, chL ws = some m → whileL (b2 gGt (qD (eBlt bLen (aR 3 aNil))) (qD (eC (.int 0)))) m_raw_changes_b2 k [a, b, .d (.int n), prL ws, .un, .un] = .nx [a, b, .d (.int (n + (m : Nat))), prL [], .un, .un]) ∧
    (chL ws = none → ∃ x y z w, whileL (b2 gGt (qD (eBlt bLen (aR 3 aNil))) (qD (eC (.int 0)))) m_raw_changes_b2 k [a, b, .d (.int n), prL ws, .un, .un] = .rt (.d .none) [a, b, x, y, z, w]) := by
  intro k
  induction k with
  | zero => intro n ws _ h; omega
  | succ k ih =>
    intro n ws ok h hk
    rcases List.eq_nil_or_concat ws with rfl | ⟨us, ⟨t, u⟩, rfl⟩
    · refine ⟨fun m hm => ?_, fun hm => by cases hm⟩
      cases hm
      simp [whileL]
    · rw [List.concat_eq_append] at ok h ⊢
      have hs := size_eq t
      have e1 : total ((us ++ [(t, u)]).map (·.1)) = total (us.map (·.1)) + t.size := by simp [total]
      have lu : us.length ≤ total (us.map (·.1)) := by have := len_total (us.map (·.1)); rwa [List.length_map] at this
      have o := ok (t, u) (by simp)
      have ht : b2 gGt (qD (eBlt bLen (aR 3 aNil))) (qD (eC (.int 0))) [a, b, .d (.int n), prL (us ++ [(t, u)]), .un, .un] = .ok true [a, b, .d (.int n), prL (us ++ [(t, u)]), .un, .un] := by
        simp
      by_cases q : t.parts.length = u.parts.length
      · have hb := raw_changes_b2 (ws := us) (lab_eqOk S o.1) (lab_eqOk S o.2) q (by omega) a b n
        have e2 : total ((us ++ t.parts.zip u.parts).map (·.1)) = total (us.map (·.1)) + total t.parts := by
          rw [List.map_append, List.map_fst_zip (by omega)]
          simp [total]
        have i := ih (n + (df t.lab u.lab : Nat)) (us ++ t.parts.zip u.parts) (fun x hx => by
          rcases List.mem_append.mp hx with z | z
          · exact ok x (by simp [z])
          · exact ⟨ok_parts o.1 _ (List.of_mem_zip z).1, ok_parts o.2 _ (List.of_mem_zip z).2⟩) (by omega) (by omega)
        rw [whileL, ht]
        dsimp only
        rw [hb, chL_step q]
        dsimp only
        refine ⟨fun m hm => ?_, fun hm => i.2 (Option.map_eq_none_iff.mp hm)⟩
        obtain ⟨m', e, rfl⟩ := Option.map_eq_some_iff.mp hm
        rw [i.1 m' e]
        have e3 : n + ((df t.lab u.lab : Nat) : Int) + (m' : Nat) = n + ((df t.lab u.lab + m' : Nat) : Int) := by omega
        rw [e3]
      · have hb := raw_changes_b2n (ws := us) q a b n
        refine ⟨fun m hm => (by rw [chL_unlike q] at hm; cases hm), fun _ => ?_⟩
        rw [whileL, ht]
        dsimp only
        rw [hb]
        exact ⟨_, _, _, _, rfl⟩
theorem raw_changes_ok {rows : List Row} (S : Sg rows) {t u : Tr} (h : t.ok rows) (h2 : u.ok rows) (hs : t.size ≤ 100) : F_raw_changes [.d t.enc, .d u.enc] = .ok (.d (ochD (chT t u))) [.un, .un] := by
  have w := raw_changes_loop S (.d t.enc) (.d u.enc) 200 0 [(t, u)] (fun x hx => by rw [List.mem_singleton.mp hx]; exact ⟨h, h2⟩) (by simp [total]; omega) (by omega)
  have e : chL [(t, u)] = chT t u := opt2_zero
  rw [e] at w
  cases q : chT t u with
  | none =>
    obtain ⟨x, y, z, v, w1⟩ := w.2 q
    have w2 := whileL_moreR 200 20000 _ (by omega) w1
    have o : prL [(t, u)] = .o true (.lst [.tuple [t.enc, u.enc]]) := rfl
    rw [o] at w2

    simp [F_raw_changes, runBody, m_raw_changes, m_raw_changes_w3]
    try simp at w2
    simp [w2, ochD]
  | some m =>
    have w1 := w.1 m q
    have w2 := whileL_more 200 20000 _ (by omega) w1
    have o : prL [(t, u)] = .o true (.lst [.tuple [t.enc, u.enc]]) := rfl
    rw [o] at w2

    simp [F_raw_changes, runBody, m_raw_changes, m_raw_changes_w3]
    try simp at w2
    simp [w2, ochD]

theorem law_changes_i1 {t u : Tr} (h : t.parts.length = u.parts.length) (a b c d : Sl) : m__law_changes_i1 [a, b, c, d, .d t.enc, .d u.enc] = .nx [a, b, c, d, .d t.enc, .d u.enc] := by
  rw [enc_eq t, enc_eq u]
  simp [m__law_changes_i1, h]
theorem law_changes_i1n {t u : Tr} (h : t.parts.length ≠ u.parts.length) (a b c d : Sl) : m__law_changes_i1 [a, b, c, d, .d t.enc, .d u.enc] = .rt (.d .none) [a, b, c, d, .d t.enc, .d u.enc] := by
  rw [enc_eq t, enc_eq u]
  simp [m__law_changes_i1]
  rw [if_neg (by omega)]
  simp
theorem law_changes_b2 {ws : List (Tr × Tr)} {t u : Tr} (o1 : eqOk (.str t.lab) = true) (o2 : eqOk (.str u.lab) = true) (h : t.parts.length = u.parts.length) (hl : ws.length ≤ 1000) (a b : Sl) (n : Int) :
    m__law_changes_b2 [a, b, .d (.int n), prL (ws ++ [(t, u)]), .un, .un] = .nx [a, b, .d (.int (n + (df t.lab u.lab : Nat))), prL (ws ++ t.parts.zip u.parts), .un, .un] := by
  have i1 := law_changes_i1 h a b (.d (.int n)) (prL ws)
  have pl := parts_len t
  have z := zip_pr t.parts u.parts
  have lz : (t.parts.zip u.parts).length ≤ 2 := by rw [List.length_zip]; omega
  have hl2 : ws.length + min t.parts.length u.parts.length ≤ 10000000 := by omega
  have dd := df_int t.lab u.lab
  simp [m__law_changes_b2, i1]
  rw [enc_eq t, enc_eq u]
  simp [z, o1, o2, hl2]
  exact dd
theorem law_changes_b2n {ws : List (Tr × Tr)} {t u : Tr} (h : t.parts.length ≠ u.parts.length) (a b : Sl) (n : Int) :
    m__law_changes_b2 [a, b, .d (.int n), prL (ws ++ [(t, u)]), .un, .un] = .rt (.d .none) [a, b, .d (.int n), prL ws, .d t.enc, .d u.enc] := by
  have i1 := law_changes_i1n h a b (.d (.int n)) (prL ws)
  simp [m__law_changes_b2, i1]
theorem law_changes_loop {rows : List Row} (S : Sg rows) (a b : Sl) : ∀ (k : Nat) (n : Int) (ws : List (Tr × Tr)), (∀ w ∈ ws, w.1.ok rows ∧ w.2.ok rows) → total (ws.map (·.1)) < k → k ≤ 1000 →
    (∀ m, chL ws = some m → whileL (b2 gGt (qD (eBlt bLen (aR 3 aNil))) (qD (eC (.int 0)))) m__law_changes_b2 k [a, b, .d (.int n), prL ws, .un, .un] = .nx [a, b, .d (.int (n + (m : Nat))), prL [], .un, .un]) ∧
    (chL ws = none → ∃ x y z w, whileL (b2 gGt (qD (eBlt bLen (aR 3 aNil))) (qD (eC (.int 0)))) m__law_changes_b2 k [a, b, .d (.int n), prL ws, .un, .un] = .rt (.d .none) [a, b, x, y, z, w]) := by
  intro k
  induction k with
  | zero => intro n ws _ h; omega
  | succ k ih =>
    intro n ws ok h hk
    rcases List.eq_nil_or_concat ws with rfl | ⟨us, ⟨t, u⟩, rfl⟩
    · refine ⟨fun m hm => ?_, fun hm => by cases hm⟩
      cases hm
      simp [whileL]
    · rw [List.concat_eq_append] at ok h ⊢
      have hs := size_eq t
      have e1 : total ((us ++ [(t, u)]).map (·.1)) = total (us.map (·.1)) + t.size := by simp [total]
      have lu : us.length ≤ total (us.map (·.1)) := by have := len_total (us.map (·.1)); rwa [List.length_map] at this
      have o := ok (t, u) (by simp)
      have ht : b2 gGt (qD (eBlt bLen (aR 3 aNil))) (qD (eC (.int 0))) [a, b, .d (.int n), prL (us ++ [(t, u)]), .un, .un] = .ok true [a, b, .d (.int n), prL (us ++ [(t, u)]), .un, .un] := by
        simp
      by_cases q : t.parts.length = u.parts.length
      · have hb := law_changes_b2 (ws := us) (lab_eqOk S o.1) (lab_eqOk S o.2) q (by omega) a b n
        have e2 : total ((us ++ t.parts.zip u.parts).map (·.1)) = total (us.map (·.1)) + total t.parts := by
          rw [List.map_append, List.map_fst_zip (by omega)]
          simp [total]
        have i := ih (n + (df t.lab u.lab : Nat)) (us ++ t.parts.zip u.parts) (fun x hx => by
          rcases List.mem_append.mp hx with z | z
          · exact ok x (by simp [z])
          · exact ⟨ok_parts o.1 _ (List.of_mem_zip z).1, ok_parts o.2 _ (List.of_mem_zip z).2⟩) (by omega) (by omega)
        rw [whileL, ht]
        dsimp only
        rw [hb, chL_step q]
        dsimp only
        refine ⟨fun m hm => ?_, fun hm => i.2 (Option.map_eq_none_iff.mp hm)⟩
        obtain ⟨m', e, rfl⟩ := Option.map_eq_some_iff.mp hm
        rw [i.1 m' e]
        have e3 : n + ((df t.lab u.lab : Nat) : Int) + (m' : Nat) = n + ((df t.lab u.lab + m' : Nat) : Int) := by omega
        rw [e3]
      · have hb := law_changes_b2n (ws := us) q a b n
        refine ⟨fun m hm => (by rw [chL_unlike q] at hm; cases hm), fun _ => ?_⟩
        rw [whileL, ht]
        dsimp only
        rw [hb]
        exact ⟨_, _, _, _, rfl⟩
theorem law_changes_ok {rows : List Row} (S : Sg rows) {t u : Tr} (h : t.ok rows) (h2 : u.ok rows) (hs : t.size ≤ 100) : F__law_changes [.d t.enc, .d u.enc] = .ok (.d (ochD (chT t u))) [.un, .un] := by
  have w := law_changes_loop S (.d t.enc) (.d u.enc) 200 0 [(t, u)] (fun x hx => by rw [List.mem_singleton.mp hx]; exact ⟨h, h2⟩) (by simp [total]; omega) (by omega)
  have e : chL [(t, u)] = chT t u := opt2_zero
  rw [e] at w
  cases q : chT t u with
  | none =>
    obtain ⟨x, y, z, v, w1⟩ := w.2 q
    have w2 := whileL_moreR 200 20000 _ (by omega) w1
    have o : prL [(t, u)] = .o true (.lst [.tuple [t.enc, u.enc]]) := rfl
    rw [o] at w2

    simp [F__law_changes, runBody, m__law_changes, m__law_changes_w3]
    try simp at w2
    simp [w2, ochD]
  | some m =>
    have w1 := w.1 m q
    have w2 := whileL_more 200 20000 _ (by omega) w1
    have o : prL [(t, u)] = .o true (.lst [.tuple [t.enc, u.enc]]) := rfl
    rw [o] at w2

    simp [F__law_changes, runBody, m__law_changes, m__law_changes_w3]
    try simp at w2
    simp [w2, ochD]

theorem changes_ok {rows : List Row} (S : Sg rows) {t u : Tr} (h : t.ok rows) (h2 : u.ok rows) (hs : t.size ≤ 100) (hs2 : u.size ≤ 100) : F_changes_between [.d (sgD rows), .d t.enc, .d u.enc] = .ok (.d (ochD (chT t u))) [.un, .un, .un] := by
  simp [F_changes_between, runBody, m_changes_between, check_both_ok S h hs, check_tree_ok S h2 hs2, raw_changes_ok S h h2 hs]
theorem nodes_many_ok {rows : List Row} (S : Sg rows) {t : Tr} (h : t.ok rows) (hs : t.size ≤ 100) : F_nodes_many [.d (sgD rows), .d t.enc] = .ok (.d (.int t.size)) [.un, .un] := by
  simp [F_nodes_many, runBody, m_nodes_many, check_both_ok S h hs, raw_nodes_ok hs]
end K74
end

section
set_option Elab.async false
set_option linter.all false
set_option maxRecDepth 100000
set_option maxHeartbeats 4000000
/-! # Walks -/
namespace K74
open PySem L2 ML
theorem compL_mapT {α : Type} {g : GF} {te : M D} {vs : List Nat} {e0 : List Sl} {en f : α → D} : ∀ (ts : List α) (done : List D),
    (∀ t ∈ ts, ∃ e1, g (en t) e0 = some e1 ∧ te e1 = .ok (f t) e1 ∧ wipeE e1 vs = e0) → done.length + ts.length ≤ LIM →
    compL g (ML.ret true) te vs (ts.map en) done e0 = .ok (done ++ ts.map f) e0 := by
  intro ts
  induction ts with
  | nil => intro done _ _; simp [compL]
  | cons t ts ih =>
    intro done h hl
    obtain ⟨e1, h1, h3, h4⟩ := h t List.mem_cons_self
    rw [List.length_cons] at hl
    rw [List.map_cons, compL, h1]
    show (match te e1 with
        | .ok y e3 => if done.length < LIM then compL g (ML.ret true) te vs (ts.map en) (done ++ [y]) (wipeE e3 vs) else .bad
        | _ => .bad) = _
    rw [h3]
    dsimp only
    rw [if_pos (show done.length < LIM by omega), h4, ih _ (fun x hx => h x (List.mem_cons_of_mem _ hx)) (by rw [List.length_append, List.length_singleton]; omega)]
    simp
theorem oComp_mapT {α : Type} {mi : M (List D)} {g : GF} {te : M D} {vs : List Nat} {e e1 : List Sl} {ts : List α} {en f : α → D} (hi : mi e = .ok (ts.map en) e1)
    (h : ∀ t ∈ ts, ∃ e2, g (en t) (wipeE e1 vs) = some e2 ∧ te e2 = .ok (f t) e2 ∧ wipeE e2 vs = wipeE e1 vs) (hl : ts.length ≤ LIM) :
    oComp mi g (ML.ret true) te vs e = .ok (.lst (ts.map f)) (restE e1 (wipeE e1 vs) vs) := by
  unfold oComp ML.bind
  rw [hi]
  dsimp only
  rw [compL_mapT ts [] h (by simpa using hl)]
  rfl
theorem part_size {t p : Tr} (h : p ∈ t.parts) : p.size < t.size := by
  cases t with
  | t0 l => cases h
  | t1 l a => rw [List.mem_singleton.mp h]; simp [Tr.size]
  | t2 l a b =>
    rcases List.mem_cons.mp h with rfl | h
    · simp [Tr.size]; omega
    · rw [List.mem_singleton.mp h]; simp [Tr.size]; have := size_pos a; omega

abbrev ptD (p : List Nat) : D := .tuple (p.map fun i => PyData.int (i : Nat))
abbrev enD (w : List Nat × Tr) : D := .tuple [ptD w.1, w.2.enc]
abbrev enL (ws : List (List Nat × Tr)) : Sl := .o true (.lst (ws.map enD))
def kids (p : List Nat) : Tr → List (List Nat × Tr)
  | .t0 _ => []
  | .t1 _ a => [(p ++ [0], a)]
  | .t2 _ a b => [(p ++ [0], a), (p ++ [1], b)]
def walkFrom (w : List Nat × Tr) : List (List Nat × Tr) := w.2.walk.map fun v => (w.1 ++ v.1, v.2)
theorem walkFrom_eq (p : List Nat) (t : Tr) : walkFrom (p, t) = (p, t) :: (kids p t).flatMap walkFrom := by
  cases t <;> simp [walkFrom, Tr.walk, kids, Function.comp_def]
theorem kids_len (p : List Nat) (t : Tr) : (kids p t).length ≤ 2 := by cases t <;> simp [kids]
theorem kids_parts (p : List Nat) (t : Tr) : (kids p t).map (·.2) = t.parts := by cases t <;> rfl
theorem kids_fst {p : List Nat} {t : Tr} : ∀ w ∈ kids p t, w.1.length = p.length + 1 := by
  cases t <;> simp [kids]
theorem paths_b2 {F ws : List (List Nat × Tr)} {p : List Nat} {t : Tr} (hF : F.length ≤ 1000) (hl : ws.length ≤ 1000) (hp : p.length ≤ 1000) (A : Sl) :
    m_raw_paths_b2 [A, enL F, enL (ws ++ [(p, t)]), .un, .un, .un, .un] = .nx [A, enL (F ++ [(p, t)]), enL (ws ++ (kids p t).reverse), .un, .un, .un, .un] := by
  have h1 : F.length < 10000000 := by omega
  have h2 : p.length + 1 ≤ 10000000 := by omega
  have h3 : ws.length + 1 ≤ 10000000 := by omega
  have h4 : ws.length + 2 ≤ 10000000 := by omega
  have h5 : ws.length ≤ 10000000 := by omega
  cases t <;> simp [m_raw_paths_b2, o_raw_paths_1, oComp, compL, m_raw_paths_c1, enumD, kids, Tr.enc, h1, h2, h3, h4, h5]
theorem paths_loop (A : Sl) : ∀ (k : Nat) (F ws : List (List Nat × Tr)), total (ws.map (·.2)) < k → F.length + total (ws.map (·.2)) ≤ 1000 → (∀ w ∈ ws, w.1.length + w.2.size ≤ 1000) →
    whileL (b2 gGt (qD (eBlt bLen (aR 2 aNil))) (qD (eC (.int 0)))) m_raw_paths_b2 k [A, enL F, enL ws, .un, .un, .un, .un] = .nx [A, enL (F ++ ws.reverse.flatMap walkFrom), enL [], .un, .un, .un, .un] := by
  intro k
  induction k with
  | zero => intro F ws h; omega
  | succ k ih =>
    intro F ws h hk hw
    rcases List.eq_nil_or_concat ws with rfl | ⟨us, ⟨p, t⟩, rfl⟩
    · simp [whileL]
    · rw [List.concat_eq_append] at h hk hw ⊢
      have hs := size_eq t
      have e1 : total ((us ++ [(p, t)]).map (·.2)) = total (us.map (·.2)) + t.size := by simp [total]
      have e2 : total ((us ++ (kids p t).reverse).map (·.2)) = total (us.map (·.2)) + total t.parts := by
        rw [List.map_append, List.map_reverse, kids_parts]
        simp [total]
      have lu : us.length ≤ total (us.map (·.2)) := by have := len_total (us.map (·.2)); rwa [List.length_map] at this
      have hp := hw (p, t) (by simp)
      have sp := size_pos t
      have hb := paths_b2 (F := F) (ws := us) (p := p) (t := t) (by omega) (by omega) (by simp at hp; omega) A
      have hi := ih (F ++ [(p, t)]) (us ++ (kids p t).reverse) (by omega) (by rw [List.length_append, List.length_singleton]; omega) (fun w hm => by
        rcases List.mem_append.mp hm with z | z
        · exact hw w (by simp [z])
        · have z := List.mem_reverse.mp z
          have f1 := kids_fst w z
          have f2 : w.2 ∈ t.parts := by rw [← kids_parts p t]; exact List.mem_map_of_mem z
          have f3 := part_size f2
          simp at hp
          omega)
      rw [whileL]
      have ht : b2 gGt (qD (eBlt bLen (aR 2 aNil))) (qD (eC (.int 0))) [A, enL F, enL (us ++ [(p, t)]), .un, .un, .un, .un] = .ok true [A, enL F, enL (us ++ [(p, t)]), .un, .un, .un, .un] := by
        simp
      rw [ht]
      dsimp only
      rw [hb]
      dsimp only
      rw [hi]
      have e3 : F ++ [(p, t)] ++ (us ++ (kids p t).reverse).reverse.flatMap walkFrom = F ++ (us ++ [(p, t)]).reverse.flatMap walkFrom := by
        rw [List.reverse_append, List.reverse_reverse, List.reverse_append, List.reverse_singleton, List.flatMap_append, List.flatMap_append, List.flatMap_cons, walkFrom_eq p t, List.flatMap_nil]
        simp
      rw [e3]
theorem walkFrom_nil (t : Tr) : walkFrom ([], t) = t.walk := by
  unfold walkFrom
  simp
theorem raw_paths_ok {t : Tr} (hs : t.size ≤ 100) : F_raw_paths [.d t.enc] = .ok (.o (.lst (t.walk.map enD))) [.un] := by
  have w := paths_loop (.d t.enc) 200 [] [([], t)] (by simp [total]; omega) (by simp [total]; omega) (by simp; omega)
  have e : [] ++ [(([] : List Nat), t)].reverse.flatMap walkFrom = t.walk := by
    show [] ++ (walkFrom ([], t) ++ []) = _
    rw [walkFrom_nil]; simp
  rw [e] at w
  have w2 := whileL_more 200 20000 _ (by omega) w
  have o : enL [([], t)] = .o true (.lst [.tuple [.tuple [], t.enc]]) := rfl
  have o2 : enL [] = .o true (.lst []) := rfl
  rw [o, o2] at w2
  simp [F_raw_paths, runBody, m_raw_paths, m_raw_paths_w3, w2]
abbrev pthsD (t : Tr) : D := .tuple (t.paths.map ptD)
theorem paths_of_ok {rows : List Row} (S : Sg rows) {t : Tr} (h : t.ok rows) (hs : t.size ≤ 100) : F_paths_of [.d (sgD rows), .d t.enc] = .ok (.d (pthsD t)) [.un, .un] := by
  have r := raw_paths_ok hs
  have lw := walk_len t
  have o : o_paths_of_1 [.d (sgD rows), .d t.enc, .un, .un] = .ok (.lst (t.walk.map fun w => ptD w.1)) [.d (sgD rows), .d t.enc, .un, .un] := by
    refine (oComp_mapT (ts := t.walk) (en := enD) (f := fun w => ptD w.1) (e1 := [.d (sgD rows), .d t.enc, .un, .un]) (by simp [r]) (fun w _ => ?_) ?_).trans (by simp)
    · exact ⟨[.d (sgD rows), .d t.enc, .d (ptD w.1), .d w.2.enc], by simp, by simp [m_paths_of_c1], by simp⟩
    · show _ ≤ 10000000
      omega
  have e : t.paths.map ptD = t.walk.map fun w => ptD w.1 := by
    unfold Tr.paths
    rw [List.map_map]; rfl
  rw [show pthsD t = .tuple (t.walk.map fun w => ptD w.1) by unfold pthsD; rw [e]]
  simp [F_paths_of, runBody, m_paths_of, check_both_ok S h hs, o]
/-! ### how deep -/
abbrev dpD (w : Tr × Nat) : D := .tuple [w.1.enc, .int (w.2 : Nat)]
abbrev dpL (ws : List (Tr × Nat)) : Sl := .o true (.lst (ws.map dpD))
def dpS (ws : List (Tr × Nat)) (m : Nat) : Nat := ws.foldl (fun m w => max m (w.2 + w.1.deep - 1)) m
theorem dpS_max : ∀ (ws : List (Tr × Nat)) (m d : Nat), dpS ws (max m d) = max (dpS ws m) d
  | [], m, d => rfl
  | w :: ws, m, d => by
    show dpS ws (max (max m d) (w.2 + w.1.deep - 1)) = max (dpS ws (max m (w.2 + w.1.deep - 1))) d
    rw [← dpS_max ws]
    congr 1
    omega
theorem dpS_app (xs ys : List (Tr × Nat)) (m : Nat) : dpS (xs ++ ys) m = dpS ys (dpS xs m) := List.foldl_append
theorem deep_pos (t : Tr) : 1 ≤ t.deep := by cases t <;> simp only [Tr.deep] <;> omega
theorem dpS_step (ws : List (Tr × Nat)) (t : Tr) (m d : Nat) (h : 1 ≤ d) : dpS (ws ++ t.parts.map fun p => (p, d + 1)) (max m d) = dpS (ws ++ [(t, d)]) m := by
  rw [dpS_app, dpS_app, dpS_max]
  generalize dpS ws m = k
  cases t with
  | t0 l =>
    show max k d = max k (d + 1 - 1)
    congr 1
  | t1 l a =>
    have := deep_pos a
    show max (max k d) (d + 1 + a.deep - 1) = max k (d + (1 + a.deep) - 1)
    omega
  | t2 l a b =>
    have := deep_pos a
    have := deep_pos b
    show max (max (max k d) (d + 1 + a.deep - 1)) (d + 1 + b.deep - 1) = max k (d + (1 + max a.deep b.deep) - 1)
    omega
theorem max_e {m d : Nat} : bMax [.d (.int (m : Int)), .d (.int (d : Int))] = some (.int ((max m d : Nat) : Int)) := by
  show some (PyData.int (if (d : Int) > (m : Int) then (d : Int) else (m : Int))) = _
  congr 2
  split <;> omega
theorem deep_b2 {ws : List (Tr × Nat)} {t : Tr} {d m : Nat} (hl : ws.length ≤ 1000) (A B : Sl) :
    m_deep_of_b2 [A, B, .d (.int (m : Nat)), dpL (ws ++ [(t, d)]), .un, .un, .un] = .nx [A, B, .d (.int (max m d : Nat)), dpL (ws ++ t.parts.map fun p => (p, d + 1)), .un, .un, .un] := by
  have h3 : ws.length + 1 ≤ 10000000 := by omega
  have h4 : ws.length + 2 ≤ 10000000 := by omega
  have h5 : ws.length ≤ 10000000 := by omega
  have mx := max_e (m := m) (d := d)
  cases t <;> simp [m_deep_of_b2, o_deep_of_1, oComp, compL, m_deep_of_c1, Tr.parts, Tr.enc, h3, h4, h5, mx]
theorem deep_loop (A B : Sl) : ∀ (k : Nat) (ws : List (Tr × Nat)) (m : Nat), total (ws.map (·.1)) < k → k ≤ 1000 → (∀ w ∈ ws, 1 ≤ w.2) →
    whileL (b2 gGt (qD (eBlt bLen (aR 3 aNil))) (qD (eC (.int 0)))) m_deep_of_b2 k [A, B, .d (.int (m : Nat)), dpL ws, .un, .un, .un] = .nx [A, B, .d (.int (dpS ws m : Nat)), dpL [], .un, .un, .un] := by
  intro k
  induction k with
  | zero => intro ws m h; omega
  | succ k ih =>
    intro ws m h hk hw
    rcases List.eq_nil_or_concat ws with rfl | ⟨us, ⟨t, d⟩, rfl⟩
    · simp [whileL, dpS]
    · rw [List.concat_eq_append] at h hw ⊢
      have hs := size_eq t
      have e1 : total ((us ++ [(t, d)]).map (·.1)) = total (us.map (·.1)) + t.size := by simp [total]
      have e2 : total ((us ++ t.parts.map fun p => (p, d + 1)).map (·.1)) = total (us.map (·.1)) + total t.parts := by
        rw [List.map_append, List.map_map]
        have : t.parts.map ((fun x : Tr × Nat => x.1) ∘ fun p => (p, d + 1)) = t.parts := by
          rw [show ((fun x : Tr × Nat => x.1) ∘ fun p => (p, d + 1)) = id from rfl, List.map_id]
        rw [this]
        simp [total]
      have lu : us.length ≤ total (us.map (·.1)) := by have := len_total (us.map (·.1)); rwa [List.length_map] at this
      have hb := deep_b2 (ws := us) (t := t) (d := d) (m := m) (by omega) A B
      have hi := ih (us ++ t.parts.map fun p => (p, d + 1)) (max m d) (by omega) (by omega) (fun w hm => by
        rcases List.mem_append.mp hm with z | z
        · exact hw w (by simp [z])
        · obtain ⟨q, _, rfl⟩ := List.mem_map.mp z
          show 1 ≤ d + 1
          omega)
      rw [whileL]
      have ht : b2 gGt (qD (eBlt bLen (aR 3 aNil))) (qD (eC (.int 0))) [A, B, .d (.int (m : Nat)), dpL (us ++ [(t, d)]), .un, .un, .un] = .ok true [A, B, .d (.int (m : Nat)), dpL (us ++ [(t, d)]), .un, .un, .un] := by
        simp
      rw [ht]
      dsimp only
      rw [hb]
      dsimp only
      rw [hi, dpS_step us t m d (hw (t, d) (by simp))]
theorem deep_of_ok {rows : List Row} (S : Sg rows) {t : Tr} (h : t.ok rows) (hs : t.size ≤ 100) : F_deep_of [.d (sgD rows), .d t.enc] = .ok (.d (.int (t.deep : Nat))) [.un, .un] := by
  have w := deep_loop (.d (sgD rows)) (.d t.enc) 200 [(t, 1)] 0 (by simp [total]; omega) (by omega) (by simp)
  have e : dpS [(t, 1)] 0 = t.deep := by
    show max 0 (1 + t.deep - 1) = _
    omega
  rw [e] at w
  have w2 := whileL_more 200 20000 _ (by omega) w
  have o : dpL [(t, 1)] = .o true (.lst [.tuple [t.enc, .int 1]]) := rfl
  rw [o] at w2
  simp at w2
  simp [F_deep_of, runBody, m_deep_of, m_deep_of_w3, check_both_ok S h hs, w2]
end K74
end

section
set_option Elab.async false
set_option linter.all false
set_option maxRecDepth 100000
set_option maxHeartbeats 4000000
/-! # Paths, parts -/
namespace K74
open PySem L2 ML

theorem atI_last {α : Type} (xs : List α) (y : α) : atI (xs ++ [y]) (-1) = some y := by
  unfold atI ixN
  rw [List.length_append, List.length_singleton, if_neg (by decide), if_pos (by omega)]
  have e : ((-1 : Int) + ((xs.length + 1 : Nat) : Int)).toNat = xs.length := by omega
  rw [e]
  simp
def rowsOf : List Nat → Tr → List Tr
  | [], t => [t]
  | 0 :: p, .t1 l a => .t1 l a :: rowsOf p a
  | 0 :: p, .t2 l a b => .t2 l a b :: rowsOf p a
  | 1 :: p, .t2 l a b => .t2 l a b :: rowsOf p b
  | _, t => [t]
theorem rows_last {t : Tr} {p : List Nat} {x : Tr} (h : At t p x) : ∃ ys, rowsOf p t = ys ++ [x] ∧ ys.length = p.length := by
  induction h with
  | nil t => exact ⟨[], by rw [rowsOf]; rfl, rfl⟩
  | a1 h ih => obtain ⟨ys, e, l⟩ := ih; exact ⟨_ :: ys, by rw [rowsOf, e]; rfl, by rw [List.length_cons, List.length_cons, l]⟩
  | a2 h ih => obtain ⟨ys, e, l⟩ := ih; exact ⟨_ :: ys, by rw [rowsOf, e]; rfl, by rw [List.length_cons, List.length_cons, l]⟩
  | b2 h ih => obtain ⟨ys, e, l⟩ := ih; exact ⟨_ :: ys, by rw [rowsOf, e]; rfl, by rw [List.length_cons, List.length_cons, l]⟩
abbrev trL (ts : List Tr) : Sl := .o true (.lst (ts.map Tr.enc))
/-- one place further -/
theorem row_b2 (t a : Tr) (i : Nat) (hi : t.parts[i]? = some a) (us : List Tr) (hl : us.length ≤ 1000) (A B : Sl) :
    m_row_to_b2 [A, B, trL (us ++ [t]), .d (.int (i : Nat))] = .nx [A, B, trL ((us ++ [t]) ++ [a]), .un] := by
  have lt : i < t.parts.length := (List.getElem?_eq_some_iff.mp hi).1
  have al := atI_last (us.map Tr.enc) t.enc
  have a1 : atI (t.parts.map Tr.enc) (i : Int) = some a.enc := by rw [atI_nat, List.getElem?_map, hi]; rfl
  have e := enc_eq t
  have w : F_is_within [.d (.int (i : Nat)), .d (.int 0), .d (.int ((t.parts.length : Int) - 1))] = .ok (.d (.bool true)) [.un, .un, .un] := by
    rw [is_within_ok]
    have h1 : (0 : Int) ≤ (i : Int) := by omega
    have h2 : (i : Int) ≤ (t.parts.length : Int) - 1 := by omega
    rw [decide_eq_true h1, decide_eq_true h2]; rfl
  have h2 : us.length + 1 < 10000000 := by omega
  have i1 : m_row_to_i1 [A, B, trL (us ++ [t]), .d (.int (i : Nat))] = .nx [A, B, trL (us ++ [t]), .d (.int (i : Nat))] := by
    simp [m_row_to_i1, al]
    rw [e]
    simp [w]
  simp [m_row_to_b2] at i1 ⊢
  simp [i1, al]
  rw [e]
  simp [a1, h2]
theorem forL_cons_nx {g : GF} {mb : MStm} {d : D} {ds : List D} {e e1 e2 : List Sl} (h : g d e = some e1) (h2 : mb e1 = .nx e2) : forL g mb (d :: ds) e = forL g mb ds e2 := by
  rw [forL, h]
  dsimp only
  rw [h2]
theorem row_loop {t : Tr} {p : List Nat} {x : Tr} (h : At t p x) (A B : Sl) : ∀ (us : List Tr), us.length + p.length ≤ 1000 →
    forL (gN 3) m_row_to_b2 (p.map fun i => PyData.int (i : Nat)) [A, B, trL (us ++ [t]), .un] = .nx [A, B, trL (us ++ rowsOf p t), .un] := by
  induction h with
  | nil t => intro us _; rw [rowsOf]; rfl
  | @a1 l a x p h ih =>
    intro us hl
    rw [List.length_cons] at hl
    rw [List.map_cons, forL_cons_nx (by rw [gN_e]; rfl) (row_b2 (.t1 l a) a 0 rfl us (by omega) A B), ih (us ++ [Tr.t1 l a]) (by rw [List.length_append, List.length_singleton]; omega), rowsOf]
    simp
  | @a2 l a b x p h ih =>
    intro us hl
    rw [List.length_cons] at hl
    rw [List.map_cons, forL_cons_nx (by rw [gN_e]; rfl) (row_b2 (.t2 l a b) a 0 rfl us (by omega) A B), ih (us ++ [Tr.t2 l a b]) (by rw [List.length_append, List.length_singleton]; omega), rowsOf]
    simp
  | @b2 l a b x p h ih =>
    intro us hl
    rw [List.length_cons] at hl
    rw [List.map_cons, forL_cons_nx (by rw [gN_e]; rfl) (row_b2 (.t2 l a b) b 1 rfl us (by omega) A B), ih (us ++ [Tr.t2 l a b]) (by rw [List.length_append, List.length_singleton]; omega), rowsOf]
    simp
theorem row_to_ok {t : Tr} {p : List Nat} {x : Tr} (h : At t p x) (hp : p.length ≤ 900) : F_row_to [.d t.enc, .d (ptD p)] = .ok (.o (.lst ((rowsOf p t).map Tr.enc))) [.un, .un] := by
  have w := row_loop h (.d t.enc) (.d (ptD p)) [] (by simp; omega)
  have i4 : m_row_to_i4 [.d t.enc, .d (ptD p), .un, .un] = .nx [.d t.enc, .d (ptD p), .un, .un] := by simp [m_row_to_i4]
  have w3 : m_row_to_w3 [.d t.enc, .d (ptD p), trL [t], .un] = .nx [.d t.enc, .d (ptD p), trL (rowsOf p t), .un] := by
    rw [m_row_to_w3, sFor_e, xS_e]
    have it : iD (eV 1) [.d t.enc, .d (ptD p), trL [t], .un] = .ok (p.map fun i => PyData.int (i : Nat)) [.d t.enc, .d (ptD p), trL [t], .un] := by simp
    rw [it]
    exact w
  have o : trL [t] = .o true (.lst [t.enc]) := rfl
  rw [o] at w3
  simp [F_row_to, runBody, m_row_to, i4, w3]
theorem part_at_ok {rows : List Row} (S : Sg rows) {t : Tr} (o : t.ok rows) (hs : t.size ≤ 100) {p : List Nat} {x : Tr} (h : At t p x) : F_part_at [.d (sgD rows), .d t.enc, .d (ptD p)] = .ok (.d x.enc) [.un, .un, .un] := by
  have ps := (path_small h).2
  have r := row_to_ok h (by omega)
  obtain ⟨ys, e, _⟩ := rows_last h
  rw [e] at r
  have al := atI_last (ys.map Tr.enc) x.enc
  simp at r
  simp [F_part_at, runBody, m_part_at, check_both_ok S o hs, r, al]
/-! ### another part -/
abbrev zwD (w : Tr × Nat) : D := .tuple [w.1.enc, .int (w.2 : Nat)]
theorem zip_zw : ∀ (ts : List Tr) (p : List Nat), zipD (ts.map Tr.enc) (p.map fun i => PyData.int (i : Nat)) = (ts.zip p).map zwD
  | [], p => by simp [zipD]
  | t :: ts, [] => by simp [zipD]
  | t :: ts, i :: p => by
    rw [List.map_cons, List.map_cons, zipD, zip_zw ts p]; rfl
theorem forL_app {g : GF} {mb : MStm} (nb : ∀ e e', mb e ≠ .bk e') : ∀ (xs ys : List D) (e e' : List Sl), forL g mb xs e = .nx e' → forL g mb (xs ++ ys) e = forL g mb ys e'
  | [], ys, e, e', h => by
    rw [forL] at h
    cases h
    rfl
  | x :: xs, ys, e, e', h => by
    rw [List.cons_append, forL]
    rw [forL] at h
    cases hg : g x e with
    | none => rw [hg] at h; cases h
    | some e1 =>
      rw [hg] at h
      dsimp only at h ⊢
      cases hb : mb e1 with
      | nx e2 => rw [hb] at h; exact forL_app nb xs ys e2 e' h
      | ct e2 => rw [hb] at h; exact forL_app nb xs ys e2 e' h
      | bk e2 => exact absurd hb (nb _ _)
      | rt r e2 => rw [hb] at h; cases h
      | ex c e2 => rw [hb] at h; cases h
      | bad => rw [hb] at h; cases h
theorem cutA0 {x : D} : cut [x] none (some 0) = [] := rfl
theorem cutA1 {x : D} : cut [x] (some 1) none = [] := rfl
theorem cutB0 {x y : D} : cut [x, y] none (some 0) = [] := rfl
theorem cutB1 {x y : D} : cut [x, y] (some 1) none = [y] := rfl
theorem cutB2 {x y : D} : cut [x, y] none (some 1) = [x] := rfl
theorem cutB3 {x y : D} : cut [x, y] (some 2) none = [] := rfl
theorem with_a1 {l : Str} {a y : Tr} (A B C E G : Sl) : m_with_part_b1 [A, B, C, E, G, .d y.enc, .d (Tr.t1 l a).enc, .d (.int (0 : Nat))] = .nx [A, B, C, E, .un, .d (Tr.t1 l y).enc, .un, .un] := by
  have c0 := cutA0 (x := a.enc)
  have c1 := cutA1 (x := a.enc)
  simp [m_with_part_b1, Tr.enc, c0, c1]
theorem with_a2 {l : Str} {a b y : Tr} (A B C E G : Sl) : m_with_part_b1 [A, B, C, E, G, .d y.enc, .d (Tr.t2 l a b).enc, .d (.int (0 : Nat))] = .nx [A, B, C, E, .un, .d (Tr.t2 l y b).enc, .un, .un] := by
  have c0 := cutB0 (x := a.enc) (y := b.enc)
  have c1 := cutB1 (x := a.enc) (y := b.enc)
  simp [m_with_part_b1, Tr.enc, c0, c1]
theorem with_b2 {l : Str} {a b y : Tr} (A B C E G : Sl) : m_with_part_b1 [A, B, C, E, G, .d y.enc, .d (Tr.t2 l a b).enc, .d (.int (1 : Nat))] = .nx [A, B, C, E, .un, .d (Tr.t2 l a y).enc, .un, .un] := by
  have c0 := cutB2 (x := a.enc) (y := b.enc)
  have c1 := cutB3 (x := a.enc) (y := b.enc)
  simp [m_with_part_b1, Tr.enc, c0, c1]
theorem sSet_nb {i : Nat} {m : M D} {e e' : List Sl} : sSet i m e ≠ .bk e' := fun h => by
  rw [sSet_e, xS_e] at h
  cases q : m e <;> rw [q] at h <;> cases h
theorem with_nb : ∀ e e', m_with_part_b1 e ≠ .bk e' := fun e e' h => by
  rw [m_with_part_b1, sFg_e] at h
  generalize q : sSet 5 _ e = r at h
  cases r with
  | bk e2 => exact sSet_nb q
  | _ => cases h
theorem g67 (t y : Tr) (i : Nat) (A B C E G : Sl) : gT (gCons (gN 6) (gCons (gN 7) gNil)) (zwD (t, i)) [A, B, C, E, G, .d y.enc, .un, .un] = some [A, B, C, E, G, .d y.enc, .d t.enc, .d (.int (i : Nat))] := rfl
theorem with_loop {t : Tr} {p : List Nat} {x : Tr} (h : At t p x) (y : Tr) (A B C E : Sl) : ∀ G : Sl, ∃ G',
    forL (gT (gCons (gN 6) (gCons (gN 7) gNil))) m_with_part_b1 (((rowsOf p t).zip p).reverse.map zwD) [A, B, C, E, G, .d y.enc, .un, .un] = .nx [A, B, C, E, G', .d (put p t y).enc, .un, .un] := by
  induction h with
  | nil t => intro G; rw [rowsOf, put]; exact ⟨G, rfl⟩
  | @a1 l a x p h ih =>
    intro G
    obtain ⟨G', e⟩ := ih G
    refine ⟨.un, ?_⟩
    rw [rowsOf, List.zip_cons_cons, List.reverse_cons, List.map_append, forL_app with_nb _ _ _ _ e, List.map_singleton, put, forL_cons_nx (g67 (.t1 l a) _ 0 A B C E G') (with_a1 A B C E G')]
    rfl
  | @a2 l a b x p h ih =>
    intro G
    obtain ⟨G', e⟩ := ih G
    refine ⟨.un, ?_⟩
    rw [rowsOf, List.zip_cons_cons, List.reverse_cons, List.map_append, forL_app with_nb _ _ _ _ e, List.map_singleton, put, forL_cons_nx (g67 (.t2 l a b) _ 0 A B C E G') (with_a2 A B C E G')]
    rfl
  | @b2 l a b x p h ih =>
    intro G
    obtain ⟨G', e⟩ := ih G
    refine ⟨.un, ?_⟩
    rw [rowsOf, List.zip_cons_cons, List.reverse_cons, List.map_append, forL_app with_nb _ _ _ _ e, List.map_singleton, put, forL_cons_nx (g67 (.t2 l a b) _ 1 A B C E G') (with_b2 A B C E G')]
    rfl
theorem with_part_ok {rows : List Row} (S : Sg rows) {t : Tr} (o : t.ok rows) (hs : t.size ≤ 100) {p : List Nat} {x y : Tr} (h : At t p x) (oy : y.ok rows) (sy : y.size ≤ 100) :
    F_with_part [.d (sgD rows), .d t.enc, .d (ptD p), .d y.enc] = .ok (.d (put p t y).enc) [.un, .un, .un, .un] := by
  have ps := (path_small h).2
  have r := row_to_ok h (by omega)
  obtain ⟨G, w⟩ := with_loop h y (.d (sgD rows)) (.d t.enc) (.d (ptD p)) (.d y.enc) (.d (.list ((rowsOf p t).map Tr.enc)))
  have zz := zip_zw (rowsOf p t) p
  have w2 : m_with_part_w2 [.d (sgD rows), .d t.enc, .d (ptD p), .d y.enc, .d (.list ((rowsOf p t).map Tr.enc)), .d y.enc, .un, .un] = .nx [.d (sgD rows), .d t.enc, .d (ptD p), .d y.enc, G, .d (put p t y).enc, .un, .un] := by
    rw [m_with_part_w2, sFor_e, xS_e]
    have it : iD (eO (oRevQ (qF (oBlt bZipL (aR 4 (aR 2 aNil)))))) [.d (sgD rows), .d t.enc, .d (ptD p), .d y.enc, .d (.list ((rowsOf p t).map Tr.enc)), .d y.enc, .un, .un] = .ok (((rowsOf p t).zip p).reverse.map zwD) [.d (sgD rows), .d t.enc, .d (ptD p), .d y.enc, .d (.list ((rowsOf p t).map Tr.enc)), .d y.enc, .un, .un] := by
      simp [zz]
    rw [it]
    exact w
  simp [F_with_part, runBody, m_with_part, check_both_ok S o hs, check_tree_ok S oy sy, r]
  simp [w2]
end K74
end

section
set_option Elab.async false
set_option linter.all false
set_option maxRecDepth 100000
set_option maxHeartbeats 4000000
/-! # Hands, signatures -/
namespace K74
open PySem L2 ML
theorem oComp_hand {mi : M (List D)} {g : GF} {te : M D} {vs : List Nat} {e e1 : List Sl} {ds : List D} {enc : List D → List Sl} {h : List D} {Q : D → Prop} (H : HandOk h) (hi : mi e = .ok ds e1) (hw : wipeE e1 vs = enc h)
    (step : ∀ d ∈ ds, ∀ h, HandOk h → ∃ e2 y e3 h', g d (enc h) = some e2 ∧ te e2 = .ok y e3 ∧ wipeE e3 vs = enc h' ∧ HandOk h' ∧ Q y) (hl : ds.length ≤ LIM) :
    ∃ ys h', oComp mi g (ML.ret true) te vs e = .ok (.lst ys) (restE e1 (enc h') vs) ∧ HandOk h' ∧ (∀ y ∈ ys, Q y) ∧ ys.length = ds.length := by
  obtain ⟨ys, h', c1, ⟨_, c2, c3⟩, c4⟩ := compL_to (σ := List D) (enc := enc) (g := g) (te := te) (vs := vs) ds (fun r done h => (∀ d ∈ r, d ∈ ds) ∧ HandOk h ∧ ∀ y ∈ done, Q y) (fun d r done h ⟨p1, p2, p3⟩ => by
    obtain ⟨e2, y, e3, h', s1, s2, s3, s4, s5⟩ := step d (p1 d List.mem_cons_self) h p2
    refine ⟨e2, y, e3, h', s1, s2, s3, fun x hx => p1 x (List.mem_cons_of_mem _ hx), s4, fun z hz => ?_⟩
    rcases List.mem_append.mp hz with q | q
    · exact p3 z q
    · rw [List.mem_singleton.mp q]; exact s5) [] h ⟨fun _ h => h, H, fun y hy => by cases hy⟩ (by simpa using hl)
  refine ⟨ys, h', ?_, c2, c3, by simpa using c4⟩
  unfold oComp ML.bind
  rw [hi]
  dsimp only
  rw [hw, c1]
def W (c : Nat) (cs : List Nat) : Str := ⟨(c :: cs).toArray⟩
theorem W_lt {c d : Nat} {cs ds : List Nat} (h : c < d) : strLt (W c cs) (W d ds) = true := by
  have e : strLt (W c cs) (W d ds) = PyProof.Rows.lexLt PyProof.Rows.itemOrd [Sum.inr (c :: cs)] [Sum.inr (d :: ds)] := rfl
  rw [e, PySem.W.lex_one]
  exact decide_eq_true (List.Lex.rel h)
def mk : Str → List Tr → Tr
  | l, [] => .t0 l
  | l, [a] => .t1 l a
  | l, a :: b :: _ => .t2 l a b
theorem enc_mk (l : Str) {qs : List Tr} (h : qs.length ≤ 2) : (mk l qs).enc = .tuple [.str l, .tuple (qs.map Tr.enc)] := by
  match qs, h with
  | [], _ => rfl
  | [a], _ => rfl
  | [a, b], _ => rfl
theorem size_mk (l : Str) {qs : List Tr} (h : qs.length ≤ 2) : (mk l qs).size = 1 + total qs := by
  match qs, h with
  | [], _ => rfl
  | [a], _ => simp [mk, Tr.size, total]
  | [a, b], _ => simp [mk, Tr.size, total]; omega
theorem ok_mk {rows : List Row} {l : Str} {qs : List Tr} (h : qs.length ≤ 2) (m : (l, (qs.length : Int)) ∈ rows) (o : ∀ q ∈ qs, q.ok rows) : (mk l qs).ok rows := by
  match qs, h with
  | [], _ => exact m
  | [a], _ => exact ⟨m, o a (by simp)⟩
  | [a, b], _ => exact ⟨m, o a (by simp), o b (by simp)⟩
/-- the trees of one node, as the rows stand -/
def leaves (rows : List Row) : List Tr := (rows.filter fun p => decide (p.2 = 0)).map fun p => .t0 p.1
def rank0 : D → Bool
  | .tuple [_, .int r] => decide (r = 0)
  | _ => false
def leafD : D → D
  | .tuple [.str l, _] => .tuple [.str l, .tuple []]
  | _ => .none
theorem leaves_eq : ∀ rows : List Row, ((rows.map rowD).filter rank0).map leafD = (leaves rows).map Tr.enc
  | [] => rfl
  | p :: rows => by
    have ih := leaves_eq rows
    unfold leaves at ih ⊢
    rw [List.map_cons, List.filter_cons, List.filter_cons]
    by_cases h : p.2 = 0
    · have e : rank0 (rowD p) = true := decide_eq_true h
      rw [if_pos e, if_pos (decide_eq_true h), List.map_cons, List.map_cons, List.map_cons, ih]
      rfl
    · have e : rank0 (rowD p) = false := decide_eq_false h
      rw [if_neg (by rw [e]; exact Bool.false_ne_true), if_neg (by rw [decide_eq_false h]; exact Bool.false_ne_true), ih]
theorem leaves_ok {rows : List Row} : ∀ t ∈ leaves rows, t.ok rows ∧ t.size = 1 := fun t ht => by
  obtain ⟨p, hp, rfl⟩ := List.mem_map.mp ht
  obtain ⟨h1, h2⟩ := List.mem_filter.mp hp
  have h3 : p.2 = 0 := of_decide_eq_true h2
  refine ⟨?_, rfl⟩
  show (p.1, (0 : Int)) ∈ rows
  rw [← h3]; exact h1
theorem leaves_ne {rows : List Row} (S : Sg rows) : leaves rows ≠ [] := fun z => by
  obtain ⟨p, hp, e⟩ := S.zero
  have : Tr.t0 p.1 ∈ leaves rows := List.mem_map.mpr ⟨p, List.mem_filter.mpr ⟨hp, decide_eq_true e⟩, rfl⟩
  rw [z] at this; cases this
theorem leaves_len (rows : List Row) : (leaves rows).length ≤ rows.length := by
  unfold leaves
  rw [List.length_map]
  exact List.length_filter_le _ _

theorem bag_ok (ns : List Int) (hl : ns.length ≤ 100) : ∃ h, F__law_bag [.sc ns] = .ok (.o (.lst h)) [.un] ∧ HandOk h := by
  have o : ∃ cs : List Int, o__law_bag_1 [.sc ns, .un, .un] = .ok (.lst (cs.map PyData.int)) [.sc ns, .un, .un] ∧ cs.length ≤ 100 := by
    have e : cut (ns.map PyData.int) none (some 63) = (cut ns none (some 63)).map PyData.int := by
      unfold cut
      rw [List.length_map, List.map_take, List.map_drop]
    have ll : (cut ns none (some 63)).length ≤ 100 := by
      unfold cut
      rw [List.length_take, List.length_drop]
      omega
    refine ⟨(cut ns none (some 63)).map fun i => (if i < 0 then -i else i) % (10 ^ 36), ?_, by rw [List.length_map]; exact ll⟩
    rw [List.map_map]
    refine (oComp_mapT (ts := cut ns none (some 63)) (en := PyData.int) (f := PyData.int ∘ fun i => (if i < 0 then -i else i) % (10 ^ 36)) (e1 := [.sc ns, .un, .un]) (by simp [e]) (fun i hi => ?_) ?_).trans (by simp)
    · exact ⟨[.sc ns, .un, .d (.int i)], by simp, by simp [m__law_bag_c1], by simp⟩
    · show _ ≤ 10000000
      omega
  obtain ⟨cs, o, lc⟩ := o
  have s11 : small 11 = true := by decide
  refine ⟨handD cs 0 0 (6133 + 11 * cs.length) 0, ?_, ⟨_, _, _, _, _, rfl, by omega⟩⟩
  simp [F__law_bag, runBody, m__law_bag, o, s11, handD]
/-! ### the known signatures -/
def sigs : List (List Row) := [[("a", 0), ("b", 0), ("f", 1), ("g", 2), ("h", 1), ("k", 2)], [("a", 0), ("b", 0), ("s", 1)],
  [("e", 0), ("m", 2), ("n", 2)], [("a", 0), ("b", 0), ("c", 0), ("g", 2)], [("f", 1), ("g", 1), ("z", 0)], [("a", 0), ("g", 2), ("k", 2), ("u", 1)]]
def one (c : Nat) : Str := ⟨#[c]⟩
def risC : List Nat → Bool
  | [] => true
  | [_] => true
  | c :: d :: r => decide (c < d) && risC (d :: r)
theorem risC_at : ∀ (cs : List Nat) (i a b : Nat), risC cs = true → cs[i]? = some a → cs[i + 1]? = some b → a < b
  | [], i, a, b, _, h, _ => by simp at h
  | [c], i, a, b, _, _, h => by simp at h
  | c :: d :: r, 0, a, b, h, h1, h2 => by
    have q := (Bool.and_eq_true_iff.mp h).1
    cases h1; cases h2
    exact of_decide_eq_true q
  | c :: d :: r, i + 1, a, b, h, h1, h2 => risC_at (d :: r) i a b (Bool.and_eq_true_iff.mp h).2 h1 h2
theorem sg_of (cs : List (Nat × Int)) (h1 : 1 ≤ cs.length) (h2 : cs.length ≤ 10) (h3 : ∀ p ∈ cs, 97 ≤ p.1 ∧ p.1 ≤ 122) (h4 : ∀ p ∈ cs, p.2 = 0 ∨ p.2 = 1 ∨ p.2 = 2) (h5 : risC (cs.map (·.1)) = true) (h6 : (cs.map (·.1)).Nodup) (h7 : ∃ p ∈ cs, p.2 = 0) : Sg (cs.map fun p => (one p.1, p.2)) where
  lo := by rw [List.length_map]; exact h1
  hi := by rw [List.length_map]; exact h2
  nm := fun p hp => by
    obtain ⟨q, hq, rfl⟩ := List.mem_map.mp hp
    exact ⟨Nat.le_refl _, show (1 : Nat) ≤ 8 by decide, fun c hc => by
      have : c = q.1 := by simpa [one] using hc
      rw [this]; exact h3 q hq⟩
  rk := fun p hp => by
    obtain ⟨q, hq, rfl⟩ := List.mem_map.mp hp
    exact h4 q hq
  nd := by
    rw [List.map_map]
    have e : ((fun x : Row => x.1) ∘ fun p : Nat × Int => (one p.1, p.2)) = one ∘ fun p => p.1 := rfl
    rw [e, ← List.map_map]
    exact nodup_map (fun a b e => by
      have : (one a).cps.toList = (one b).cps.toList := by rw [e]
      simpa [one] using this) h6
  rise := fun i a b ha hb => by
    rw [List.getElem?_map] at ha hb
    obtain ⟨p, hp, rfl⟩ := Option.map_eq_some_iff.mp ha
    obtain ⟨q, hq, rfl⟩ := Option.map_eq_some_iff.mp hb
    have lt := risC_at (cs.map (·.1)) i p.1 q.1 h5 (by rw [List.getElem?_map, hp]; rfl) (by rw [List.getElem?_map, hq]; rfl)
    exact W_lt (cs := []) (ds := []) lt
  zero := by
    obtain ⟨p, hp, e⟩ := h7
    exact ⟨_, List.mem_map_of_mem hp, e⟩
structure Sg2 (rows : List Row) : Prop where
  sg : Sg rows
  more : ∃ p ∈ rows, 0 < p.2
  zz : ∀ p ∈ rows, p.1 ≠ ("zz" : Str)
theorem ne_zz {c : Nat} : one c ≠ ("zz" : Str) := fun h => by
  have : (one c).length = ("zz" : Str).length := by rw [h]
  exact absurd this (by show ¬ (1 = 2); decide)
theorem sg2_of (cs : List (Nat × Int)) (h1 : 1 ≤ cs.length) (h2 : cs.length ≤ 10) (h3 : ∀ p ∈ cs, 97 ≤ p.1 ∧ p.1 ≤ 122) (h4 : ∀ p ∈ cs, p.2 = 0 ∨ p.2 = 1 ∨ p.2 = 2) (h5 : risC (cs.map (·.1)) = true) (h6 : (cs.map (·.1)).Nodup) (h7 : ∃ p ∈ cs, p.2 = 0) (h8 : ∃ p ∈ cs, 0 < p.2) : Sg2 (cs.map fun p => (one p.1, p.2)) where
  sg := sg_of cs h1 h2 h3 h4 h5 h6 h7
  more := by
    obtain ⟨p, hp, e⟩ := h8
    exact ⟨_, List.mem_map_of_mem hp, e⟩
  zz := fun p hp => by
    obtain ⟨q, hq, rfl⟩ := List.mem_map.mp hp
    exact ne_zz
theorem sigs_ok : ∀ rows ∈ sigs, Sg2 rows := by
  intro rows h
  simp only [sigs, List.mem_cons, List.not_mem_nil, or_false] at h
  rcases h with rfl | rfl | rfl | rfl | rfl | rfl
  · exact sg2_of [(97, 0), (98, 0), (102, 1), (103, 2), (104, 1), (107, 2)] (by decide) (by decide) (by decide) (by decide) (by decide) (by decide) (by decide) (by decide)
  · exact sg2_of [(97, 0), (98, 0), (115, 1)] (by decide) (by decide) (by decide) (by decide) (by decide) (by decide) (by decide) (by decide)
  · exact sg2_of [(101, 0), (109, 2), (110, 2)] (by decide) (by decide) (by decide) (by decide) (by decide) (by decide) (by decide) (by decide)
  · exact sg2_of [(97, 0), (98, 0), (99, 0), (103, 2)] (by decide) (by decide) (by decide) (by decide) (by decide) (by decide) (by decide) (by decide)
  · exact sg2_of [(102, 1), (103, 1), (122, 0)] (by decide) (by decide) (by decide) (by decide) (by decide) (by decide) (by decide) (by decide)
  · exact sg2_of [(97, 0), (103, 2), (107, 2), (117, 1)] (by decide) (by decide) (by decide) (by decide) (by decide) (by decide) (by decide) (by decide)
theorem signature_ok {h : List D} (H : HandOk h) : ∃ (rows : List Row) (h' : List D), F__law_signature [hS h] = .ok (.d (sgD rows)) [hS h'] ∧ HandOk h' ∧ Sg2 rows := by
  obtain ⟨x, h', e, H', m⟩ := some_ok H (xs := sigs.map sgD) (t := .list (sigs.map sgD)) (by decide) (by decide) (.inl rfl)
  obtain ⟨rows, hr, rfl⟩ := List.mem_map.mp m
  refine ⟨rows, h', ?_, H', sigs_ok rows hr⟩
  simp only [sigs, List.map_cons, List.map_nil, sgD, rowD] at e
  simp [F__law_signature, runBody, m__law_signature, e]
end K74
end

section
set_option Elab.async false
set_option linter.all false
set_option maxRecDepth 100000
set_option maxHeartbeats 4000000
/-! # A tree drawn -/
namespace K74
open PySem L2 ML

/-! ### nodes, by the law -/
theorem lnodes_b1 {ts : List Tr} {t : Tr} (hl : ts.length ≤ 1000) (a : Sl) (n : Int) :
    m__law_nodes_b1 [a, .d (.int n), .o true (.lst ((ts ++ [t]).map Tr.enc)), .un] = .nx [a, .d (.int (n + 1)), .o true (.lst ((ts ++ t.parts).map Tr.enc)), .un] := by
  have pl := parts_len t
  have hl2 : ts.length + t.parts.length ≤ 10000000 := by omega
  rw [List.map_append, List.map_singleton, enc_eq t]
  simp [m__law_nodes_b1, hl2]
theorem lnodes_loop (a : Sl) : ∀ (k : Nat) (n : Int) (ts : List Tr), total ts < k → k ≤ 1000 →
    whileL (b2 gGt (qD (eBlt bLen (aR 2 aNil))) (qD (eC (.int 0)))) m__law_nodes_b1 k [a, .d (.int n), .o true (.lst (ts.map Tr.enc)), .un] = .nx [a, .d (.int (n + total ts)), .o true (.lst []), .un] := by
  intro k
  induction k with
  | zero => intro n ts h; omega
  | succ k ih =>
    intro n ts h hk
    rcases List.eq_nil_or_concat ts with rfl | ⟨us, t, rfl⟩
    · simp [whileL, total]
    · rw [List.concat_eq_append] at h ⊢
      have hs := size_eq t
      have e1 : total (us ++ [t]) = total us + t.size := by simp [total]
      have e2 : total (us ++ t.parts) = total us + total t.parts := by simp [total]
      have lu : us.length ≤ total us := len_total us
      have hb := lnodes_b1 (ts := us) (t := t) (by omega) a n
      have hi := ih (n + 1) (us ++ t.parts) (by omega) (by omega)
      rw [whileL]
      have ht : b2 gGt (qD (eBlt bLen (aR 2 aNil))) (qD (eC (.int 0))) [a, .d (.int n), .o true (.lst ((us ++ [t]).map Tr.enc)), .un] = .ok true [a, .d (.int n), .o true (.lst ((us ++ [t]).map Tr.enc)), .un] := by
        simp
      rw [ht]
      dsimp only
      rw [hb]
      dsimp only
      rw [hi]
      have e3 : n + 1 + ((total (us ++ t.parts) : Nat) : Int) = n + ((total (us ++ [t]) : Nat) : Int) := by omega
      rw [e3]
theorem law_nodes_ok {t : Tr} (hs : t.size ≤ 100) : F__law_nodes [.d t.enc] = .ok (.d (.int t.size)) [.un] := by
  have w := lnodes_loop (.d t.enc) 200 0 [t] (by simp [total]; omega) (by omega)
  have w2 := whileL_more 200 20000 _ (by omega) w
  have e : (total [t] : Nat) = t.size := by simp [total]
  rw [e] at w2
  simp at w2
  simp [F__law_nodes, runBody, m__law_nodes, m__law_nodes_w2, w2]
/-! ### a tree drawn -/
theorem cut_last (xs : List D) (v : Int) (k : Nat) (hv : v = -(k : Int)) (hk : 0 < k) : cut xs (some v) none = xs.drop (xs.length - k) := by
  subst hv
  unfold cut
  have e : HT.sIx xs.length 0 (some (-(k : Int))) = xs.length - k := by
    show (if -(k : Int) < 0 then (-(k : Int) + (xs.length : Int)).toNat else min (-(k : Int)).toNat xs.length) = _
    rw [if_pos (by omega)]
    omega
  rw [e, HT.sIx_none]
  exact List.take_of_length_le (by rw [List.length_drop]; exact Nat.le_refl _)
def lastT (k : Nat) (ts : List Tr) : List Tr := ts.drop (ts.length - k)
theorem lastT_mem {k : Nat} {ts : List Tr} : ∀ t ∈ lastT k ts, t ∈ ts := fun t h => List.mem_of_mem_drop h
theorem lastT_len {k : Nat} {ts : List Tr} : (lastT k ts).length ≤ ts.length := by
  unfold lastT
  rw [List.length_drop]; omega
theorem lastT_ne {k : Nat} {ts : List Tr} (hk : 0 < k) (h : ts ≠ []) : 0 < (lastT k ts).length := by
  have := List.length_pos_iff.mpr h
  unfold lastT
  rw [List.length_drop]; omega
theorem cut4 (ts : List Tr) : cut (ts.map Tr.enc) (some (-4)) none = (lastT 4 ts).map Tr.enc := by
  rw [cut_last _ (-4) 4 rfl (by omega), List.length_map, lastT, List.map_drop]
theorem cut2 (ts : List Tr) : cut (ts.map Tr.enc) (some (-2)) none = (lastT 2 ts).map Tr.enc := by
  rw [cut_last _ (-2) 2 rfl (by omega), List.length_map, lastT, List.map_drop]
abbrev tEnv (h : List D) (rows : List Row) (ts : List Tr) (a b c d e f : Sl) : List Sl := [hS h, .d (sgD rows), .d (.int 9), trL ts, a, b, c, d, e, f]
def rankP : D → Bool
  | .tuple [_, .int r] => decide (0 < r)
  | _ => false
def upRows (rows : List Row) : List Row := rows.filter fun p => decide (0 < p.2)
theorem upRows_eq : ∀ rows : List Row, ((rows.map rowD).filter rankP).map (fun d => d) = (upRows rows).map rowD
  | [] => rfl
  | p :: rows => by
    have ih := upRows_eq rows
    unfold upRows at ih ⊢
    rw [List.map_cons, List.filter_cons, List.filter_cons]
    by_cases h : 0 < p.2
    · have e : rankP (rowD p) = true := decide_eq_true h
      rw [if_pos e, if_pos (decide_eq_true h), List.map_cons, List.map_cons, ih]
    · have e : rankP (rowD p) = false := decide_eq_false h
      rw [if_neg (by rw [e]; exact Bool.false_ne_true), if_neg (by rw [decide_eq_false h]; exact Bool.false_ne_true), ih]
theorem tree_o1 {h : List D} (H : HandOk h) (rows : List Row) {ts : List Tr} (hne : ts ≠ []) (hl : ts.length ≤ 1000) (a b d : Sl) (r : Nat) (hr : r ≤ 2) : ∃ (qs : List Tr) (h' : List D),
    o__law_tree_1 (tEnv h rows ts a b (.d (.int r)) d .un .un) = .ok (.lst (qs.map Tr.enc)) (tEnv h' rows ts a b (.d (.int r)) d .un .un) ∧ HandOk h' ∧ (∀ q ∈ qs, q ∈ ts) ∧ qs.length = r := by
  have kk : r < 4611686018427387904 := by omega
  have l4 := lastT_ne (k := 4) (by omega) hne
  have l4b := lastT_len (k := 4) (ts := ts)
  have c4 := cut4 ts
  obtain ⟨ys, h', o1, o2, o3, o4⟩ := oComp_hand (g := gN 9) (te := m__law_tree_c1) (vs := [9]) (e := tEnv h rows ts a b (.d (.int r)) d .un .un)
    (mi := iRg rng1 (aD (eV 6) aNil)) (e1 := tEnv h rows ts a b (.d (.int r)) d .un .un) (ds := (List.range ((r : Int)).toNat).map fun (i : Nat) => .int (0 + (i : Nat)))
    (enc := fun h => tEnv h rows ts a b (.d (.int r)) d .un .un) (Q := fun y => ∃ q : Tr, y = q.enc ∧ q ∈ ts) H (by simp [kk]) (by simp) (fun x _ h H => by
      obtain ⟨y, h', e, H', my⟩ := some_ok H (xs := (lastT 4 ts).map Tr.enc) (t := .list ((lastT 4 ts).map Tr.enc)) (by rw [List.length_map]; exact l4) (by rw [List.length_map]; omega) (.inl rfl)
      obtain ⟨q, hq, rfl⟩ := List.mem_map.mp my
      exact ⟨tEnv h rows ts a b (.d (.int r)) d .un (.d x), q.enc, tEnv h' rows ts a b (.d (.int r)) d .un (.d x), h', by simp, by simp [m__law_tree_c1, c4, e], by simp, H', q, rfl, lastT_mem q hq⟩) (by
      rw [List.length_map, List.length_range]
      show _ ≤ 10000000
      omega)
  obtain ⟨qs, rfl, hj⟩ : ∃ qs : List Tr, ys = qs.map Tr.enc ∧ ∀ q ∈ qs, q ∈ ts := by
    clear o1 o4
    induction ys with
    | nil => exact ⟨[], rfl, fun c hc => by cases hc⟩
    | cons y ys ih =>
      obtain ⟨c, rfl, hc⟩ := o3 y List.mem_cons_self
      obtain ⟨cs, rfl, hcs⟩ := ih fun z hz => o3 z (List.mem_cons_of_mem _ hz)
      exact ⟨c :: cs, rfl, fun x hx => by
        rcases List.mem_cons.mp hx with rfl | hx
        · exact hc
        · exact hcs x hx⟩
  refine ⟨qs, h', ?_, o2, hj, ?_⟩
  · unfold o__law_tree_1
    rw [o1]
    simp
  · rw [List.length_map, List.length_map, List.length_range] at o4
    omega
theorem tree_b3' {h : List D} (H : HandOk h) {rows : List Row} (S : Sg2 rows) {ts : List Tr} (hne : ts ≠ []) (hl : ts.length ≤ 500) (hok : ∀ t ∈ ts, t.ok rows ∧ t.size ≤ 9) (a : D) : ∃ (ts' : List Tr) (h' : List D),
    m__law_tree_b3 (tEnv h rows ts (.d a) .un .un .un .un .un) = .nx (tEnv h' rows ts' .un .un .un .un .un .un) ∧ HandOk h' ∧ ts' ≠ [] ∧ ts'.length ≤ ts.length + 1 ∧ ∀ t ∈ ts', t.ok rows ∧ t.size ≤ 9 := by
  have o2 : o__law_tree_2 (tEnv h rows ts (.d a) .un .un .un .un .un) = .ok (.lst ((upRows rows).map rowD)) (tEnv h rows ts (.d a) .un .un .un .un .un) := by
    rw [← upRows_eq]
    refine (oComp_filter (p := rankP) (f := fun d => d) (ds := rows.map rowD) (e1 := tEnv h rows ts (.d a) .un .un .un .un .un) (by simp) (fun d hd => ?_) ?_).trans (by simp)
    · obtain ⟨z, r, rfl, _, _, _⟩ := sig_rows S.sg hd
      exact ⟨tEnv h rows ts (.d a) .un .un .un (.d (.tuple [.str z, .int r])) .un, by simp, by simp [rankP], fun _ => by simp [m__law_tree_c2], by simp⟩
    · rw [List.length_map]
      have := S.sg.hi
      show _ ≤ 10000000
      omega
  have ule : (upRows rows).length ≤ rows.length := List.length_filter_le _ _
  have shi := S.sg.hi
  have upos : 0 < (upRows rows).length := by
    obtain ⟨p, hp, e⟩ := S.more
    exact List.length_pos_iff.mpr (List.ne_nil_of_mem (List.mem_filter.mpr ⟨hp, decide_eq_true e⟩))
  obtain ⟨x, h1, e1, H1, mx⟩ := some_ok H (xs := (upRows rows).map rowD) (t := .list ((upRows rows).map rowD)) (by rw [List.length_map]; exact upos) (by rw [List.length_map]; omega) (.inl rfl)
  obtain ⟨p, hp, rfl⟩ := List.mem_map.mp mx
  have hp' : p ∈ rows := (List.mem_filter.mp hp).1
  obtain ⟨r, hr, r2⟩ : ∃ r : Nat, p.2 = (r : Int) ∧ r ≤ 2 := by
    rcases S.sg.rk p hp' with q | q | q
    · exact ⟨0, q, by omega⟩
    · exact ⟨1, q, by omega⟩
    · exact ⟨2, q, by omega⟩
  obtain ⟨qs, h2, o1, H2, hq, lq⟩ := tree_o1 H1 rows hne (by omega) (.d a) (.d (.str p.1)) .un r r2
  have em := enc_mk p.1 (qs := qs) (by omega)
  have sm := size_mk p.1 (qs := qs) (by omega)
  have tq : total qs ≤ 9 * qs.length := by
    have : ∀ us : List Tr, (∀ u ∈ us, u.size ≤ 9) → total us ≤ 9 * us.length := fun us => by
      induction us with
      | nil => intro _; exact Nat.le_refl _
      | cons u us ih =>
        intro h
        have i := ih fun x hx => h x (List.mem_cons_of_mem _ hx)
        have := h u List.mem_cons_self
        simp [total] at i ⊢
        omega
    exact this qs fun q h => (hok q (hq q h)).2
  have nd := law_nodes_ok (t := mk p.1 qs) (by omega)
  have okm : (mk p.1 qs).ok rows := ok_mk (by omega) (by rw [lq, ← hr]; exact hp') fun q h => (hok q (hq q h)).1
  have e1' : F__law_some [hS h, .d (.list ((upRows rows).map rowD))] = .ok (.d (.tuple [.str p.1, .int (r : Nat)])) [hS h1, .un] := by rw [← hr]; exact e1
  have l1 : ts.length + 1 ≤ 10000000 := by omega
  have l0 : ts.length ≤ 10000000 := by omega
  have lqq : qs.length ≤ 10000000 := by omega
  rw [em] at nd
  by_cases c : (mk p.1 qs).size ≤ 9
  · have c1 : ((mk p.1 qs).size : Int) ≤ 9 := by omega
    refine ⟨ts ++ [mk p.1 qs], h2, ?_, H2, by simp, by simp, fun t ht => ?_⟩
    · simp [m__law_tree_b3, o2, e1', o1, nd, c1, l1, em]
    · rcases List.mem_append.mp ht with q | q
      · exact hok t q
      · rw [List.mem_singleton.mp q]
        exact ⟨okm, c⟩
  · have c1 : ¬ ((mk p.1 qs).size : Int) ≤ 9 := by omega
    refine ⟨ts, h2, ?_, H2, hne, by omega, hok⟩
    simp [m__law_tree_b3, o2, e1', o1, nd, c1, l0]
theorem tree_w' {rows : List Row} (S : Sg2 rows) : ∀ (ds : List D) (ts : List Tr) (h : List D), HandOk h → ts ≠ [] → ts.length + ds.length ≤ 500 → (∀ t ∈ ts, t.ok rows ∧ t.size ≤ 9) → ∃ (ts' : List Tr) (h' : List D),
    forL (gN 4) m__law_tree_b3 ds (tEnv h rows ts .un .un .un .un .un .un) = .nx (tEnv h' rows ts' .un .un .un .un .un .un) ∧ HandOk h' ∧ ts' ≠ [] ∧ ts'.length ≤ 500 ∧ ∀ t ∈ ts', t.ok rows ∧ t.size ≤ 9 := by
  intro ds
  induction ds with
  | nil => intro ts h H hne hl hok; exact ⟨ts, h, rfl, H, hne, by simpa using hl, hok⟩
  | cons d ds ih =>
    intro ts h H hne hl hok
    rw [List.length_cons] at hl
    obtain ⟨ts1, h1, b, H1, n1, l1, ok1⟩ := tree_b3' H S hne (by omega) hok d
    obtain ⟨ts2, h2, e, H2, n2, l2, ok2⟩ := ih ts1 h1 H1 n1 (by omega) ok1
    refine ⟨ts2, h2, ?_, H2, n2, l2, ok2⟩
    rw [forL]
    simp only [gN_e, List.set]
    rw [b]
    exact e
theorem law_tree_ok {h : List D} (H : HandOk h) {rows : List Row} (S : Sg2 rows) : ∃ (t : Tr) (h' : List D), F__law_tree [hS h, .d (sgD rows), .d (.int 9)] = .ok (.d t.enc) [hS h', .un, .un] ∧ HandOk h' ∧ t.ok rows ∧ t.size ≤ 9 := by
  have ll := leaves_len rows
  have sh := S.sg.hi
  have o5 : o__law_tree_5 [hS h, .d (sgD rows), .d (.int 9), .un, .un, .un, .un, .un, .un, .un] = .ok (.lst ((leaves rows).map Tr.enc)) [hS h, .d (sgD rows), .d (.int 9), .un, .un, .un, .un, .un, .un, .un] := by
    rw [← leaves_eq]
    refine (oComp_filter (p := rank0) (f := leafD) (ds := rows.map rowD) (e1 := [hS h, .d (sgD rows), .d (.int 9), .un, .un, .un, .un, .un, .un, .un]) (by simp) (fun d hd => ?_) ?_).trans (by simp)
    · obtain ⟨z, r, rfl, _, _, _⟩ := sig_rows S.sg hd
      exact ⟨[hS h, .d (sgD rows), .d (.int 9), .un, .un, .d (.str z), .d (.int r), .un, .un, .un], by simp, by simp [rank0], fun _ => by simp [m__law_tree_c5, leafD], by simp⟩
    · rw [List.length_map]
      show _ ≤ 10000000
      omega
  obtain ⟨n, h1, d1, H1, n0, n1⟩ := draw_ok H (m := 9) (by decide) (by decide)
  have nn : n.natAbs < 4611686018427387904 := by omega
  obtain ⟨ts, h2, w, H2, ne, tl, ok⟩ := tree_w' S ((List.range n.toNat).map fun (i : Nat) => .int (0 + (i : Nat))) (leaves rows) h1 H1 (leaves_ne S.sg) (by rw [List.length_map, List.length_range]; omega) (fun t ht => by
    have := leaves_ok t ht
    exact ⟨this.1, by omega⟩)
  have w4 : m__law_tree_w4 [hS h, .d (sgD rows), .d (.int 9), trL (leaves rows), .un, .un, .un, .un, .un, .un] = .nx (tEnv h2 rows ts .un .un .un .un .un .un) := by
    rw [m__law_tree_w4, sFor_e, xS_e]
    have it : iRg rng1 (aD (eRv (callM F__law_pick (aR 0 (aD (eV 2) aNil)))) aNil) [hS h, .d (sgD rows), .d (.int 9), trL (leaves rows), .un, .un, .un, .un, .un, .un] = .ok ((List.range n.toNat).map fun (i : Nat) => .int (0 + (i : Nat))) [hS h1, .d (sgD rows), .d (.int 9), trL (leaves rows), .un, .un, .un, .un, .un, .un] := by
      simp [d1, nn]
    rw [it]
    exact w
  have c2 := cut2 ts
  have l2b := lastT_len (k := 2) (ts := ts)
  obtain ⟨y, h3, e3, H3, my⟩ := some_ok H2 (xs := (lastT 2 ts).map Tr.enc) (t := .list ((lastT 2 ts).map Tr.enc)) (by rw [List.length_map]; exact lastT_ne (by omega) ne) (by rw [List.length_map]; omega) (.inl rfl)
  obtain ⟨t, ht, rfl⟩ := List.mem_map.mp my
  refine ⟨t, h3, ?_, H3, ok t (lastT_mem t ht)⟩
  have o : trL (leaves rows) = .o true (.lst ((leaves rows).map Tr.enc)) := rfl
  simp [F__law_tree, runBody, m__law_tree, o5, w4, c2, e3]
end K74
end

section
set_option Elab.async false
set_option linter.all false
set_option maxRecDepth 100000
set_option maxHeartbeats 4000000
/-! # Labels changed -/
namespace K74
open PySem L2 ML

theorem some_own {h : List D} (H : HandOk h) {xs : List D} (h0 : 0 < xs.length) (hl : xs.length < 1073741824) : ∃ (x : D) (h' : List D), F__law_some [hS h, .o false (.lst xs)] = .ok (.d x) [hS h', .o false (.lst xs)] ∧ HandOk h' ∧ x ∈ xs := by
  obtain ⟨r, h', e, H', r0, r1⟩ := draw_ok H (m := xs.length) (by omega) (by omega)
  obtain ⟨x, hx, mem⟩ := atI_get r0 r1
  refine ⟨x, h', ?_, H', mem⟩
  simp [F__law_some, runBody, m__law_some, e, hx]
/-! ### paths as data -/
theorem noDct_ints : ∀ p : List Nat, noDctA (p.map fun i => PyData.int (i : Nat)) = true
  | [] => by simp [noDctA]
  | i :: p => by simp [noDctA, noDct]; simpa using noDct_ints p
theorem canLay_ints : ∀ p : List Nat, PyData.canLayAll0 (p.map fun i => PyData.int (i : Nat)) = true
  | [] => by simp [PyData.canLayAll0]
  | i :: p => by simp [PyData.canLayAll0, PyData.canLay0]; simpa using canLay_ints p
theorem depth_ints : ∀ p : List Nat, PyData.depthAll (p.map fun i => PyData.int (i : Nat)) = 0
  | [] => by simp [PyData.depthAll]
  | i :: p => by simp [PyData.depthAll, PyData.depth]; simpa using depth_ints p
theorem depth_pt (p : List Nat) : (ptD p).depth ≤ 1 := by
  have := depth_ints p
  simp only [PyData.depth]
  omega
theorem noDct_pts : ∀ ps : List (List Nat), noDctA (ps.map ptD) = true
  | [] => by simp [noDctA]
  | p :: ps => by
    have i := noDct_pts ps
    have j := noDct_ints p
    rw [List.map_cons, noDctA, i, noDct, j]; rfl
theorem canLay_pts : ∀ ps : List (List Nat), PyData.canLayAll0 (ps.map ptD) = true
  | [] => by simp [PyData.canLayAll0]
  | p :: ps => by
    have i := canLay_pts ps
    have j := canLay_ints p
    rw [List.map_cons, PyData.canLayAll0, i, PyData.canLay0, j]; rfl
theorem depth_pts : ∀ ps : List (List Nat), PyData.depthAll (ps.map ptD) ≤ 1
  | [] => by simp [PyData.depthAll]
  | p :: ps => by
    have i := depth_pts ps
    have j := depth_pt p
    rw [List.map_cons, PyData.depthAll]
    omega
theorem eqOk_pt (p : List Nat) : eqOk (ptD p) = true := by
  have d := depth_pt p
  have a : noDct (ptD p) = true := by rw [noDct]; exact noDct_ints p
  have b : (ptD p).canLay0 = true := by rw [PyData.canLay0]; exact canLay_ints p
  unfold eqOk SeqAt.shaped
  rw [a, b, Bool.true_and, Bool.true_and]
  exact decide_eq_true (by omega)
theorem eqOk_ptL (ps : List (List Nat)) : eqOk (.list (ps.map ptD)) = true := by
  have d := depth_pts ps
  have a : noDct (.list (ps.map ptD)) = true := by rw [noDct]; exact noDct_pts ps
  have b : (PyData.list (ps.map ptD)).canLay0 = true := by rw [PyData.canLay0]; exact canLay_pts ps
  unfold eqOk SeqAt.shaped
  rw [a, b, Bool.true_and, Bool.true_and]
  refine decide_eq_true ?_
  rw [PyData.depth]
  omega
theorem eqOk_ptT (ps : List (List Nat)) : eqOk (.tuple (ps.map ptD)) = true := by
  have d := depth_pts ps
  have a : noDct (.tuple (ps.map ptD)) = true := by rw [noDct]; exact noDct_pts ps
  have b : (PyData.tuple (ps.map ptD)).canLay0 = true := by rw [PyData.canLay0]; exact canLay_pts ps
  unfold eqOk SeqAt.shaped
  rw [a, b, Bool.true_and, Bool.true_and]
  refine decide_eq_true ?_
  rw [PyData.depth]
  omega
theorem eqv_ints : ∀ p q : List Nat, PyData.eqvAll (p.map fun i => PyData.int (i : Nat)) (q.map fun i => PyData.int (i : Nat)) = true ↔ p = q
  | [], [] => by simp [PyData.eqvAll]
  | [], j :: q => by simp [PyData.eqvAll]
  | i :: p, [] => by simp [PyData.eqvAll]
  | i :: p, j :: q => by
    have := eqv_ints p q
    rw [List.map_cons, List.map_cons, PyData.eqvAll, Bool.and_eq_true, this, List.cons.injEq, eqv_int, decide_eq_true_eq]
    exact ⟨fun h => ⟨by omega, h.2⟩, fun h => ⟨by omega, h.2⟩⟩
theorem eqv_pt (p q : List Nat) : PyData.eqv (ptD p) (ptD q) = true ↔ p = q := by rw [PyData.eqv]; exact eqv_ints p q
theorem eqv_ptT : ∀ ps : List (List Nat), PyData.eqv (.tuple (ps.map ptD)) (.tuple (ps.map ptD)) = true
  | [] => by simp [PyData.eqv, PyData.eqvAll]
  | p :: ps => by
    have i := eqv_ptT ps
    rw [PyData.eqv] at i
    rw [PyData.eqv, List.map_cons, PyData.eqvAll, i, (eqv_pt p p).mpr rfl]; rfl
theorem rem_pt : ∀ (ps : List (List Nat)) (p : List Nat), p ∈ ps → remD (ps.map ptD) (ptD p) = some ((ps.erase p).map ptD)
  | q :: ps, p, h => by
    rw [List.map_cons, remD]
    by_cases e : q = p
    · subst e
      rw [if_pos ((eqv_pt q q).mpr rfl), List.erase_cons_head]
    · rw [if_neg (fun z => e ((eqv_pt q p).mp z)), List.erase_cons_tail (by simpa using e)]
      rcases List.mem_cons.mp h with h | h
      · exact absurd h.symm e
      · rw [rem_pt ps p h]; rfl
/-! ### labels changed -/
def likeRow (x : Tr) : D → Bool
  | .tuple [.str z, .int r] => decide (r = (x.parts.length : Int)) && !decide (z = x.lab)
  | _ => false
def nameD : D → D
  | .tuple [z, _] => z
  | _ => .none
def likes (rows : List Row) (x : Tr) : List Row := rows.filter fun p => decide (p.2 = (x.parts.length : Int)) && !decide (p.1 = x.lab)
theorem likes_eq (x : Tr) : ∀ rows : List Row, ((rows.map rowD).filter (likeRow x)).map nameD = (likes rows x).map fun p => PyData.str p.1
  | [] => rfl
  | p :: rows => by
    have ih := likes_eq x rows
    unfold likes at ih ⊢
    rw [List.map_cons, List.filter_cons, List.filter_cons]
    have e : likeRow x (rowD p) = (decide (p.2 = (x.parts.length : Int)) && !decide (p.1 = x.lab)) := rfl
    rw [e]
    split
    · rw [List.map_cons, List.map_cons, ih]; rfl
    · exact ih
abbrev rEnv (h : List D) (rows : List Row) (c : Tr) (m : D) (ps : List (List Nat)) (n : Nat) (a b d e f g i : Sl) : List Sl := [hS h, .d (sgD rows), .d c.enc, .d m, .o true (.lst (ps.map ptD)), .d (.int (n : Nat)), a, b, d, e, f, g, i]
structure RInv (rows : List Row) (o c : Tr) (ps : List (List Nat)) (n : Nat) : Prop where
  ok : c.ok rows
  ch : chT o c = some n
  nd : ps.Nodup
  mem : ∀ p ∈ ps, p ∈ o.paths
  lab : ∀ p ∈ ps, labAt p c = labAt p o
  len : ps.length ≤ 9
theorem rel_i3 {h : List D} (H : HandOk h) {rows : List Row} (S : Sg2 rows) {o c : Tr} {ps : List (List Nat)} {n : Nat} (so : o.size ≤ 9) (I : RInv rows o c ps n) (m a : D) : ∃ (c' : Tr) (ps' : List (List Nat)) (n' : Nat) (h' : List D),
    m__law_relabelled_b4 (rEnv h rows c m ps n (.d a) .un .un .un .un .un .un) = .nx (rEnv h' rows c' m ps' n' .un .un .un .un .un .un .un) ∧ HandOk h' ∧ RInv rows o c' ps' n' := by
  have lk := like o c n I.ch
  by_cases hz : ps = []
  · subst hz
    refine ⟨c, [], n, h, ?_, H, I⟩
    simp [m__law_relabelled_b4, m__law_relabelled_i3]
  have plen := I.len
  have ppos : 0 < ps.length := List.length_pos_iff.mpr hz
  obtain ⟨y, h1, e1, H1, my⟩ := some_own H (xs := ps.map ptD) (by rw [List.length_map]; exact ppos) (by rw [List.length_map]; omega)
  obtain ⟨p, hp, rfl⟩ := List.mem_map.mp my
  have hpo := I.mem p hp
  have hpc : p ∈ c.paths := by rw [← lk.paths]; exact hpo
  obtain ⟨x, hx⟩ := path_at hpc
  have sc : c.size ≤ 100 := by have := lk.size; omega
  have pa := part_at_ok S.sg I.ok sc hx
  have xok := at_ok hx I.ok
  have rm := rem_pt ps p hp
  have q1 := eqOk_ptL ps
  have q2 := eqOk_pt p
  have q3 : (ptD p).depth ≤ 60 := by have := depth_pt p; omega
  have xe := enc_eq x
  have lx := at_lab hx
  have o1 := lab_eqOk S.sg xok
  have o2 : o__law_relabelled_2 (rEnv h1 rows c m (ps.erase p) n (.d a) (.d (ptD p)) (.d (.str x.lab)) (.d (.tuple (x.parts.map Tr.enc))) .un .un .un) = .ok (.lst ((likes rows x).map fun p => PyData.str p.1)) (rEnv h1 rows c m (ps.erase p) n (.d a) (.d (ptD p)) (.d (.str x.lab)) (.d (.tuple (x.parts.map Tr.enc))) .un .un .un) := by
    rw [← likes_eq]
    refine (oComp_filter (p := likeRow x) (f := nameD) (ds := rows.map rowD) (e1 := rEnv h1 rows c m (ps.erase p) n (.d a) (.d (ptD p)) (.d (.str x.lab)) (.d (.tuple (x.parts.map Tr.enc))) .un .un .un) (by simp) (fun d hd => ?_) ?_).trans (by simp)
    · obtain ⟨z, r, rfl, nz, _, _⟩ := sig_rows S.sg hd
      have o3 := eqOk_str (nm_strOk nz)
      refine ⟨rEnv h1 rows c m (ps.erase p) n (.d a) (.d (ptD p)) (.d (.str x.lab)) (.d (.tuple (x.parts.map Tr.enc))) .un (.d (.str z)) (.d (.int r)), by simp, ?_, fun _ => by simp [m__law_relabelled_c2, nameD], by simp⟩
      by_cases q : r = (x.parts.length : Int)
      · simp [q, likeRow, o1, o3]
      · simp [q, likeRow]
    · rw [List.length_map]
      have := S.sg.hi
      show _ ≤ 10000000
      omega
  have ple : (ps.erase p).length ≤ ps.length := List.length_erase_le ..
  have same : RInv rows o c (ps.erase p) n := ⟨I.ok, I.ch, I.nd.erase p, fun q hq => I.mem q (List.mem_of_mem_erase hq), fun q hq => I.lab q (List.mem_of_mem_erase hq), by omega⟩
  by_cases hn : likes rows x = []
  · refine ⟨c, ps.erase p, n, h1, ?_, H1, same⟩
    have i1 : m__law_relabelled_i1 (rEnv h1 rows c m (ps.erase p) n (.d a) (.d (ptD p)) (.d (.str x.lab)) (.d (.tuple (x.parts.map Tr.enc))) (.o true (.lst [])) .un .un) = .nx (rEnv h1 rows c m (ps.erase p) n (.d a) (.d (ptD p)) (.d (.str x.lab)) (.d (.tuple (x.parts.map Tr.enc))) (.o true (.lst [])) .un .un) := by
      simp [m__law_relabelled_i1]
    rw [hn, List.map_nil] at o2
    rw [xe] at pa
    simp [m__law_relabelled_b4, m__law_relabelled_i3, ppos, e1, q1, q2, q3, rm, pa, o2, i1]
  · have lpos : 0 < (likes rows x).length := List.length_pos_iff.mpr hn
    have lle : (likes rows x).length ≤ 10 := by
      have : (likes rows x).length ≤ rows.length := List.length_filter_le _ _
      have := S.sg.hi
      omega
    obtain ⟨y, h2, e2', H2, my2⟩ := some_ok H1 (xs := (likes rows x).map fun p => PyData.str p.1) (t := .list ((likes rows x).map fun p => PyData.str p.1)) (by rw [List.length_map]; exact lpos) (by rw [List.length_map]; omega) (.inl rfl)
    obtain ⟨w, hw, rfl⟩ := List.mem_map.mp my2
    obtain ⟨wm, wc⟩ := List.mem_filter.mp hw
    obtain ⟨w1, w2⟩ := Bool.and_eq_true_iff.mp wc
    have w1 := of_decide_eq_true w1
    have w2 : w.1 ≠ x.lab := by simpa using w2
    have wmem : (w.1, (x.parts.length : Int)) ∈ rows := by rw [← w1]; exact wm
    have yok : (x.setLab w.1).ok rows := setLab_ok xok wmem
    have ys : (x.setLab w.1).size ≤ 100 := by rw [setLab_size]; have := at_size hx; omega
    have wp := with_part_ok S.sg I.ok sc hx yok ys
    have ye : (x.setLab w.1).enc = .tuple [.str w.1, .tuple (x.parts.map Tr.enc)] := by rw [enc_eq, setLab_lab, setLab_parts]
    rw [ye] at wp
    refine ⟨put p c (x.setLab w.1), ps.erase p, n + 1, h2, ?_, H2, ⟨put_ok hx I.ok yok, ch_put hx w.1 w2 o n I.ch (by rw [← lx, I.lab p hp]), I.nd.erase p, same.mem, fun q hq => ?_, by omega⟩⟩
    · have i1 : m__law_relabelled_i1 (rEnv h1 rows c m (ps.erase p) n (.d a) (.d (ptD p)) (.d (.str x.lab)) (.d (.tuple (x.parts.map Tr.enc))) (.o true (.lst ((likes rows x).map fun p => PyData.str p.1))) .un .un) = .nx (rEnv h2 rows (put p c (x.setLab w.1)) m (ps.erase p) (n + 1) (.d a) (.d (ptD p)) (.d (.str x.lab)) (.d (.tuple (x.parts.map Tr.enc))) (.d (.list ((likes rows x).map fun p => PyData.str p.1))) .un .un) := by
        simp [m__law_relabelled_i1, lpos, e2', wp]
      rw [xe] at pa
      simp [m__law_relabelled_b4, m__law_relabelled_i3, ppos, e1, q1, q2, q3, rm, pa, o2, i1]
    · have hq2 := List.mem_of_mem_erase hq
      have ne : q ≠ p := fun z => by
        subst z
        exact (List.Nodup.not_mem_erase I.nd) hq
      rw [lab_put hx w.1 q ne, I.lab q hq2]
theorem rel_loop {rows : List Row} (S : Sg2 rows) {o : Tr} (so : o.size ≤ 9) (m : D) : ∀ (ds : List D) (h : List D) (c : Tr) (ps : List (List Nat)) (n : Nat), HandOk h → RInv rows o c ps n → ∃ (c' : Tr) (ps' : List (List Nat)) (n' : Nat) (h' : List D),
    forL (gN 6) m__law_relabelled_b4 ds (rEnv h rows c m ps n .un .un .un .un .un .un .un) = .nx (rEnv h' rows c' m ps' n' .un .un .un .un .un .un .un) ∧ HandOk h' ∧ RInv rows o c' ps' n' := by
  intro ds
  induction ds with
  | nil => intro h c ps n H I; exact ⟨c, ps, n, h, rfl, H, I⟩
  | cons d ds ih =>
    intro h c ps n H I
    obtain ⟨c1, ps1, n1, h1, b, H1, I1⟩ := rel_i3 H S so I m d
    obtain ⟨c2, ps2, n2, h2, e, H2, I2⟩ := ih h1 c1 ps1 n1 H1 I1
    refine ⟨c2, ps2, n2, h2, ?_, H2, I2⟩
    rw [forL]
    simp only [gN_e, List.set]
    rw [b]
    exact e
theorem relabelled_ok {h : List D} (H : HandOk h) {rows : List Row} (S : Sg2 rows) {o : Tr} (oo : o.ok rows) (so : o.size ≤ 9) (most : Nat) (hm : most < 100) : ∃ (c : Tr) (n : Nat) (h' : List D),
    F__law_relabelled [hS h, .d (sgD rows), .d o.enc, .d (.int (most : Nat))] = .ok (.d (.tuple [c.enc, .int (n : Nat)])) [hS h', .un, .un, .un] ∧ HandOk h' ∧ c.ok rows ∧ chT o c = some n ∧ c.size ≤ 9 := by
  have po := paths_of_ok S.sg oo (by omega)
  obtain ⟨r, h1, d1, H1, r0, r1⟩ := draw_ok H (m := (most : Int) + 1) (by omega) (by omega)
  have nn : r.natAbs < 4611686018427387904 := by omega
  obtain ⟨c, ps, n, h2, w, H2, I⟩ := rel_loop S so (.int (most : Nat)) ((List.range r.toNat).map fun (i : Nat) => .int (0 + (i : Nat))) h1 o o.paths 0 H1 ⟨oo, chT_self o, paths_nodup o, fun _ h => h, fun _ _ => rfl, by unfold Tr.paths; rw [List.length_map, walk_len]; exact so⟩
  have lk := like o c n I.ch
  refine ⟨c, n, h2, ?_, H2, I.ok, I.ch, by have := lk.size; omega⟩
  have w5 : m__law_relabelled_w5 (rEnv h rows o (.int (most : Nat)) o.paths 0 .un .un .un .un .un .un .un) = .nx (rEnv h2 rows c (.int (most : Nat)) ps n .un .un .un .un .un .un .un) := by
    rw [m__law_relabelled_w5, sFor_e, xS_e]
    have it : iRg rng1 (aD (eRv (callM F__law_pick (aR 0 (aD (e2 gAdd (qR 3) (qD (eC (.int 1)))) aNil)))) aNil) (rEnv h rows o (.int (most : Nat)) o.paths 0 .un .un .un .un .un .un .un) = .ok ((List.range r.toNat).map fun (i : Nat) => .int (0 + (i : Nat))) (rEnv h1 rows o (.int (most : Nat)) o.paths 0 .un .un .un .un .un .un .un) := by
      simp [d1, nn]
    rw [it]
    exact w
  have z : (PyData.int ((0 : Nat) : Int)) = PyData.int 0 := rfl
  rw [show rEnv h rows o (.int (most : Nat)) o.paths 0 .un .un .un .un .un .un .un = [hS h, .d (sgD rows), .d o.enc, .d (.int (most : Nat)), .o true (.lst (o.paths.map ptD)), .d (.int 0), .un, .un, .un, .un, .un, .un, .un] from rfl] at w5
  simp [F__law_relabelled, runBody, m__law_relabelled, po, w5]
end K74
end

section
set_option Elab.async false
set_option linter.all false
set_option maxRecDepth 100000
set_option maxHeartbeats 4000000
/-! # Two right, three right -/
namespace K74
open PySem L2 ML

def rpS : Option Nat → Str
  | none => "None"
  | some n => toString (n : Int)
theorem rp_small : ∀ n : Fin 10, PyData.strOk (toString ((n.val : Nat) : Int) : String) = true ∧ ((n.val : Nat) : Int).natAbs.log2 < 1920 := by decide +kernel
theorem rp_ok {x : Option Nat} (h : ∀ n, x = some n → n ≤ 9) : bRepr [.d (ochD x)] = some (.str (rpS x)) ∧ eqOk (.str (rpS x)) = true := by
  cases x with
  | none => exact ⟨rfl, eqOk_str (by show PyData.strOk ("None" : Str) = true; decide +kernel)⟩
  | some n =>
    have k := rp_small ⟨n, by have := h n rfl; omega⟩
    refine ⟨?_, eqOk_str k.1⟩
    show (if ((n : Nat) : Int).natAbs.log2 < 1920 then some (PyData.str (toString ((n : Nat) : Int))) else none) = _
    rw [if_pos k.2]
    rfl
theorem two_b2 {rows : List Row} (S : Sg rows) {t u : Tr} (ht : t.ok rows) (hu : u.ok rows) (st : t.size ≤ 9) (su : u.size ≤ 9) {p : List Nat} {x y : Tr} (hx : At t p x) (hy : At u p y) (E : Sl) (n : Int) :
    m__law_are_two_right_b2 [.d (sgD rows), .d t.enc, .d u.enc, E, .d (.int n), .d (ptD p)] = .nx [.d (sgD rows), .d t.enc, .d u.enc, E, .d (.int (n + (df (labAt p t) (labAt p u) : Nat))), .un] := by
  have p1 := part_at_ok S ht (by omega) hx
  have p2 := part_at_ok S hu (by omega) hy
  have o1 := lab_eqOk S (at_ok hx ht)
  have o2 := lab_eqOk S (at_ok hy hu)
  rw [enc_eq x] at p1
  rw [enc_eq y] at p2
  rw [at_lab hx, at_lab hy]
  by_cases q : x.lab = y.lab
  · rw [q, df_self]
    rw [q] at p1
    simp [m__law_are_two_right_b2, m__law_are_two_right_i1, p1, p2, o2]
  · rw [df_ne q]
    simp [m__law_are_two_right_b2, m__law_are_two_right_i1, p1, p2, o1, o2, q]
theorem two_loop {rows : List Row} (S : Sg rows) {t u : Tr} (ht : t.ok rows) (hu : u.ok rows) (st : t.size ≤ 9) (su : u.size ≤ 9) (pe : t.paths = u.paths) (E : Sl) : ∀ (ps : List (List Nat)) (n : Int), (∀ p ∈ ps, p ∈ t.paths) →
    forL (gN 5) m__law_are_two_right_b2 (ps.map ptD) [.d (sgD rows), .d t.enc, .d u.enc, E, .d (.int n), .un] = .nx [.d (sgD rows), .d t.enc, .d u.enc, E, .d (.int (n + (cnt t u ps : Nat))), .un]
  | [], n, _ => by simp [forL, cnt]
  | p :: ps, n, h => by
    have h1 := h p List.mem_cons_self
    obtain ⟨x, hx⟩ := path_at h1
    obtain ⟨y, hy⟩ := path_at (t := u) (by rw [← pe]; exact h1)
    rw [List.map_cons, forL]
    simp only [gN_e, List.set]
    rw [two_b2 S ht hu st su hx hy E n]
    dsimp only
    rw [two_loop S ht hu st su pe E ps _ fun q hq => h q (List.mem_cons_of_mem _ hq)]
    have e : cnt t u (p :: ps) = df (labAt p t) (labAt p u) + cnt t u ps := by unfold cnt; rw [List.map_cons, List.sum_cons]
    rw [e]
    have e3 : n + ((df (labAt p t) (labAt p u) : Nat) : Int) + (cnt t u ps : Nat) = n + ((df (labAt p t) (labAt p u) + cnt t u ps : Nat) : Int) := by omega
    rw [e3]
theorem two_ok {rows : List Row} (S : Sg rows) {t u : Tr} (ht : t.ok rows) (hu : u.ok rows) (st : t.size ≤ 9) (su : u.size ≤ 9) : F__law_are_two_right [.d (sgD rows), .d t.enc, .d u.enc] = .ok (.d (.bool true)) [.un, .un, .un] := by
  have lc := law_changes_ok S ht hu (by omega)
  have c1 := changes_ok S ht hu (by omega) (by omega)
  have c2 := changes_ok S hu ht (by omega) (by omega)
  have c3 := changes_ok S ht ht (by omega) (by omega)
  rw [chT_comm u t] at c2
  rw [chT_self] at c3
  have small : ∀ n, chT t u = some n → n ≤ 9 := fun n h => by have := (like t u n h).le; omega
  obtain ⟨r1, r2⟩ := rp_ok small
  obtain ⟨r3, r4⟩ := rp_ok (x := some 0) (fun n h => by cases h; omega)
  have r5 : rpS (some 0) = ("0" : Str) := rfl
  rw [r5] at r3 r4
  have q1 := eqOk_enc S ht (by omega)
  have q2 := eqOk_enc S hu (by omega)
  have s3 : sSet 3 (eRv (callM F__law_changes (aD (eV 1) (aD (eV 2) aNil)))) [.d (sgD rows), .d t.enc, .d u.enc, .un, .un, .un] = .nx [.d (sgD rows), .d t.enc, .d u.enc, .d (ochD (chT t u)), .un, .un] := by simp [lc]
  have i8 : m__law_are_two_right_i8 [.d (sgD rows), .d t.enc, .d u.enc, .d (ochD (chT t u)), .un, .un] = .nx [.d (sgD rows), .d t.enc, .d u.enc, .d (ochD (chT t u)), .un, .un] := by
    simp [-bRepr, m__law_are_two_right_i8, c1, r1, r2]
  have i7 : m__law_are_two_right_i7 [.d (sgD rows), .d t.enc, .d u.enc, .d (ochD (chT t u)), .un, .un] = .nx [.d (sgD rows), .d t.enc, .d u.enc, .d (ochD (chT t u)), .un, .un] := by
    simp [-bRepr, m__law_are_two_right_i7, c2, c3, r1, r2, r3, r4]
  simp only [F__law_are_two_right, runBody, m__law_are_two_right, List.length_cons, List.length_nil, Nat.zero_add, if_true, List.cons_append, List.nil_append, List.replicate]
  rw [sSeq_e, s3]
  dsimp only
  rw [sSeq_e, i8]
  dsimp only
  rw [sSeq_e, i7]
  dsimp only
  cases hc : chT t u with
  | none =>
    have ne : PyData.eqv t.enc u.enc = false := by
      cases z : PyData.eqv t.enc u.enc with
      | false => rfl
      | true =>
        have := (eqv_enc t u).mp z
        subst this
        rw [chT_self] at hc; cases hc
    have i6 : m__law_are_two_right_i6 [.d (sgD rows), .d t.enc, .d u.enc, .d .none, .un, .un] = .rt (.d (.bool true)) [.d (sgD rows), .d t.enc, .d u.enc, .d .none, .un, .un] := by
      simp [m__law_are_two_right_i6, q1, q2, ne]
    rw [show ochD none = .none from rfl, sSeq_e, i6]
    simp
  | some n =>
    have lk := like t u n hc
    have i6 : m__law_are_two_right_i6 [.d (sgD rows), .d t.enc, .d u.enc, .d (.int (n : Nat)), .un, .un] = .nx [.d (sgD rows), .d t.enc, .d u.enc, .d (.int (n : Nat)), .un, .un] := by
      simp [m__law_are_two_right_i6]
    have n1 := nodes_many_ok S ht (by omega)
    have n2 := nodes_many_ok S hu (by omega)
    rw [← lk.size] at n2
    have le := lk.le
    have i5 : m__law_are_two_right_i5 [.d (sgD rows), .d t.enc, .d u.enc, .d (.int (n : Nat)), .un, .un] = .nx [.d (sgD rows), .d t.enc, .d u.enc, .d (.int (n : Nat)), .un, .un] := by
      have : ¬ t.size < n := by omega
      simp [m__law_are_two_right_i5, n1, n2, this]
    have p1 := paths_of_ok S ht (by omega)
    have p2 := paths_of_ok S hu (by omega)
    have d1 := deep_of_ok S ht (by omega)
    have d2 := deep_of_ok S hu (by omega)
    rw [show pthsD u = pthsD t by unfold pthsD; rw [lk.paths]] at p2
    rw [← lk.deep] at d2
    have e1 := eqOk_ptT t.paths
    have e2' := eqv_ptT t.paths
    have i4 : m__law_are_two_right_i4 [.d (sgD rows), .d t.enc, .d u.enc, .d (.int (n : Nat)), .un, .un] = .nx [.d (sgD rows), .d t.enc, .d u.enc, .d (.int (n : Nat)), .un, .un] := by
      simp [m__law_are_two_right_i4, p1, p2, d1, d2, e1, e2']
    have w := two_loop S ht hu st su lk.paths (.d (.int (n : Nat))) t.paths 0 (fun _ h => h)
    rw [cnt_ok t u n hc] at w
    have w3 : m__law_are_two_right_w3 [.d (sgD rows), .d t.enc, .d u.enc, .d (.int (n : Nat)), .d (.int 0), .un] = .nx [.d (sgD rows), .d t.enc, .d u.enc, .d (.int (n : Nat)), .d (.int (n : Nat)), .un] := by
      rw [m__law_are_two_right_w3, sFor_e, xS_e]
      have it : iD (eRv (callM F_paths_of (aD (eV 0) (aD (eV 1) aNil)))) [.d (sgD rows), .d t.enc, .d u.enc, .d (.int (n : Nat)), .d (.int 0), .un] = .ok (t.paths.map ptD) [.d (sgD rows), .d t.enc, .d u.enc, .d (.int (n : Nat)), .d (.int 0), .un] := by
        simp [p1]
      rw [it]
      dsimp only
      rw [w, Int.zero_add]
    rw [show ochD (some n) = .int (n : Nat) from rfl, sSeq_e, i6]
    dsimp only
    rw [sSeq_e, i5]
    dsimp only
    rw [sSeq_e, i4]
    simp [w3, q1, q2]
    by_cases z : t = u
    · have z1 : PyData.eqv t.enc u.enc = true := (eqv_enc t u).mpr z
      have z2 : n = 0 := lk.zero.mpr z
      simp [z1, z2]
    · have z1 : PyData.eqv t.enc u.enc = false := by
        cases y : PyData.eqv t.enc u.enc with
        | false => rfl
        | true => exact absurd ((eqv_enc t u).mp y) z
      have z2 : ¬ n = 0 := fun y => z (lk.zero.mp y)
      simp [z1, z2]
theorem three_ok {h : List D} (H : HandOk h) {rows : List Row} (S : Sg2 rows) {t : Tr} (ht : t.ok rows) (st : t.size ≤ 9) : ∃ h', F__law_are_three_right [hS h, .d (sgD rows), .d t.enc] = .ok (.d (.bool true)) [hS h', .un, .un] ∧ HandOk h' := by
  obtain ⟨c1, n1, h1, e1, H1, o1, ch1, s1⟩ := relabelled_ok H S ht st 4 (by omega)
  obtain ⟨c2, n2, h2, e2', H2, o2, ch2, s2⟩ := relabelled_ok H1 S o1 s1 3 (by omega)
  obtain ⟨m, ch3, le⟩ := tri t c1 c2 n1 n2 ch1 ch2
  have a1 := changes_ok S.sg ht o1 (by omega) (by omega)
  have a2 := changes_ok S.sg o1 o2 (by omega) (by omega)
  have a3 := changes_ok S.sg ht o2 (by omega) (by omega)
  have tw := two_ok S.sg ht o2 st s2
  rw [ch1, show ochD (some n1) = .int (n1 : Nat) from rfl] at a1
  rw [ch2, show ochD (some n2) = .int (n2 : Nat) from rfl] at a2
  rw [ch3, show ochD (some m) = .int (m : Nat) from rfl] at a3
  refine ⟨h2, ?_, H2⟩
  rw [show (PyData.int ((4 : Nat) : Int)) = .int 4 from rfl] at e1
  rw [show (PyData.int ((3 : Nat) : Int)) = .int 3 from rfl] at e2'
  have le2 : (m : Int) ≤ (n1 : Int) + (n2 : Int) := by omega
  have i2 : m__law_are_three_right_i2 [hS h1, .d (sgD rows), .d t.enc, .d c1.enc, .d (.int (n1 : Nat)), .un, .un] = .nx [hS h1, .d (sgD rows), .d t.enc, .d c1.enc, .d (.int (n1 : Nat)), .un, .un] := by
    simp [m__law_are_three_right_i2, a1]
  have i1 : m__law_are_three_right_i1 [hS h2, .d (sgD rows), .d t.enc, .d c1.enc, .d (.int (n1 : Nat)), .d c2.enc, .d (.int (n2 : Nat))] = .nx [hS h2, .d (sgD rows), .d t.enc, .d c1.enc, .d (.int (n1 : Nat)), .d c2.enc, .d (.int (n2 : Nat))] := by
    simp [m__law_are_three_right_i1, a2, tw]
  simp [F__law_are_three_right, runBody, m__law_are_three_right, e1, e2', i2, i1, a3, le2]
end K74
end

section
set_option Elab.async false
set_option linter.all false
set_option maxRecDepth 100000
set_option maxHeartbeats 4000000
/-! # What is refused -/
namespace K74
open PySem L2 ML

def oddSigs : List D := [.none,
  .tuple [],
  .str "a",
  .list [.tuple [.str "a", .int 0]],
  .tuple [.tuple [.str "a", .int 3]],
  .tuple [.tuple [.str "b", .int 0], .tuple [.str "a", .int 0]],
  .tuple [.tuple [.str "a", .int 0], .tuple [.str "a", .int 1]],
  .tuple [.tuple [.str "A", .int 0]],
  .tuple [.tuple [.str "a"]],
  .tuple [.tuple [.str "a", .bool true]],
  .tuple [.list [.str "a", .int 0]],
  .tuple [.tuple [.str "a", .int (-1)]],
  .tuple [.tuple [.str "aaaaaaaaa", .int 0]],
  .tuple [.tuple [.str "", .int 0]]]
def NoSig (x : D) : Prop := F_is_signature [.d x] = .ok (.d (.bool false)) [.un]
theorem odd_sigs : ∀ x ∈ oddSigs, NoSig x := by
  intro x h
  simp only [oddSigs, List.mem_cons, List.not_mem_nil, or_false] at h
  rcases h with rfl | rfl | rfl | rfl | rfl | rfl | rfl | rfl | rfl | rfl | rfl | rfl | rfl | rfl
  · show F_is_signature _ = _; kernel_rfl
  · show F_is_signature _ = _; kernel_rfl
  · show F_is_signature _ = _; kernel_rfl
  · show F_is_signature _ = _; kernel_rfl
  · show F_is_signature _ = _; kernel_rfl
  · show F_is_signature _ = _; kernel_rfl
  · show F_is_signature _ = _; kernel_rfl
  · show F_is_signature _ = _; kernel_rfl
  · show F_is_signature _ = _; kernel_rfl
  · show F_is_signature _ = _; kernel_rfl
  · show F_is_signature _ = _; kernel_rfl
  · show F_is_signature _ = _; kernel_rfl
  · show F_is_signature _ = _; kernel_rfl
  · show F_is_signature _ = _; kernel_rfl
theorem no_sig_ok {h : List D} (H : HandOk h) : ∃ (x : D) (h' : List D), F__law_no_signature [hS h] = .ok (.d x) [hS h'] ∧ HandOk h' ∧ NoSig x := by
  obtain ⟨x, h', e, H', m⟩ := some_ok H (xs := oddSigs) (t := .list oddSigs) (by decide) (by decide) (.inl rfl)
  refine ⟨x, h', ?_, H', odd_sigs x m⟩
  simp only [oddSigs] at e
  simp [F__law_no_signature, runBody, m__law_no_signature, e]
theorem check_sig_bad {x : D} (h : NoSig x) : F_check_signature [.d x] = .ex "NoSignature" [.un] := by
  have h : F_is_signature [.d x] = .ok (.d (.bool false)) [.un] := h
  simp [F_check_signature, runBody, m_check_signature, m_check_signature_i1, h]
/-! ### no trees -/
def NoTr (rows : List Row) (x : D) : Prop := F_raw_is_tree [.d (sgD rows), .d x] = .ok (.d (.bool false)) [.un, .un]
theorem raw_no_of {rows : List Row} (S : Sg rows) {x : D} (b : m_raw_is_tree_b3 [.d (sgD rows), .d x, .o true (.dct (kvs rows)), .o true (.lst [x]), .un] = .rt (.d (.bool false)) [.d (sgD rows), .d x, .o true (.dct (kvs rows)), .o true (.lst []), .d x]) : NoTr rows x := by
  have d := dict_ok S
  have w : whileL (b2 gGt (qD (eBlt bLen (aR 3 aNil))) (qD (eC (.int 0)))) m_raw_is_tree_b3 20000 [.d (sgD rows), .d x, .o true (.dct (kvs rows)), .o true (.lst [x]), .un] = .rt (.d (.bool false)) [.d (sgD rows), .d x, .o true (.dct (kvs rows)), .o true (.lst []), .d x] := by
    rw [whileL]
    have ht : b2 gGt (qD (eBlt bLen (aR 3 aNil))) (qD (eC (.int 0))) [.d (sgD rows), .d x, .o true (.dct (kvs rows)), .o true (.lst [x]), .un] = .ok true [.d (sgD rows), .d x, .o true (.dct (kvs rows)), .o true (.lst [x]), .un] := by simp
    rw [ht]
    dsimp only
    rw [b]
  show F_raw_is_tree _ = _
  simp [F_raw_is_tree, runBody, m_raw_is_tree, m_raw_is_tree_w4] at d w ⊢
  simp [d, w]
theorem val_none : ∀ {rows : List Row} {z : Str}, (∀ p ∈ rows, p.1 ≠ z) → valD (kvs rows) (Sum.inr z) = none
  | [], z, _ => rfl
  | p :: rows, z, h => by
    have ih := val_none fun q hq => h q (List.mem_cons_of_mem _ hq)
    have ne := h p List.mem_cons_self
    show ((List.find? (fun kv => decide (kv.1 = Sum.inr z)) (((Sum.inr p.1 : Key), (PyData.int p.2 : D)) :: kvs rows)).map (·.2)) = _
    rw [List.find?_cons]
    have h2 : decide ((Sum.inr p.1 : Key) = Sum.inr z) = false := decide_eq_false (fun q => ne (Sum.inr.inj q))
    simp only [h2]
    exact ih
theorem no_zz {rows : List Row} (S : Sg2 rows) : NoTr rows (.tuple [.str "zz", .tuple []]) := by
  have v := val_none S.zz
  have i2 : m_raw_is_tree_i2 [.d (sgD rows), .d (.tuple [.str "zz", .tuple []]), .o true (.dct (kvs rows)), .o true (.lst []), .d (.tuple [.str "zz", .tuple []])] = .rt (.d (.bool false)) [.d (sgD rows), .d (.tuple [.str "zz", .tuple []]), .o true (.dct (kvs rows)), .o true (.lst []), .d (.tuple [.str "zz", .tuple []])] := by
    simp [m_raw_is_tree_i2, is_sized_ok, sized, v]
  exact raw_no_of S.sg (by simp [m_raw_is_tree_b3, i2])
theorem no_none {rows : List Row} (S : Sg2 rows) : NoTr rows (.tuple [.none, .tuple []]) := by
  have i2 : m_raw_is_tree_i2 [.d (sgD rows), .d (.tuple [.none, .tuple []]), .o true (.dct (kvs rows)), .o true (.lst []), .d (.tuple [.none, .tuple []])] = .rt (.d (.bool false)) [.d (sgD rows), .d (.tuple [.none, .tuple []]), .o true (.dct (kvs rows)), .o true (.lst []), .d (.tuple [.none, .tuple []])] := by
    simp [m_raw_is_tree_i2, is_sized_ok, sized]
  exact raw_no_of S.sg (by simp [m_raw_is_tree_b3, i2])
theorem no_parts {rows : List Row} (S : Sg2 rows) {l : Str} {r : Nat} (hm : (l, (r : Int)) ∈ rows) {q : D} (hq : sized q r r = false) : NoTr rows (.tuple [.str l, q]) := by
  have v := val_ok S.sg.nd hm
  have i2 : m_raw_is_tree_i2 [.d (sgD rows), .d (.tuple [.str l, q]), .o true (.dct (kvs rows)), .o true (.lst []), .d (.tuple [.str l, q])] = .nx [.d (sgD rows), .d (.tuple [.str l, q]), .o true (.dct (kvs rows)), .o true (.lst []), .d (.tuple [.str l, q])] := by
    simp [m_raw_is_tree_i2, is_sized_ok, sized, v]
  have i1 : m_raw_is_tree_i1 [.d (sgD rows), .d (.tuple [.str l, q]), .o true (.dct (kvs rows)), .o true (.lst []), .d (.tuple [.str l, q])] = .rt (.d (.bool false)) [.d (sgD rows), .d (.tuple [.str l, q]), .o true (.dct (kvs rows)), .o true (.lst []), .d (.tuple [.str l, q])] := by
    simp [m_raw_is_tree_i1, is_sized_ok, hq, v]
  exact raw_no_of S.sg (by simp [m_raw_is_tree_b3, i2, i1])
theorem rep_ok (x : D) (k : Nat) (v : Int) (hv : v = (k : Nat)) (hk : k ≤ 1000) : gRep (.d (.tuple [x])) (.d (.int v)) = some (.tuple (List.replicate k x)) := by
  subst hv
  show (if 0 ≤ (k : Int) ∧ (k : Int) ≤ 1000 ∧ [x].length ≤ 1000 then some (PyData.tuple (List.replicate ((k : Nat) : Int).toNat [x]).flatten) else none) = _
  rw [if_pos ⟨by omega, by omega, by simp⟩, Int.toNat_natCast]
  congr 2
  induction k with
  | zero => rfl
  | succ k ih => rw [List.replicate_succ, List.flatten_cons, ih (by omega), List.replicate_succ]; rfl
theorem sized_rep {x : D} {k r : Nat} (h : r < k) : sized (.tuple (List.replicate k x)) (r : Nat) (r : Nat) = false := by
  show (decide ((r : Int) ≤ ((List.replicate k x).length : Int)) && decide (((List.replicate k x).length : Int) ≤ (r : Int))) = false
  rw [List.length_replicate, decide_eq_false (p := ((k : Int) ≤ (r : Int))) (by omega), Bool.and_false]
def oddTrs (l : Str) (r : Nat) : List D := [.none, .tuple [], .str "a", .str l, .tuple [.str l], .list [.str l, .tuple []], .tuple [.str "zz", .tuple []], .tuple [.str l, .list []],
  .tuple [.str l, .tuple (List.replicate (r + 1) (.tuple [.str l, .tuple (List.replicate r (.tuple [.str l, .tuple []]))]))], .int 0, .dict [],
  .tuple [.str l, .tuple (List.replicate (r + 3) (.tuple [.str l, .tuple []]))], .tuple [.none, .tuple []], .tuple [.str l, .tuple (List.replicate (r + 1) .none)]]
theorem odd_trs {rows : List Row} (S : Sg2 rows) {l : Str} {r : Nat} (hm : (l, (r : Int)) ∈ rows) : ∀ x ∈ oddTrs l r, NoTr rows x := by
  intro x h
  simp only [oddTrs, List.mem_cons, List.not_mem_nil, or_false] at h
  rcases h with rfl | rfl | rfl | rfl | rfl | rfl | rfl | rfl | rfl | rfl | rfl | rfl | rfl | rfl
  · exact raw_is_tree_no S.sg rfl
  · exact raw_is_tree_no S.sg rfl
  · exact raw_is_tree_no S.sg rfl
  · exact raw_is_tree_no S.sg rfl
  · exact raw_is_tree_no S.sg rfl
  · exact raw_is_tree_no S.sg rfl
  · exact no_zz S
  · exact no_parts S hm rfl
  · exact no_parts S hm (sized_rep (by omega))
  · exact raw_is_tree_no S.sg rfl
  · exact raw_is_tree_no S.sg rfl
  · exact no_parts S hm (sized_rep (by omega))
  · exact no_none S
  · exact no_parts S hm (sized_rep (by omega))
theorem no_tree_ok {h : List D} (H : HandOk h) {rows : List Row} (S : Sg2 rows) : ∃ (x : D) (h' : List D), F__law_no_tree [hS h, .d (sgD rows)] = .ok (.d x) [hS h', .un] ∧ HandOk h' ∧ NoTr rows x := by
  obtain ⟨p, rest, hr⟩ : ∃ p rest, rows = p :: rest := by
    have := S.sg.lo
    cases rows with
    | nil => simp at this
    | cons p rest => exact ⟨p, rest, rfl⟩
  have hp : p ∈ rows := by rw [hr]; exact List.mem_cons_self
  obtain ⟨r, hr2, r2⟩ : ∃ r : Nat, p.2 = (r : Int) ∧ r ≤ 2 := by
    rcases S.sg.rk p hp with q | q | q
    · exact ⟨0, q, by omega⟩
    · exact ⟨1, q, by omega⟩
    · exact ⟨2, q, by omega⟩
  obtain ⟨x, h', e, H', m⟩ := some_ok H (xs := oddTrs p.1 r) (t := .list (oddTrs p.1 r)) (by unfold oddTrs; simp) (by unfold oddTrs; simp) (.inl rfl)
  refine ⟨x, h', ?_, H', odd_trs S (by rw [← hr2]; exact hp) x m⟩
  have a0 : atI (rows.map rowD) 0 = some (.tuple [.str p.1, .int (r : Nat)]) := by rw [hr, ← hr2]; exact at0
  have g1 := rep_ok (.tuple [.str p.1, .tuple []]) r (r : Nat) rfl (by omega)
  have g2 := rep_ok (.tuple [.str p.1, .tuple (List.replicate r (.tuple [.str p.1, .tuple []]))]) (r + 1) ((r : Int) + 1) (by omega) (by omega)
  have g3 := rep_ok (.tuple [.str p.1, .tuple []]) (r + 3) ((r : Int) + 3) (by omega) (by omega)
  have g4 := rep_ok .none (r + 1) ((r : Int) + 1) (by omega) (by omega)
  simp only [oddTrs] at e
  simp [-gRep, F__law_no_tree, runBody, m__law_no_tree, a0, g1, g2, g3, g4, e]
theorem check_tree_bad {rows : List Row} {x : D} (h : NoTr rows x) : F_check_tree [.d (sgD rows), .d x] = .ex "NoTree" [.un, .un] := by
  have h : F_raw_is_tree [.d (sgD rows), .d x] = .ok (.d (.bool false)) [.un, .un] := h
  simp [F_check_tree, runBody, m_check_tree, m_check_tree_i1, h]
theorem refused_ok {h : List D} (H : HandOk h) {rows : List Row} (S : Sg2 rows) {t : Tr} (ht : t.ok rows) (st : t.size ≤ 9) : ∃ h', F__law_are_refused [hS h, .d (sgD rows), .d t.enc] = .ok (.d (.bool true)) [hS h', .un, .un] ∧ HandOk h' := by
  obtain ⟨n, h1, e1, H1, ns⟩ := no_sig_ok H
  obtain ⟨o, h2, e2', H2, nt⟩ := no_tree_ok H1 S
  refine ⟨h2, ?_, H2⟩
  have k1 := check_sig_bad ns
  have k2 := check_tree_bad nt
  have k3 := check_both_ok S.sg ht (by omega)
  have k4 := check_sig_ok S.sg
  have r1 : F_changes_between [.d n, .d o, .d o] = .ex "NoSignature" [.un, .un, .un] := by
    simp [F_changes_between, runBody, m_changes_between, F_check_both, m_check_both, k1]
  have r2 : F_changes_between [.d (sgD rows), .d o, .d t.enc] = .ex "NoTree" [.un, .un, .un] := by
    simp [F_changes_between, runBody, m_changes_between, F_check_both, m_check_both, k2, k4]
  have r3 : F_changes_between [.d (sgD rows), .d t.enc, .d o] = .ex "NoTree" [.un, .un, .un] := by
    simp [F_changes_between, runBody, m_changes_between, k3, k2]
  have p1 : pk__law_said "NoSignature" = some ("signature" : Str) := rfl
  have p2 : pk__law_said "NoTree" = some ("tree" : Str) := rfl
  have q : eqOk (.list [.str "signature", .str "tree", .str "tree"]) = true := by kernel_rfl
  have q2 : PyData.eqv (.list [.str "signature", .str "tree", .str "tree"]) (.list [.str "signature", .str "tree", .str "tree"]) = true := by kernel_rfl
  simp [F__law_are_refused, runBody, m__law_are_refused, e1, e2', r1, r2, r3, p1, p2, q, q2]
end K74
end

section
set_option Elab.async false
set_option linter.all false
set_option maxRecDepth 100000
set_option maxHeartbeats 4000000
/-! # The law -/
namespace K74
open PySem L2 ML

abbrev hO (h : List D) : Sl := .o true (.lst h)
theorem law_b3 (ns : List Int) (h : List D) (H : HandOk h) (x : D) (z1 z2 : Sl) : ∃ h', m_law_b3 [.sc ns, hO h, z1, z2, .d x, .un, .un] = .nx [.sc ns, hO h', .un, .un, .un, .un, .un] ∧ HandOk h' := by
  obtain ⟨rows, h1, e1, H1, S⟩ := signature_ok H
  obtain ⟨t, h2, e2', H2, ot, st⟩ := law_tree_ok H1 S
  obtain ⟨u, h3, e3, H3, ou, su⟩ := law_tree_ok H2 S
  have tw := two_ok S.sg ot ou st su
  obtain ⟨h4, e4, H4⟩ := three_ok H3 S ot st
  obtain ⟨h5, e5, H5⟩ := refused_ok H4 S ot st
  refine ⟨h5, ?_, H5⟩
  have i2 : m_law_i2 [.sc ns, hO h3, .d (sgD rows), z2, .d x, .d t.enc, .d u.enc] = .nx [.sc ns, hO h4, .d (sgD rows), z2, .d x, .d t.enc, .d u.enc] := by
    simp [m_law_i2, tw, e4]
  have i1 : m_law_i1 [.sc ns, hO h4, .d (sgD rows), z2, .d x, .d t.enc, .d u.enc] = .nx [.sc ns, hO h5, .d (sgD rows), z2, .d x, .d t.enc, .d u.enc] := by
    simp [m_law_i1, e5]
  simp [m_law_b3, e1, e2', e3, i2, i1]
theorem law_w4 (ns : List Int) : ∀ (xs : List D) (h : List D) (z1 z2 : Sl), HandOk h → ∃ h' y1 y2, forL (gN 4) m_law_b3 xs [.sc ns, hO h, z1, z2, .un, .un, .un] = .nx [.sc ns, hO h', y1, y2, .un, .un, .un] := by
  intro xs
  induction xs with
  | nil => intro h z1 z2 H; exact ⟨h, z1, z2, rfl⟩
  | cons x xs ih =>
    intro h z1 z2 H
    obtain ⟨h1, b, H1⟩ := law_b3 ns h H x z1 z2
    obtain ⟨h2, y1, y2, e⟩ := ih h1 .un .un H1
    refine ⟨h2, y1, y2, ?_⟩
    rw [forL]
    simp only [gN_e, List.set]
    rw [b]
    exact e
abbrev sg0 : D := .tuple [.tuple [.str "a", .int 0], .tuple [.str "b", .int 0], .tuple [.str "g", .int 2]]
abbrev tr0 : D := .tuple [.str "g", .tuple [.tuple [.str "a", .tuple []], .tuple [.str "b", .tuple []]]]
theorem first6 : F_changes_between [.d sg0, .d tr0, .d (.tuple [.str "g", .tuple [.tuple [.str "b", .tuple []], .tuple [.str "a", .tuple []]]])] = .ok (.d (.int 2)) [.un, .un, .un] := by kernel_rfl
theorem first5 : F_changes_between [.d sg0, .d tr0, .d (.tuple [.str "a", .tuple []])] = .ok (.d .none) [.un, .un, .un] := by kernel_rfl
theorem math (ns : List Int) (hl : ns.length ≤ 63) : ∃ outs, F_law [.sc ns] = .ok (.d (.bool true)) outs := by
  obtain ⟨h, e, H⟩ := bag_ok ns (by omega)
  obtain ⟨h', y1, y2, w⟩ := law_w4 ns ((List.range 4).map fun (i : Nat) => .int (0 + (i : Nat))) h (.d sg0) (.d tr0) H
  have w4 : m_law_w4 [.sc ns, hO h, .d sg0, .d tr0, .un, .un, .un] = .nx [.sc ns, hO h', y1, y2, .un, .un, .un] := by
    rw [m_law_w4, sFor_e, xS_e]
    have it : iRg rng1 (aD (eC (.int 4)) aNil) [.sc ns, hO h, .d sg0, .d tr0, .un, .un, .un] = .ok ((List.range 4).map fun (i : Nat) => .int (0 + (i : Nat))) [.sc ns, hO h, .d sg0, .d tr0, .un, .un, .un] := rfl
    rw [it]
    exact w
  have f6 := first6
  have f5 := first5
  have i6 : m_law_i6 [.sc ns, hO h, .d sg0, .d tr0, .un, .un, .un] = .nx [.sc ns, hO h, .d sg0, .d tr0, .un, .un, .un] := by
    simp [m_law_i6, f6]
  have i5 : m_law_i5 [.sc ns, hO h, .d sg0, .d tr0, .un, .un, .un] = .nx [.sc ns, hO h, .d sg0, .d tr0, .un, .un, .un] := by
    simp [m_law_i5, f5]
  exact ⟨[.un], by simp [F_law, runBody, m_law, e, i6, i5, w4]⟩
end K74
end

section
set_option Elab.async false
set_option linter.all false
set_option maxRecDepth 100000
set_option maxHeartbeats 0
open PySem PySem.W PySem.Calls PyProof.Rows
theorem PySem.Challenge.cw_shaperoads_k74_whole_changes_between_tre_holds : PySem.Challenge.rw_shaperoads_k74_whole_changes_between_tre.Holds := by
  w_on; o_law
  refine HandSHeadRun.head_any (r := OpenLaw.row PySem.Challenge.rw_shaperoads_k74_whole_changes_between_tre) (q := view (OpenLaw.row PySem.Challenge.rw_shaperoads_k74_whole_changes_between_tre).prog [47]) (H := K74.hk) (ob := K74.ob) (M := 20000) (loose := K74.loose) (d := HandSHeadRun.topDef (OpenLaw.row PySem.Challenge.rw_shaperoads_k74_whole_changes_between_tre).prog 47) (kwd := []) K74.ob_eq
    (by kernel_rfl) (fun s => by kernel_rfl) K74.run (by kernel_rfl) (by kernel_rfl) (by kernel_rfl) (by rfl) (by first | assumption | decide +kernel) (by decide +kernel) ⟨rfl, rfl, rfl, rfl, rfl, by decide +kernel⟩ ?hw ?hc
  case hw => w_witness2
  case hc =>
    refine ML.walk_N (l := PySem.Challenge.rw_shaperoads_k74_whole_changes_between_tre) (n := 63) (k := 10) (x := "script") rfl (by decide) (by kernel_rfl) ⟨rfl, by decide, by decide⟩ ?F
    intro w mg fa h Y G hmg0
    obtain ⟨K, KX, c⟩ := Y
    have hmg : mg ("law" : PySem.Str) = some (.ref fa) := by
      have e : (HandSHeadRun.topDef (OpenLaw.row PySem.Challenge.rw_shaperoads_k74_whole_changes_between_tre).prog 47).name = ("law" : PySem.Str) := by kernel_rfl
      rw [← e]
      exact hmg0
    exact ⟨K, KX, ML.law_end (ca := K74.cA K) (tf := K74.tf) KX c (fun q hq => ⟨("_law_are_refused", none), List.mem_cons_self, by rw [List.mem_singleton.mp hq]⟩) (K74.facts (P := (PySem.Challenge.rw_shaperoads_k74_whole_changes_between_tre).prog) (w := w) KX G hmg c) (fun ns hl => K74.math ns hl)⟩
end
