import PyProof.Rows.All
import Wide.All
import OpenK.AllK
import Wide.FinOn
import HandS.ForMost
import HandS.Exc
import HandS.TryMany
import HandS.ExcOwn
import HandS.ExcInit
import HandS.Lambda
import HandS.EndTab
import HandS.SlotsVar
import HandS.SlotsOwn
import HandS.Defaults
import HandS.DictComp
import HandS.SetKeys
import HandS.IsInst
import HandS.Zip
import HandS.Style
import HandS.SortOrd
import HandS.Codes
import HandS.TupAny
import HandS.Wide
import PySem.Challenge.RW_letquay_k86_orders_of_units
import KE.KExcSuper
import KE.KExcInit
import HandS.ExcField
import KE.KDictZip
import KE.KItemsList
import KE.GoesMore
import HandS.SortRule
import HandS.WordsExc
import HandS.Star
import HandS.Walk
set_option Elab.async false
set_option linter.all false
set_option maxRecDepth 100000
set_option maxHeartbeats 4000000
namespace K86
open PySem L2
def top (i : Nat) : Stmt := PySem.Challenge.pw_letquay_k86_orders_of_units.main.body.getD i (.Pass ⟨0, 0, 0, 0⟩)
abbrev sLetters : Stmt := top 21
abbrev sHigh : Stmt := top 23
theorem scHigh : FnScope ["value"] ["value"] (defScope sHigh) := ⟨rfl, rfl, rfl, by decide +kernel, rfl, by decide +kernel, by decide +kernel⟩
end K86

namespace R1
open PySem PySem.Spec PyProof.Rows L2
section
variable {X : Cx}
/-- a ** b of greater ints, by their bits -/
def CPowB (i j : Int) : Prop := 0 ≤ j ∧ (Builtin.Int.intBits i : Int) * j ≤ 2 ^ 27
theorem op_powB : OpR X (binaryOp .Pow) (rI CPowB fun i j => .int (i ^ j.toNat)) := opI fun _ _ _ _ _ _ _ hc q => pow_int hc.1 hc.2 q

/-! ### min of a list of texts -/
/-- the order of texts -/
def ltS (a b : Str) : Bool := decide (a.cps.toList < b.cps.toList)
def strAt (zs : List Str) (i : Nat) : Str := zs.getD i Str.empty
theorem strAt_get {zs : List Str} {i : Nat} (h : i < zs.length) : strAt zs i = zs[i] := by
  unfold strAt
  rw [List.getD_eq_getElem?_getD, List.getElem?_eq_getElem h, Option.getD_some]
theorem cmp_strs {prog : Program} {w : World} {A : Around} {P : Nat → Value → Prop} (val : Nat → Str) (hval : ∀ i v, P i v → ∃ t, v = .str (val i) t) :
    CmpOf prog w A .Lt P (fun i j => ltS (val i) (val j)) := fun i j vi vj s Q E hi hj h => by
  obtain ⟨t, rfl⟩ := hval i vi hi
  obtain ⟨u, rfl⟩ := hval j vj hj
  have e : wpAny (model prog w) A (compareOp .Lt (.str (val i) t) (.str (val j) u)) Q E s := PyProof.Rows.lt_str h
  exact e
theorem lt_irr (a : Str) : ltS a a = false := decide_eq_false (List.lt_irrefl _)
theorem lt_tr {a b c : Str} (h1 : ltS a b = true) (h2 : ltS b c = true) : ltS a c = true :=
  decide_eq_true (List.lt_trans (of_decide_eq_true h1) (of_decide_eq_true h2))
theorem ext_cps {a b : Str} (h : a.cps.toList = b.cps.toList) : a = b := by
  cases a
  cases b
  congr
  exact Array.toList_inj.mp h
theorem lt_tot {a b : Str} (h1 : ltS a b = false) (h2 : ltS b a = false) : a = b :=
  ext_cps (List.le_antisymm (List.not_lt.mp (of_decide_eq_false h2)) (List.not_lt.mp (of_decide_eq_false h1)))
theorem le_tr {a b c : Str} (h1 : ltS b a = false) (h2 : ltS c b = false) : ltS c a = false := by
  cases e : ltS c a with
  | false => rfl
  | true =>
    cases e2 : ltS a b with
    | true => rw [lt_tr e e2] at h2; cases h2
    | false =>
      have q := lt_tot e2 h1
      rw [q, h2] at e
      cases e
theorem best_is (zs : List Str) : ∀ k, argBest (fun i j => ltS (strAt zs i) (strAt zs j)) k ≤ k ∧ ∀ j, j ≤ k → ltS (strAt zs j) (strAt zs (argBest (fun i j => ltS (strAt zs i) (strAt zs j)) k)) = false
  | 0 => ⟨Nat.le_refl _, fun j hj => by
      have : j = 0 := by omega
      subst this
      exact lt_irr _⟩
  | k + 1 => by
    obtain ⟨h1, h2⟩ := best_is zs k
    unfold argBest
    cases e : ltS (strAt zs (k + 1)) (strAt zs (argBest (fun i j => ltS (strAt zs i) (strAt zs j)) k)) with
    | true =>
      rw [if_pos rfl]
      refine ⟨Nat.le_refl _, fun j hj => ?_⟩
      by_cases hk : j = k + 1
      · subst hk; exact lt_irr _
      · have q := h2 j (by omega)
        cases e2 : ltS (strAt zs j) (strAt zs (k + 1)) with
        | false => rfl
        | true => rw [lt_tr e2 e] at q; cases q
    | false =>
      rw [if_neg Bool.false_ne_true]
      refine ⟨by omega, fun j hj => ?_⟩
      by_cases hk : j = k + 1
      · subst hk; exact e
      · exact h2 j (by omega)
/-- min(xs), xs a list of texts: a least one -/
def rMinS (K : PySem.W.Frag) : List V → Hp → VK → Prop := fun vs H Q => ∃ (a : Addr) (zs : List Str), vs = [V.ref a] ∧ SqL K H a (zs.map V.str) ∧ zs ≠ [] ∧ ∀ m, m ∈ zs → (∀ y ∈ zs, ltS y m = false) → Q (.str m) H
theorem cr_minS (hc : X.calm = true) : CallR X (.builtin "min") (rMinS X.K) := by
  intro pins s σ H vs us Q I r h
  obtain ⟨a, zs, rfl, hs, hne, q⟩ := h
  obtain ⟨its, rv, hl, hz⟩ := I.list hs
  rw [Vals.ref1 r]
  have hlen : its.length = zs.length := by
    have e := rv.length
    rw [List.length_map] at e
    exact e.symm
  have hpos : 0 < zs.length := List.length_pos_iff.mpr hne
  have hlt : a < s.heap.objs.size := hl.lt
  have hval : ∀ (i : Nat) (v : Value), its.toArray[i]? = some v → ∃ t, v = Value.str (strAt zs i) t := fun i v hv => by
    have hv' : its[i]? = some v := by simpa using hv
    have hi : i < its.length := (List.getElem?_eq_some_iff.mp hv').1
    obtain ⟨u, hu, ru⟩ := rv.get (i := i) (x := .str zs[i]) (by rw [List.getElem?_map, List.getElem?_eq_getElem (by omega)]; rfl)
    rw [hv'] at hu
    cases hu
    obtain ⟨t, e⟩ := ru
    refine ⟨t, ?_⟩
    rw [e, strAt_get (by omega)]
  refine call_min_walk (wpAny_pyIter_list hl.isList ?_)
  refine ⟨_, _, _, _, _, _, _, rfl, Walks.list (A := X.A.in1) (I.ok.hd hc) s.heap.objs.size a (Nat.ne_of_lt hlt) its.toArray, ⟨⟨_, Heap.get?_push_size _ rfl, rfl, rfl⟩, hl.isList.push _⟩, fun b hb => ?_, by rw [List.size_toArray]; omega,
    cmp_strs (strAt zs) hval, fun v h' tk hP hk => ?_⟩
  · show b < (s.heap.push _).objs.size
    rw [Heap.size_push]
    rcases List.mem_cons.mp hb with e | hb
    · rw [e]; exact Nat.lt_succ_self _
    · rw [List.mem_singleton.mp hb]; exact Nat.lt_succ_of_lt hlt
  · obtain ⟨t, rfl⟩ := hval _ v hP
    obtain ⟨b1, b2⟩ := best_is zs (its.toArray.size - 1)
    rw [List.size_toArray] at b1 b2 ⊢
    have hk' : ∀ b u, s.heap.get? b = some u → h'.get? b = some u := fun b u e => hk b u (fun hm => by
      have e1 : b = s.heap.objs.size := List.mem_singleton.mp hm
      have e2 := Heap.lt_size e
      rw [e1] at e2
      exact Nat.lt_irrefl _ e2) (Heap.get?_push_of_some _ e)
    refine ⟨.str _, H, I.kept (t' := tk) hk', ⟨t, rfl⟩, q _ ?_ fun y hy => ?_⟩
    · have b3 : argBest (fun i j => ltS (strAt zs i) (strAt zs j)) (its.length - 1) < zs.length := by omega
      rw [strAt_get b3]
      exact List.getElem_mem _
    · obtain ⟨j, hj, e⟩ := List.mem_iff_getElem.mp hy
      have z := b2 j (by omega)
      rw [strAt_get hj, e] at z
      exact z
end
end R1

namespace R2b
open PySem PySem.Spec PyProof.Rows L2 HT
section
variable {prog : Program} {w : World} {A : Around} {E : Value → Shared → Prop} {s : Shared}
theorem places_back (n : Nat) : Builtin.Slice.slicePlaces ((n : Int) - 1) (-1) (-1) = n := by
  unfold Builtin.Slice.slicePlaces
  rw [if_neg (by decide)]
  by_cases h : ((n : Int) - 1) > -1
  · rw [if_pos h]
    have e : (((n : Int) - 1 - -1 - 1) / (- -1) + 1) = (n : Int) := by
      rw [show (- -1 : Int) = 1 by decide, Int.ediv_one]
      omega
    rw [e, Int.toNat_natCast]
  · rw [if_neg h]
    have : n = 0 := by omega
    subst this
    rfl
theorem applied_back {sl : Addr} {vl vu vs : Value} {n : Nat} {Q : Int × Int × Nat → Shared → Prop} (hs : s.heap.IsSliceOf sl vl vu vs) (pl : IsPart vl none) (pu : IsPart vu none) (ps : IsPart vs (some (-1)))
    (h : Q ((n : Int) - 1, -1, n) s) : wpAny (model prog w) A (Builtin.Slice.sliceApplied (.ref sl) (pure (n : Int))) Q E s := by
  obtain ⟨os, hos, hcs, hds⟩ := id hs
  unfold Builtin.Slice.sliceApplied Builtin.Slice.sliceFields
  refine wpAny_bind (wpAny_bind (wpAny_field hos hds (x := vl) rfl (wpAny_bind (wpAny_field hos hds (x := vu) rfl (wpAny_bind (wpAny_field hos hds (x := vs) rfl (wpAny_pure ?_)))))))
  refine wpAny_bind (slicePart_ ps ?_)
  show wpAny _ _ (if ((-1 : Int) == 0) = true then _ else _) _ _ s
  rw [if_neg (by decide)]
  refine wpAny_bind (slicePart_ pl (wpAny_bind (slicePart_ pu (wpAny_bind (wpAny_pure ?_)))))
  show wpAny _ _ (pure ((n : Int) - 1, (-1 : Int), Builtin.Slice.slicePlaces ((n : Int) - 1) (-1) (-1))) _ _ s
  rw [places_back]
  exact wpAny_pure h
theorem pick_back (xs : Array Value) : ((List.range xs.size).filterMap fun (m : Nat) => xs[((xs.size : Int) - 1 + (m : Int) * (-1)).toNat]?).toArray = xs.toList.reverse.toArray := by
  have e : ((List.range xs.size).filterMap fun (m : Nat) => xs[((xs.size : Int) - 1 + (m : Int) * (-1)).toNat]?) = (((List.range xs.size).map fun k => xs.size - 1 - k).filterMap (xs[·]?)) := by
    rw [List.filterMap_map]
    congr 1
    funext m
    show xs[((xs.size : Int) - 1 + (m : Int) * (-1)).toNat]? = xs[xs.size - 1 - m]?
    have q : ((xs.size : Int) - 1 + (m : Int) * (-1)).toNat = xs.size - 1 - m := by omega
    rw [q]
  rw [e, PySem.W.krv_range, List.filterMap_reverse, PySem.W.krv_all]
theorem getItem_tuple_back {t sl : Addr} {items : Array Value} {vl vu vs : Value} {Q : Value → Shared → Prop} (ht : IsTup s.heap t items) (hs : s.heap.IsSliceOf sl vl vu vs) (pl : IsPart vl none) (pu : IsPart vu none) (ps : IsPart vs (some (-1)))
    (h : Q (.ref s.heap.objs.size) { s with heap := s.heap.push { cls := .type "tuple", data := .seq items.toList.reverse.toArray } })
    (hsz : items.size ≤ sizeLine) : wpAny (model prog w) A (getItem (.ref t) (.ref sl)) Q E s := by
  have hok : sizeOk (.seq items.toList.reverse.toArray) := by
    show items.toList.reverse.toArray.size ≤ sizeLine
    rw [List.size_toArray, List.length_reverse, Array.length_toList]
    exact hsz
  obtain ⟨os, hos, hcs, hds⟩ := id hs
  have hTs : s.TypeIs (.ref sl) "slice" := ⟨os, hos, hcs⟩
  unfold getItem
  try with_reducible refine wpAny_holding ?_
  first | refine wpAny_bind (wpAny_pure ?_) | skip
  refine wpAny_bind (wpAny_sequenceKey ht.typeIs (by decide) ?_)
  refine wpAny_bind (wpAny_callSpecial?_slot (name := Str.ofString "__getitem__") ht.typeIs PyProof.Rows.slot_tuple_getitem
    (wpAny_call_entry PyProof.Rows.slot_tuple_getitem ht.typeIs entry_tuple_getitem ?_ (args_tuple_getitem _ _)))
  show wpAny _ _ (Builtin.Tuple.tupleItemsOf (.ref t) >>= _) _ _ s
  refine wpAny_bind (tupleItemsOf_ ht ?_)
  refine wpAny_bind (wpAny_typeOf hTs ?_)
  rw [if_pos (by decide)]
  refine wpAny_bind (applied_back hs pl pu ps ?_)
  have hno : ¬ ((((items.size : Int) - 1 == 0) && ((-1 : Int) == 1) && (items.size == items.size)) = true) := by
    intro q
    rw [show ((-1 : Int) == 1) = false by decide, Bool.and_false, Bool.false_and] at q
    cases q
  show wpAny _ _ (if (((items.size : Int) - 1 == 0) && ((-1 : Int) == 1) && (items.size == items.size)) = true then _ else _) _ _ s
  rw [if_neg hno, pick_back]
  first
    | exact wpAny_bind (m := Builtin.Tuple.tupleExact _) (wpAny_newObj_type (wpAny_pure ⟨_, rfl, wpAny_pure h⟩) hok)
    | exact wpAny_bind (m := Builtin.Tuple.tupleExact _) (wpAny_newObj_type (wpAny_bind (wpAny_pure (wpAny_pure ⟨_, rfl, wpAny_pure h⟩))) hok)
    | exact wpAny_bind (wpAny_bind (m := Builtin.Tuple.tupleExact _) (wpAny_newObj_type (wpAny_pure (wpAny_pure ⟨_, rfl, wpAny_pure h⟩)) hok))
    | exact wpAny_bind (wpAny_bind (m := Builtin.Tuple.tupleExact _) (wpAny_newObj_type (wpAny_pure ⟨_, rfl, wpAny_pure h⟩) hok))
end
section
variable {X : Cx}
/-- t[::-1], t a tuple -/
def tRevT (K : PySem.W.Frag) (te : TE) : TE := fun σ H Q => te σ H fun x H1 => ∃ a xs, x = .ref a ∧ SqT K H1 a xs ∧ ∀ p, H1 p = none → Q (.ref p) (upd H1 p (.tup xs.reverse))
theorem pe_revT {e : Expr} {te : TE} {k : Nat} {p1 p2 p3 pos : Pos} (he : PE X e te) : PE X (.Subscript e (.Slice none none (some (.UnaryOp .USub (.Constant (.int 1) k p1) p2)) p3) pos) (tRevT X.K te) := by
  refine ⟨fun pn0 s0 σ0 H0 Q0 I h => ?_⟩
  refine Subscript_ (thn (he.run pn0 s0 σ0 H0 _ I h) fun v s1 ⟨x, H1, I1, r1, q1⟩ => ?_)
  obtain ⟨a, xs, ex, hx, q⟩ := q1
  subst ex
  cases r1
  have hst : PO X (some (.UnaryOp .USub (.Constant (.int 1) k p1) p2)) (tPart (tUn (rU fun i => .int (-i)) (tC (.int 1)))) := po_some (pe_un un_neg pe_int)
  refine wpAny_Slice (thn (po_none.run pn0 s1 σ0 H1 (fun o H2 => o = none ∧ H2 = H1) I1 ⟨rfl, rfl⟩) fun vl s2 ⟨l, H2, I2, pl, el, e2⟩ => ?_)
  subst el e2
  refine thn (po_none.run pn0 s2 σ0 H2 (fun o H3 => o = none ∧ H3 = H2) I2 ⟨rfl, rfl⟩) fun vu s3 ⟨u, H3, I3, pu, eu, e3⟩ => ?_
  subst eu e3
  refine thn (hst.run pn0 s3 σ0 H3 (fun o H4 => o = some (-1) ∧ H4 = H3) I3 ⟨1, rfl, -1, rfl, rfl, rfl⟩) fun vs s4 ⟨o, H4, I4, ps, eo, e4⟩ => ?_
  subst eo e4
  have I5 : Inv X pn0 σ0 H4 { s4 with heap := s4.heap.push { cls := .type "slice", data := .fields #[vl, vu, vs] } } := I4.kept (t' := s4.toks) fun b ob q => Heap.get?_push_of_some _ q
  obtain ⟨its, r, ht, hz⟩ := I5.tuple hx
  have hlen := r.length
  show wpAny (model X.prog X.w) X.A (subscriptTail e (.Slice none none (some (.UnaryOp .USub (.Constant (.int 1) k p1) p2)) p3) (.ref a) (.ref s4.heap.objs.size)) (EP X pn0 σ0 Q0) X.xe { s4 with heap := s4.heap.push { cls := .type "slice", data := .fields #[vl, vu, vs] } }
  refine tail_any (ops := [.ref a, .ref s4.heap.objs.size]) ht.typeIs (PyProof.Rows.slot_tuple_getitem.lookup) ?_ (by with_unfolding_all rfl)
  refine getItem_tuple_back ht (Heap.IsSliceOf.new _ vl vu vs) pl pu ps ?_ (by rw [List.size_toArray]; omega)
  refine ⟨.ref _, _, I5.laid (t' := s4.toks) (o := .tup xs.reverse) (fun b ob q => Heap.get?_push_of_some _ q) (Nat.le_refl _) ?_, rfl, q _ (I5.hok.fresh (Nat.le_refl _))⟩
  exact ⟨by rw [List.length_reverse]; exact hz, _, r.reverse, IsTup.new _ _⟩
end
end R2b

/-! k86: the mathematics of orders of units, over any names. -/
namespace KM
section
variable {α : Type} [DecidableEq α]

/-- the names of rows -/
abbrev Rows (α : Type) := List (α × List α)
/-- the uses of a name: the first row of that name -/
def usesOf (rows : Rows α) (x : α) : Option (List α) := rows.lookup x

/-- the law's search for a ring: what it has found at its end -/
def cb (rows : Rows α) : Nat → List α → List α → List α
  | 0, _, found => found
  | n + 1, waiting, found =>
    match waiting.getLast? with
    | none => found
    | some x =>
      match usesOf rows x with
      | none => cb rows n waiting.dropLast found
      | some us => if x ∈ found then cb rows n waiting.dropLast found else cb rows n (waiting.dropLast ++ us) (found ++ [x])
/-- the program's search, from the unit called me -/
def ui (rows : Rows α) (me : α) : Nat → List α → List α → Bool
  | 0, _, _ => false
  | n + 1, waiting, found =>
    match waiting.getLast? with
    | none => false
    | some x =>
      if x = me then true else
      match usesOf rows x with
      | none => ui rows me n waiting.dropLast found
      | some us => if x ∈ found then ui rows me n waiting.dropLast found else ui rows me n (waiting.dropLast ++ us) (found ++ [x])

theorem cb_sub (rows : Rows α) : ∀ (n : Nat) (w f : List α) (x : α), x ∈ f → x ∈ cb rows n w f
  | 0, _, _, _, h => h
  | n + 1, w, f, x, h => by
    unfold cb
    split
    · exact h
    · split
      · exact cb_sub rows n _ _ x h
      · split
        · exact cb_sub rows n _ _ x h
        · exact cb_sub rows n _ _ x (List.mem_append_left _ h)
/-- both searches say the same -/
theorem ui_cb (rows : Rows α) (me : α) (hk : (usesOf rows me).isSome = true) : ∀ (n : Nat) (w f : List α), me ∉ f → (ui rows me n w f = true ↔ me ∈ cb rows n w f)
  | 0, w, f, h => by
    unfold ui cb
    exact ⟨fun z => Bool.noConfusion z, fun z => absurd z h⟩
  | n + 1, w, f, h => by
    unfold ui cb
    cases e : w.getLast? with
    | none => exact ⟨fun z => Bool.noConfusion z, fun z => absurd z h⟩
    | some x =>
      dsimp only
      by_cases hx : x = me
      · rw [if_pos hx]
        subst hx
        cases eu : usesOf rows x with
        | none => rw [eu] at hk; cases hk
        | some us =>
          dsimp only
          rw [if_neg h]
          exact ⟨fun _ => cb_sub rows n _ _ x (List.mem_append_right _ (List.mem_singleton.mpr rfl)), fun _ => rfl⟩
      · rw [if_neg hx]
        cases eu : usesOf rows x with
        | none => exact ui_cb rows me hk n _ _ h
        | some us =>
          dsimp only
          by_cases hf : x ∈ f
          · rw [if_pos hf, if_pos hf]
            exact ui_cb rows me hk n _ _ h
          · rw [if_neg hf, if_neg hf]
            refine ui_cb rows me hk n _ _ ?_
            intro z
            rcases List.mem_append.mp z with z | z
            · exact h z
            · exact hx (List.mem_singleton.mp z).symm

/-- the measure of a search -/
def missing (rows : Rows α) (f : List α) : Nat := (rows.filter fun r => decide (r.1 ∉ f)).length
def meas (rows : Rows α) (w f : List α) : Nat := missing rows f * 8 + w.length

theorem lookup_mem {rows : Rows α} {x : α} {us : List α} (h : usesOf rows x = some us) : (x, us) ∈ rows := by
  unfold usesOf at h
  induction rows with
  | nil => cases h
  | cons r rs ih =>
    obtain ⟨a, b⟩ := r
    rw [List.lookup_cons] at h
    by_cases e : x = a
    · subst e
      simp at h
      subst h
      exact List.mem_cons_self
    · have e' : (x == a) = false := by simpa using e
      rw [e'] at h
      exact List.mem_cons_of_mem _ (ih h)
theorem missing_less {rows : Rows α} {x : α} {us f : List α} (h : usesOf rows x = some us) (hf : x ∉ f) : missing rows (f ++ [x]) < missing rows f := by
  unfold missing
  have hm := lookup_mem h
  have key : ∀ l : Rows α, (l.filter fun r => decide (r.1 ∉ f ++ [x])).length ≤ (l.filter fun r => decide (r.1 ∉ f)).length ∧ ((x, us) ∈ l → (l.filter fun r => decide (r.1 ∉ f ++ [x])).length < (l.filter fun r => decide (r.1 ∉ f)).length) := by
    intro l
    induction l with
    | nil => exact ⟨Nat.le_refl _, fun z => by cases z⟩
    | cons r rs ih =>
      obtain ⟨i1, i2⟩ := ih
      by_cases h1 : r.1 ∉ f
      · by_cases h2 : r.1 = x
        · have h3 : ¬ (r.1 ∉ f ++ [x]) := fun z => z (List.mem_append_right _ (List.mem_singleton.mpr h2))
          rw [List.filter_cons_of_neg (by simpa using h3), List.filter_cons_of_pos (by simpa using h1), List.length_cons]
          exact ⟨by omega, fun _ => by omega⟩
        · have h3 : r.1 ∉ f ++ [x] := fun z => by
            rcases List.mem_append.mp z with z | z
            · exact h1 z
            · exact h2 (List.mem_singleton.mp z)
          rw [List.filter_cons_of_pos (by simpa using h3), List.filter_cons_of_pos (by simpa using h1), List.length_cons, List.length_cons]
          refine ⟨by omega, fun z => ?_⟩
          rcases List.mem_cons.mp z with z | z
          · exact absurd (by rw [← z]) h2
          · have := i2 z
            omega
      · have h3 : ¬ (r.1 ∉ f ++ [x]) := fun z => h1 fun y => z (List.mem_append_left _ y)
        rw [List.filter_cons_of_neg (by simpa using h3), List.filter_cons_of_neg (by simpa using h1)]
        refine ⟨i1, fun z => ?_⟩
        rcases List.mem_cons.mp z with z | z
        · rw [← z] at h1
          exact absurd hf h1
        · exact i2 z
  exact (key rows).2 hm

/-- all that a search from the uses of a name finds: with the measure as fuel -/
def reach (rows : Rows α) (x : α) : List α := cb rows (meas rows ((usesOf rows x).getD []) []) ((usesOf rows x).getD []) []

/-- rows that are well: at most seven uses each -/
def Short (rows : Rows α) : Prop := ∀ r ∈ rows, r.2.length ≤ 7
theorem Short.of {rows : Rows α} (h : Short rows) {x : α} {us : List α} (e : usesOf rows x = some us) : us.length ≤ 7 := h _ (lookup_mem e)

/-- what a search leaves: all that was found, all that waited, and the uses of what it has found anew -/
theorem cb_closed {rows : Rows α} (hs : Short rows) : ∀ (n : Nat) (w f : List α), meas rows w f ≤ n →
    (∀ y ∈ w, (usesOf rows y).isSome = true → y ∈ cb rows n w f) ∧
    (∀ x ∈ cb rows n w f, x ∉ f → ∀ us, usesOf rows x = some us → ∀ y ∈ us, (usesOf rows y).isSome = true → y ∈ cb rows n w f)
  | 0, w, f, h => by
    have hw : w = [] := by
      cases w with
      | nil => rfl
      | cons a l =>
        unfold meas at h
        rw [List.length_cons] at h
        omega
    subst hw
    unfold cb
    exact ⟨fun y hy => (by cases hy), fun x hx hn => absurd hx hn⟩
  | n + 1, w, f, h => by
    unfold cb
    cases e : w.getLast? with
    | none =>
      have hw : w = [] := List.getLast?_eq_none_iff.mp e
      subst hw
      exact ⟨fun y hy => (by cases hy), fun x hx hn => absurd hx hn⟩
    | some x =>
      have hw : w = w.dropLast ++ [x] := by
        have hne : w ≠ [] := fun z => by rw [z] at e; cases e
        have q := List.dropLast_concat_getLast hne
        rw [List.getLast?_eq_some_getLast hne] at e
        rw [Option.some.inj e] at q
        exact q.symm
      have hl : w.length = w.dropLast.length + 1 := by
        have := congrArg List.length hw
        rw [List.length_append, List.length_singleton] at this
        exact this
      dsimp only
      cases eu : usesOf rows x with
      | none =>
        dsimp only
        have ih := cb_closed hs n w.dropLast f (by unfold meas at h ⊢; omega)
        refine ⟨fun y hy hk => ?_, ih.2⟩
        rw [hw] at hy
        rcases List.mem_append.mp hy with hy | hy
        · exact ih.1 y hy hk
        · rw [List.mem_singleton.mp hy, eu] at hk
          cases hk
      | some us =>
        dsimp only
        by_cases hf : x ∈ f
        · rw [if_pos hf]
          have ih := cb_closed hs n w.dropLast f (by unfold meas at h ⊢; omega)
          refine ⟨fun y hy hk => ?_, ih.2⟩
          rw [hw] at hy
          rcases List.mem_append.mp hy with hy | hy
          · exact ih.1 y hy hk
          · rw [List.mem_singleton.mp hy]
            exact cb_sub rows n _ _ _ hf
        · rw [if_neg hf]
          have hm := missing_less eu hf
          have h7 := hs.of eu
          have ih := cb_closed hs n (w.dropLast ++ us) (f ++ [x]) (by
            unfold meas at h ⊢
            rw [List.length_append]
            omega)
          refine ⟨fun y hy hk => ?_, fun z hz hzf vs ev y hy hk => ?_⟩
          · rw [hw] at hy
            rcases List.mem_append.mp hy with hy | hy
            · exact ih.1 y (List.mem_append_left _ hy) hk
            · rw [List.mem_singleton.mp hy]
              exact cb_sub rows n _ _ _ (List.mem_append_right _ (List.mem_singleton.mpr rfl))
          · by_cases hzx : z = x
            · subst hzx
              rw [eu] at ev
              cases ev
              exact ih.1 y (List.mem_append_right _ hy) hk
            · refine ih.2 z hz (fun q => ?_) vs ev y hy hk
              rcases List.mem_append.mp q with q | q
              · exact hzf q
              · exact hzx (List.mem_singleton.mp q)
/-- a search finds nothing outside a closed set -/
theorem cb_least {rows : Rows α} (S : α → Prop) (hS : ∀ x, S x → ∀ us, usesOf rows x = some us → ∀ y ∈ us, (usesOf rows y).isSome = true → S y) :
    ∀ (n : Nat) (w f : List α), (∀ y ∈ w, (usesOf rows y).isSome = true → S y) → (∀ y ∈ f, S y) → ∀ y ∈ cb rows n w f, S y
  | 0, w, f, _, h2 => fun y hy => h2 y hy
  | n + 1, w, f, h1, h2 => by
    unfold cb
    cases e : w.getLast? with
    | none => exact h2
    | some x =>
      have hx : x ∈ w := List.mem_of_getLast? e
      have hd : ∀ y ∈ w.dropLast, (usesOf rows y).isSome = true → S y := fun y hy => h1 y (List.dropLast_subset _ hy)
      dsimp only
      cases eu : usesOf rows x with
      | none => exact cb_least S hS n _ _ hd h2
      | some us =>
        dsimp only
        have sx : S x := h1 x hx (by rw [eu]; rfl)
        split
        · exact cb_least S hS n _ _ hd h2
        · refine cb_least S hS n _ _ (fun y hy hk => ?_) fun y hy => ?_
          · rcases List.mem_append.mp hy with hy | hy
            · exact hd y hy hk
            · exact hS x sx us eu y hy hk
          · rcases List.mem_append.mp hy with hy | hy
            · exact h2 y hy
            · rw [List.mem_singleton.mp hy]
              exact sx
end
end KM

namespace R3
open PySem PySem.Spec PyProof.Rows L2
/-- an exception that has been caught: at a, of the class cls, its own dict d -/
def Caught (X : Cx) (pins : List (Addr × Obj)) (σ : L2.St) (H : Hp) (s : Shared) (a : Addr) (cls : Value) (d : Option Addr) : Prop :=
  ∃ (B : Heap) (sI : Shared), Inv X pins σ H sI ∧ (∀ b o, sI.heap.get? b = some o → b ∉ frs X.stack → B.get? b = some o) ∧ sI.heap.UpToSlots s.heap ∧
    HandSPX.FlyingZ B (X.env :: X.outer) a (Zc cls d) s.heap ∧ H a = none ∧ s.os = sI.os ∧ AllBare s.gens
/-- clauses: what they wish of the exception -/
def Clauses (X : Cx) (hds : List ExceptHandler) (W : Ends → WX) : Prop :=
  ∀ (pins : List (Addr × Obj)) (σ : L2.St) (H : Hp) (s : Shared) (a : Addr) (cls : Value) (d : Option Addr) (D : Ends), Caught X pins σ H s a cls d → W D cls d σ H →
    wpAny (model X.prog X.w) X.A (handleBy (.ref a) X.env hds) (SP X pins D) X.xe s
section
variable {X : Cx} {pins : List (Addr × Obj)} {σ : L2.St} {H : Hp} {s : Shared} {a : Addr} {cls : Value} {d : Option Addr}
theorem Caught.inv (C : Caught X pins σ H s a cls d) : Inv X pins σ H s := by
  obtain ⟨B, sI, J, nb, up, fl, na, os, ag⟩ := C
  exact J.landed nb fl.1 up os ag
theorem Caught.suite (C : Caught X pins σ H s a cls d) (hs : X.stack = X.env :: X.outer) (hf : X.env.frame = some X.env.locals) :
    ∃ (oe : Obj) (vs : Array Value), s.heap.get? a = some oe ∧ Zc cls d oe ∧ oe.data = .fields vs ∧ Inv (X.suite a ((a, oe) :: (X.pn ++ pins))) [] σ H s := by
  have J := C.inv
  obtain ⟨B, sI, _, nb, up, fl, na, os, ag⟩ := C
  obtain ⟨oe, vs, he, hz, hd⟩ := fl.there
  have nfr : a ∉ frs (X.env :: X.outer) := fun hm => by
    obtain ⟨_, o', e', hnf⟩ := fl.2.2.1.mem hm
    rw [he] at e'
    cases e'
    exact hnf _ hd
  have nL : a ≠ X.env.locals := fun z => nfr (List.mem_filterMap.mpr ⟨X.env, List.mem_cons_self, by rw [hf, z]⟩)
  have nF : a ∉ X.fs := fun hm => by
    obtain ⟨e, he', q⟩ := List.mem_filterMap.mp hm
    exact nfr (List.mem_filterMap.mpr ⟨e, List.mem_cons_of_mem _ he', q⟩)
  exact ⟨oe, vs, he, hz, hd, J.suite he hd na nL nF⟩
/-- the clauses are never reached -/
theorem cl_never {hds : List ExceptHandler} : Clauses X hds (fun _ _ _ _ _ => False) := fun _ _ _ _ _ _ _ _ _ h => h.elim
/-- the class of a clause is looked at -/
theorem test_cl {x : Str} {c : Value} {np : Pos} {b : Bool} {Q : Bool → Shared → Prop} {E1 E2 : Value → Shared → Prop} (hs : X.stack = X.env :: X.outer) (hf : X.env.frame = some X.env.locals) (hc : Names X x c) (C : Caught X pins σ H s a cls d) (hb : PySem.W.exmOne X.K cls c = some b) (q : Q b s) :
    wpAny (model X.prog X.w) (X.A.mark (some (.ref a))) (eval (.Name x np) X.env) (fun t s1 => wpAny (model X.prog X.w) (X.A.mark (some (.ref a))) (excMatches (.ref a) t) Q E1 s1) E2 s := by
  obtain ⟨oe, vs, he, hz, hd, S⟩ := C.suite hs hf
  have LT : PySem.W.Looks (model X.prog X.w) s.heap (typeOf (.ref a)) cls := fun A Q E s k q => wpAny_typeOf_ref (k _ _ he) (by rw [hz.1]; exact q)
  have LM := PySem.W.exm_one (M := model X.prog X.w) (C.inv.kIn) LT hb
  have fin : wpAny (model X.prog X.w) (X.A.mark (some (.ref a))) (excMatches (.ref a) c) Q E1 s := LM.here q
  obtain ⟨hg, hdbg, hm | ⟨hm, hv, hnn⟩⟩ := hc
  · exact ld_glob (X := X.suite a ((a, oe) :: (X.pn ++ pins))) S hg hm fin hdbg
  · exact ld_blt (X := X.suite a ((a, oe) :: (X.pn ++ pins))) S hg hm hv fin hnn hdbg
/-- a clause that does not meet it -/
theorem cl_skip {x : Str} {c : Value} {np pos' : Pos} {nm : Option Str} {body : List Stmt} {hds : List ExceptHandler} {W : Ends → WX} (hs : X.stack = X.env :: X.outer) (hf : X.env.frame = some X.env.locals) (hc : Names X x c) (r : Clauses X hds W) :
    Clauses X (.ExceptHandler (some (.Name x np)) nm body pos' :: hds) (fun D cls d σ H => PySem.W.exmOne X.K cls c = some false ∧ W D cls d σ H) := by
  intro pins σ H s a cls d D C h
  refine wpAny_handleBy_cons (codeAny_handlers_test ?_) (by intro q; cases q)
  exact test_cl hs hf hc C h.1 (r pins σ H s a cls d D C h.2)
/-- a clause that meets it, with a name for it -/
theorem cl_as {x n : Str} {c : Value} {i : Nat} {np pos' : Pos} {b₀ : Stmt} {suite : List Stmt} {hds : List ExceptHandler} {ts : Addr → Value → Option Addr → TS} (hs : X.stack = X.env :: X.outer) (hf : X.env.frame = some X.env.locals) (hN : X.N.Nodup) (hi : X.N[i]? = some n)
    (hln : X.env.kindOf n = some .local) (hc : Names X x c)
    (hsu : ∀ (a : Addr) (oe : Obj) (cls : Value) (d : Option Addr) (pn : List (Addr × Obj)), Zc cls d oe → (∃ vs, oe.data = .fields vs) → PSs (X.suite a ((a, oe) :: pn)) (b₀ :: suite) (ts a cls d)) :
    Clauses X (.ExceptHandler (some (.Name x np)) (some n) (b₀ :: suite) pos' :: hds) (fun D cls d σ H => PySem.W.exmOne X.K cls c = some true ∧ ∀ a, H a = none → σ.length = X.N.length →
      ts a cls d { nx := fun σ' H' => D.nx (σ'.set i none) H', rt := D.rt, bk := fun σ' H' => D.bk (σ'.set i none) H', ct := fun σ' H' => D.ct (σ'.set i none) H' } (σ.set i (some (.ref a))) H) := by
  intro pins σ H s a cls d D C h
  have ok := C.inv.ok
  have hloc : Loc X.env.scope n := .inl hln
  refine wpAny_handleBy_cons (codeAny_handlers_test ?_) (by intro q; cases q)
  refine test_cl hs hf hc C h.1 ?_
  refine codeAny_handlers_suite_as ?_
  obtain ⟨B, sI, J, nb, up, fl, na, os, ag⟩ := id C
  refine HandSPX.lands_againZ fl fun h4 fl4 up4 => ?_
  have C4 : Caught X pins σ H { s with heap := h4 } a cls d := ⟨B, sI, J, nb, up.trans up4, fl4, na, os, ag⟩
  obtain ⟨oe, vs, he, hz, hd, S⟩ := C4.suite hs hf
  refine store_ok (X := X.suite a ((a, oe) :: (X.pn ++ pins))) (v := .ref a) S hN hi hloc rfl (fun s5 S5 => ?_) (.inr hln)
  refine wpAny_mono ((hsu a oe cls d (X.pn ++ pins) hz ⟨_, hd⟩).run [] s5 _ H _ S5 (h.2 a na C.inv.len)) (fun f s6 hsp => ?_) (fun _ _ z => False.elim z)
  have leave : ∀ {σ6 : L2.St} {H6 : Hp} {Q : Shared → Prop}, Inv (X.suite a ((a, oe) :: (X.pn ++ pins))) [] σ6 H6 s6 → (∀ s7, Inv X pins (σ6.set i none) H6 s7 → Q s7) →
      wpAny (model X.prog X.w) X.A (do bindName X.env n .none; unbindBehindTheSuite X.env n pos') (fun _ s7 => Q s7) X.xe s6 := fun {σ6 H6 Q} S6 hq => gone_ok (S6.unsuite ok) hN hi hln hq
  cases f with
  | next =>
    obtain ⟨σ6, H6, S6, q6⟩ := hsp
    exact leave S6 fun s7 J7 => ⟨_, _, J7, q6⟩
  | brk =>
    obtain ⟨σ6, H6, S6, q6⟩ := hsp
    exact leave S6 fun s7 J7 => ⟨_, _, J7, q6⟩
  | cont =>
    obtain ⟨σ6, H6, S6, q6⟩ := hsp
    exact leave S6 fun s7 J7 => ⟨_, _, J7, q6⟩
  | ret u =>
    obtain ⟨v6, σ6, H6, S6, r6, q6⟩ := hsp
    exact leave S6 fun s7 J7 => ⟨_, _, _, J7, r6, q6⟩
/-- try, its clauses known by what they wish -/
theorem ps_tryC {body : List Stmt} {h₀ : ExceptHandler} {hds : List ExceptHandler} {W : Ends → WX} {pos : Pos} {tb : WX → TS} (hs : X.stack = X.env :: X.outer) (hf : X.env.frame = some X.env.locals)
    (hb : ∀ (W : WX) (pn : List (Addr × Obj)) (xe : Value → Shared → Prop), Takes (X.tr pn xe) W → PassesOwn (model X.prog X.w) X.A X.env xe → PSs (X.tr pn xe) body (tb W))
    (hk : Clauses X (h₀ :: hds) W) : PS X (.Try body (h₀ :: hds) [] [] pos) (fun D σ H => tb (W D) D σ H) := by
  refine ⟨fun pins s σ H D I h => ?_⟩
  have ok := I.ok
  have hfr : X.A.frames = some (X.env :: X.outer) := by rw [ok.frames, hs]
  refine wpAny_Try_except ?_
  refine wpAny_mono ((hb (W D) (X.pn ++ pins) (fun e s₁ => wpAny (model X.prog X.w) X.A (noteFrame e X.env) (fun _ s₂ => wpAny (model X.prog X.w) X.A (setFlight e none) (fun _ s₃ =>
    wpAny (model X.prog X.w) X.A (handleBy e X.env (h₀ :: hds)) (SP X pins D) X.xe s₃) X.xe s₂) X.xe s₁) (fun u s' xx => ?_) PassesOwn.looking).run [] s σ H D (I.toTry _) h) (fun f s1 hsp => ?_) (fun e s1 he => he)
  · obtain ⟨a, B, sI, pins', σ', H', cls, d, rfl, J', nb, up, sky, na, os, ag, w⟩ := xx
    have J : Inv X pins σ' H' sI := J'.ofTry ok
    have sky' : Sky B (X.env :: X.outer) a (Zc cls d) X.env.locals s'.heap := by rw [← hs]; exact sky
    show wpAny (model X.prog X.w) X.A (noteFrame (.ref a) X.env) _ _ _
    refine Sky.land Zc.steady hfr hf sky' fun h3 fl3 up3 => ?_
    exact hk pins σ' H' { s' with heap := h3 } a cls d D ⟨B, sI, J, nb, up.trans up3, fl3, na, os, ag⟩ w
  · cases f with
    | next =>
      obtain ⟨σ', H', J', q⟩ := hsp
      exact wpAny_execs_nil ⟨σ', H', J'.ofTry ok, q⟩
    | brk =>
      obtain ⟨σ', H', J', q⟩ := hsp
      exact ⟨σ', H', J'.ofTry ok, q⟩
    | cont =>
      obtain ⟨σ', H', J', q⟩ := hsp
      exact ⟨σ', H', J'.ofTry ok, q⟩
    | ret u =>
      obtain ⟨v, σ', H', J', r, q⟩ := hsp
      exact ⟨v, σ', H', J'.ofTry ok, r, q⟩
end
end R3

namespace R4
open PySem PySem.Spec PySem.W PySem.Calls PyProof.Rows
abbrev aeTail : List Value := [.type "ArithmeticError", .type "Exception", .type "BaseException", .type "object"]
/-- what the written part says of class Refused(ArithmeticError) and of its __init__ -/
structure RefC (K : Frag) (C fI cda cc : Addr) (nm f0 : Str) (params : Arguments) (body : List Stmt) (scope : Scope) (file : Str) : Prop where
  q : excInitIn K C aeTail "ArithmeticError.__new__" = true
  hi : findIn K (.ref C) "__init__" = some (some (.ref fI))
  tI : typeIn K (.ref fI) = some (.type "function")
  lk : ∃ (dV kV doc pm ct oc : Value) (od an : Option Addr) (osl : Array (Option Value)), K.lookup fI = some ⟨oc, od, .func (ksFn "__init__" nm params body scope dV kV doc pm an (.ref cda) ct cc), osl⟩ ∧
    ∀ (s : Shared) (a b : Value), BindsTo s (ksFn "__init__" nm params body scope dV kV doc pm an (.ref cda) ct cc) ⟨[a, b], []⟩ [("self", a), (f0, b)]
  hcd : codeIn K (.ref cda) nm = true
  code : ∃ (ccl : Value) (cdd : Option Addr) (vs : Array Value) (ccs : Array (Option Value)) (tf : Tok), K.lookup cda = some ⟨ccl, cdd, .fields vs, ccs⟩ ∧ vs[2]? = some (.str file tf)
  cell : ∃ (cl : Value) (cld : Option Addr) (csl : Array (Option Value)), K.lookup cc = some ⟨cl, cld, .cell (some (.ref C)), csl⟩
  hD : ∃ cd, clsIn K C = some cd
  hsub : mroIn K C (.ref C) = some true
  hsuper : nsIn K mainGlobals "super" = some none
  ho : nsIn K cStatics "thirdparty.any" = some none
  hm : ks_superIn K C C "__init__" = some (some (.builtin "ArithmeticError.__init__"))
  hB : subIn K (.ref C) (.type "ArithmeticError") = some true
  hs : findIn K (.ref C) "__setattr__" = some (some (.builtin "object.__setattr__"))
  hp : excOver K C aeTail = true
  ht : takerIn K C f0 = some none
  hh : hasDictIn K C = true
  exC : subIn K (.ref C) (.type "BaseException") = some true
  tyC : typeIn K (.ref C) = some (.type "type")
  kC : keepIn K (.ref C) = true
section
variable {prog : Program} {w : World} {A : Around} {E : Value → Shared → Prop} {K : Frag} {hp : Heap} {g : Array GenState} {d : Drawn} {t : Nat} {os : OsState}
/-- the super object -/
theorem node {s : Shared} {h₀ : Heap} {L : Addr} {m mg mb : Str → Option Value} {news : List (Addr × Obj)} {x C D f cc cda : Addr} {ox : Obj} {odx : Option Obj} {body : List Stmt} {q : Str} {scope : Scope} {p0 p1 : Pos} {attr : Str} {whole : Sem Value} {fd : FuncData} {ar : Arg} {vs : Array Value} {file : Str} {tf : Tok} {oc ccl cl : Value} {od cdd cld : Option Addr}
    {osl ccs csl : Array (Option Value)} {cdD : ClassData} {Q : Value → Shared → Prop}
    (F : Fr h₀ L s.heap m) (X₀ : K.In h₀) (N : News h₀ L s.heap news) (hG : h₀.Ns mainGlobals mg) (hBn : h₀.Ns builtinsNs mb) (hbs : mb "super" = some (.type "super"))
    (hf : K.lookup f = some ⟨oc, od, .func fd, osl⟩) (hp : (fd.params.posonlyargs ++ fd.params.args).head? = some ar) (hv : m ar.arg = some (.ref x)) (I : InstAt s.heap x ox C odx)
    (hcode : K.lookup cda = some ⟨ccl, cdd, .fields vs, ccs⟩) (hvs : vs[2]? = some (.str file tf)) (hfile : ((prog.main.file : Str) == file) = true)
    (hcell : K.lookup cc = some ⟨cl, cld, .cell (some (.ref D)), csl⟩) (hD : clsIn K D = some cdD) (hsub : mroIn K C (.ref D) = some true) (hsuper : nsIn K mainGlobals "super" = some none)
    (hat : (attr == ("__class__" : Str)) = false) (hks : scope.names.lookup ("super" : Str) = some .globalImplicit) (hkc : scope.names.lookup ("__class__" : Str) = some .free) (hka : scope.names.lookup ar.arg = some .local) (hk : scope.kind = .function)
    (htop : (prog.main.scope.names.lookup ("super" : Str)).isSome = false)
    (h : ∀ so h', Fr h₀ L h' m → News h₀ L h' ((so, ks_superObj D x C) :: news) → (∀ p ∈ news, p.1 < so) → Q (.ref so) { s with heap := h' }) :
    _root_.PySem.wpAt (model prog w) A (.func body (ksEnv q scope L f (.ref cda) cc)) (attributeBase (.Call (.Name "super" p0) [] [] p1) attr (ksEnv q scope L f (.ref cda) cc) whole) Q E s := by
  have X : K.In s.heap := X₀.keeps F.keep
  obtain ⟨hh, g, d, t, os⟩ := s
  obtain ⟨oD, hD1, hD2⟩ : ∃ oD, hh.get? D = some oD ∧ oD.data = .cls cdD := by
    unfold clsIn at hD
    split at hD
    · rename_i c d cd' sl ho
      cases hD
      exact ⟨_, X _ _ ho, rfl⟩
    · cases hD
  refine ks_wpAt_super_base (env := ksEnv q scope L f (.ref cda) cc) hks hkc hat rfl (X _ _ hf) rfl hp rfl (X _ _ hcode) rfl hvs hfile htop ?_
  refine ks_loadName_global hk hks (loadGlobal_builtin (env := ksEnv q scope L f (.ref cda) cc) (hG.keeps F.keep) (mg_none_of X₀ hG hsuper) (hBn.keeps F.keep) hbs ⟨rfl, ?_⟩)
  refine wpAny_loadName_free hk hkc rfl ⟨_, X _ _ hcell, rfl⟩ ?_
  refine wpAny_loadName_local hk hka F.ns hv ?_
  refine ks_wpAny_isType_cls hD1 hD2 ⟨rfl, ?_⟩
  refine ks_wpAny_call_super hD1 hD2 I.at_ I.cls (fun c e => ?_) (looks_mroIn X hsub) (fun h' e k => ?_)
  · have := I.no
    unfold notCls at this
    rw [e] at this
    exact Bool.noConfusion this
  · obtain ⟨F', N', l'⟩ := ks_newsPush (s := ⟨hh, g, d, t, os⟩) F N rfl e k
    exact h _ _ F' N' l'
open Builtin Builtin.ObjectAttr in
/-- the first field of an exception -/
theorem first_field {name : Str} {v : Value} {x C : Addr} {fv : Array Value} {bmB : List Value} {B : String} {Q : Unit → Shared → Prop} (SF : StoreFacts B bmB "object.__setattr__" "object")
    (X : K.In hp) (hx : hp.get? x = some { cls := .ref C, data := .fields fv }) (hs : findIn K (.ref C) "__setattr__" = some (some (.builtin "object.__setattr__"))) (ho : excOver K C bmB = true) (ht : takerIn K C name = some none) (hh : hasDictIn K C = true)
    (hq : ∀ h' tk' dx, (∀ b o, b ≠ x → hp.get? b = some o → h'.get? b = some o) → hp.objs.size ≤ dx → dx ≠ x → h'.get? x = some { cls := .ref C, dict := some dx, data := .fields fv } →
      h'.Ns1 dx (fun y => if y = name then some v else none) → Q () ⟨h', g, d, tk', os⟩) :
    wpAny (model prog w) A (setAttr (.ref x) name v) Q E ⟨hp, g, d, t, os⟩ := by
  have hxs : x ≠ hp.objs.size := Nat.ne_of_lt (Heap.lt_size hx)
  refine set_plain X (ox := { cls := .ref C, data := .fields fv }) (od := none) ⟨hx, rfl, rfl, trivial⟩ hs ?_
  refine osa_openX (s := ⟨hp, g, d, t + 1, os⟩) (od := none) (ox := { cls := .ref C, data := .fields fv }) SF X ⟨hx, rfl, rfl, trivial⟩ ho ht fun b => ?_
  obtain ⟨cd, hc, hd'⟩ := any_some hh
  have hcls : Looks (model prog w) hp (classData C) cd := looks_clsIn X hc
  show wpAny _ _ (storeInOwnDict (.ref x) (.ref C) (.str name t) name v b) _ _ _
  obtain ⟨nm, bs, mro, ns, qn, hd, sn, sb, ab, col, del⟩ := cd
  dsimp only at hd'
  subst hd'
  unfold storeInOwnDict ownDictForStores
  repeat (first | with_reducible refine HandSPX.store_in_new ?_ ?_ | with_reducible refine wpAny_loadPart_at hx ?_ | with_reducible refine hcls.at ?_ | wp_step)
  · exact ⟨_, #[], _, (Heap.get?_update_ne _ _ _ _ hxs.symm).trans (Heap.get?_push_at rfl rfl), rfl, fun e he => absurd he (by simp), fun _ => rfl⟩
  · intro h' tk' hn' hsb
    have hx₁ : (hp.push { cls := .type "dict", data := .dict #[] }).get? x = some { cls := .ref C, data := .fields fv } := Heap.get?_push_of_some _ hx
    refine hq h' tk' hp.objs.size (fun b o hb ho => ?_) (Nat.le_refl _) hxs.symm ?_ hn'
    · exact (hsb.2 b (Nat.ne_of_lt (Heap.lt_size ho))).trans ((Heap.get?_update_ne _ _ _ _ hb).trans (Heap.get?_push_of_some _ ho))
    · exact (hsb.2 x hxs).trans (Heap.get?_update_self _ hx₁ rfl)
theorem field_nm {h : Heap} {L : Addr} {m : Str → Option Value} {h₀ : Heap} (F : Fr h₀ L h m) {b : Addr} {o : Obj} (e : h₀.get? b = some o) : h.get? b = some o := F.keep b o e
/-- Refused(v): made, its __init__ walked -/
theorem made {C fI cda cc : Addr} {nm f0 : Str} {params : Arguments} {scope : Scope} {file sm : Str} {k0 : Nat} {p0 p1 p2 p3 p4 p5 p6 p7 p8 p9 : Pos} {mg mb : Str → Option Value} {v : Value} {Q : Value → Shared → Prop} {pl : Addr → Addr → Addr → Addr → Sem Bool}
    (R : RefC K C fI cda cc nm f0 params [.Expr (.Call (.Attribute (.Call (.Name "super" p0) [] [] p1) "__init__" p2) [.Constant (.str sm) k0 p3] [] p4) p5, .Assign [.Attribute (.Name "self" p6) f0 p7] (.Name f0 p8) p9] scope file)
    (X : K.In hp) (hG : hp.Ns mainGlobals mg) (hBn : hp.Ns builtinsNs mb) (hbs : mb "super" = some (.type "super")) (hlim : hp.NoLimit) (hroom : A.depth + 3 < recursionLimit)
    (hks : scope.names.lookup ("super" : Str) = some .globalImplicit) (hkc : scope.names.lookup ("__class__" : Str) = some .free) (hka : scope.names.lookup ("self" : Str) = some .local) (hkr : scope.names.lookup f0 = some .local) (hk : scope.kind = .function) (hco : scope.isCoroutine = false) (hgen : scope.isGenerator = false)
    (hcl : ∀ x ∈ scope.names, x.2 ≠ .cell) (har : ∃ ar : Arg, (params.posonlyargs ++ params.args).head? = some ar ∧ ar.arg = "self") (hf0 : f0 ≠ "self") (hfd : (f0 == ("__debug__" : Str)) = false)
    (hfile : ((prog.main.file : Str) == file) = true) (htop : (prog.main.scope.names.lookup ("super" : Str)).isSome = false)
    (hat : ∀ env : Env, attributeBase (.Name "self" p6) f0 env (eval (.Name "self" p6) env) = eval (.Name "self" p6) env)
    (he : ∀ (L f c1 c2 : Addr), eval (.Call (.Attribute (.Call (.Name "super" p0) [] [] p1) "__init__" p2) [.Constant (.str sm) k0 p3] [] p4) (ksEnv nm scope L f (.ref c1) c2) = (do
      let ov ← attributeBase (.Call (.Name "super" p0) [] [] p1) "__init__" (ksEnv nm scope L f (.ref c1) c2) (eval (.Call (.Name "super" p0) [] [] p1) (ksEnv nm scope L f (.ref c1) c2))
      standAt p2.atName
      let (f', first) ← holding [ov] (getMethod ov "__init__" (pl L f c1 c2))
      callWith p4 f' first (backTo p4 (starEach [.Constant (.str sm) k0 p3] (ksEnv nm scope L f (.ref c1) c2))) []))
    (h : ∀ x dx t0 h' tk', (∀ b o, hp.get? b = some o → h'.get? b = some o) → hp.objs.size ≤ x → hp.objs.size ≤ dx → dx ≠ x → h'.get? x = some (excObj C t0 (some dx) .none) →
      h'.Ns1 dx (fun y => if y = f0 then some v else none) → Q (.ref x) ⟨h', g, d, tk', os⟩) :
    wpAny (model prog w) A (call (.ref C) [v]) Q E ⟨hp, g, d, t, os⟩ := by
  obtain ⟨nm', N', qn, bs, bm, hdct, sn, sub, ab, col, dd, k0', k1, k2, k3, k5, hC, hT⟩ := excInit_of X R.q
  obtain ⟨dV, kV, doc, pm, ct, oc, od, an, osl, lk, hbind⟩ := R.lk
  obtain ⟨ar, har1, har2⟩ := har
  have kk : ∀ b o, hp.get? b = some o → ((hp.push (kdv_tup [v])).push (HandSPX.excO C hp.objs.size)).get? b = some o := fun b o e => Heap.get?_push_of_some _ (Heap.get?_push_of_some _ e)
  have hx0 : ((hp.push (kdv_tup [v])).push (HandSPX.excO C hp.objs.size)).get? (hp.objs.size + 1) = some (HandSPX.excO C hp.objs.size) := by heap_get
  have hsz : ((hp.push (kdv_tup [v])).push (HandSPX.excO C hp.objs.size)).objs.size = hp.objs.size + 2 := by rw [Heap.size_push, Heap.size_push]
  refine wpAny_call (HandSPX.call_own F.excBase_ArithmeticError hT hC (looks_findIn X R.hi) (fun self => bind_fn X self R.tI) (by show 1 ≤ sizeLine; decide) ?_)
  have dep : (A.under (.builtin "type.__call__" ⟨.ref C :: [v], []⟩)).depth < recursionLimit := by
    have e1 : (A.under (.builtin "type.__call__" ⟨.ref C :: [v], []⟩)).depth = A.depth + 1 := L2.make_depth
    omega
  have K2 : K.In ((hp.push (kdv_tup [v])).push (HandSPX.excO C hp.objs.size)) := X.keeps kk
  refine ks_codeAny_call_defAt dep (K2 _ _ lk) rfl (hlim.keeps kk) (codeRec_of K2 R.hcd) rfl (hbind _ _ _) hcl (fun y hy => ?_) (fun h₁ hn hkeep => ?_) hco hgen hk
  · rcases List.mem_cons.mp hy with e | hy
    · rw [e]; exact hka
    · rw [List.mem_singleton.mp hy]; exact hkr
  obtain ⟨ccl, cdd, vs, ccs, tf, hcode, hvs⟩ := R.code
  obtain ⟨cl, cld, csl, hcell⟩ := R.cell
  obtain ⟨cd, hD⟩ := R.hD
  have F1 : Fr hp ((hp.push (kdv_tup [v])).push (HandSPX.excO C hp.objs.size)).objs.size h₁ (fun x => [(("self" : Str), Value.ref (hp.objs.size + 1)), (f0, v)].reverse.lookup x) :=
    ⟨hn, fun b o e => hkeep b o (kk b o e), by rw [hsz]; omega⟩
  have old : ∀ b : Addr, hp.objs.size ≤ b → hp.get? b = none := fun b hb => by
    cases e : hp.get? b with
    | none => rfl
    | some o => exact absurd (Heap.lt_size e) (Nat.not_lt.mpr hb)
  have N1 : News hp ((hp.push (kdv_tup [v])).push (HandSPX.excO C hp.objs.size)).objs.size h₁ [(hp.objs.size + 1, excObj C hp.objs.size none .none)] := fun p hp' => by
    rw [List.mem_singleton.mp hp']
    exact ⟨hkeep _ _ hx0, by rw [hsz]; show hp.objs.size + 1 ≠ hp.objs.size + 2; omega, old _ (Nat.le_succ _)⟩
  have ms : (fun x => [(("self" : Str), Value.ref (hp.objs.size + 1)), (f0, v)].reverse.lookup x) ar.arg = some (Value.ref (hp.objs.size + 1)) := by
    rw [har2]
    show List.lookup ("self" : Str) [(f0, v), (("self" : Str), Value.ref (hp.objs.size + 1))] = _
    rw [List.lookup_cons, show (("self" : Str) == f0) = false from by simpa using Ne.symm hf0]
    simp
  have mf : (fun x => [(("self" : Str), Value.ref (hp.objs.size + 1)), (f0, v)].reverse.lookup x) f0 = some v := by
    show List.lookup f0 [(f0, v), (("self" : Str), Value.ref (hp.objs.size + 1))] = _
    rw [List.lookup_cons, beq_self_eq_true]
  have hi : interactive (callEnv (ksFn "__init__" nm params [.Expr (.Call (.Attribute (.Call (.Name "super" p0) [] [] p1) "__init__" p2) [.Constant (.str sm) k0 p3] [] p4) p5, .Assign [.Attribute (.Name "self" p6) f0 p7] (.Name f0 p8) p9] scope dV kV doc pm an (.ref cda) ct cc) ((hp.push (kdv_tup [v])).push (HandSPX.excO C hp.objs.size)).objs.size fI) = false := by
    simp [interactive, callEnv, newEnv, hk]
  refine ks_wpAt_execs_cons (ks_wpAt_Expr_any (ks_wpAt_MethodCall ?_ (he _ _ _ _)) hi rfl)
  refine node F1 X N1 hG hBn hbs lk har1 ms (InstAt.of_exc0 N1 List.mem_cons_self) hcode hvs hfile hcell hD R.hsub R.hsuper (by decide) hks hkc (by rw [har2]; exact hka) hk htop fun so h2 F2 N2 l2 => ?_
  refine kxs_method kxs_ArithmeticError F2 X N2 List.mem_cons_self (InstAt.of_exc0 N2 (t := hp.objs.size) (c2 := .none) (List.mem_cons_of_mem _ List.mem_cons_self)) R.ho R.hm R.hB (by decide) fun q h3 F3 N3 l3 => ?_
  have n1 : so ≠ hp.objs.size + 1 := Nat.ne_of_gt (l2 _ (List.mem_singleton.mpr rfl))
  have n2 : q ≠ hp.objs.size + 1 := Nat.ne_of_gt (l3 (hp.objs.size + 1, excObj C hp.objs.size none .none) (by simp))
  refine kxs_callWith1 N3 List.mem_cons_self ?_
  show wpAny _ _ (spliced ((false, eval (.Constant (.str sm) k0 p3) _) :: backTo p4 (starEach [] _))) _ _ _
  refine Calls.spliced_cons (Calls.Constant_str (Calls.spliced_nil ⟨kxs_at N3 List.mem_cons_self, ?_⟩))
  refine kxs_call (s := ⟨h3, g, d, _, os⟩) F3 X N3 F.excBase_ArithmeticError R.q List.mem_cons_self (UpdF.tail n2 (UpdF.tail n1 (UpdF.head (by simp)))) (by show 1 ≤ sizeLine; decide) fun t4 h4 F4 N4 l4 => ?_
  refine ks_wpAt_execs_cons (ks_wpAt_Assign_Attr (wpAt_of_wpAny (wpAny_Name (wpAny_loadName_local hk hkr F4.ns mf ?_) hfd)) rfl)
  refine wpAny_Name (wpAny_loadName_local (v := .ref (hp.objs.size + 1)) hk hka F4.ns (by rw [har2] at ms; exact ms) ?_) (by decide)
  have hx4 := (N4 (hp.objs.size + 1, excObj C t4 none .none) (by simp)).1
  have sz4 := Heap.lt_size hx4
  refine first_field F.store_ArithmeticError (X.keeps F4.keep) hx4 R.hs R.hp R.ht R.hh fun h5 tk5 dx k5 l5 ne5 e5 n5 => ?_
  refine wpAt_of_wpAny (wpAny_execs_nil ⟨rfl, ?_⟩)
  refine h _ dx t4 h5 tk5 (fun b o e => k5 b o (fun z => ?_) (F4.keep b o e)) (Nat.le_succ _) (Nat.le_trans (Nat.le_succ _) (Nat.le_trans (Nat.le_of_lt sz4) l5)) ne5 e5 n5
  have q := Heap.lt_size e
  rw [z] at q
  exact absurd q (Nat.not_lt.mpr (Nat.le_succ _))
end
end R4

namespace R4
open PySem PySem.Spec PySem.W PySem.Calls PyProof.Rows L2
abbrev sRef : Stmt := inClass (K86.top 8) 0
abbrev RefK (K : Frag) (C fI cda cc : Addr) (file : Str) : Prop := RefC K C fI cda cc "Refused.__init__" "reason" (defArgs sRef) (defBody sRef) (defScope sRef) file
theorem pmk_ref {X : Cx} {C fI cda cc : Addr} {file : Str} {e : Expr} {te : TE} {k : Nat} {p pos : Pos} (R : RefK X.K C fI cda cc file) (hr : Room (k + 1) X.A) (hm : X.mg "Refused" = some (.ref C)) (hg : Gl X "Refused")
    (hfile : ((X.prog.main.file : Str) == file) = true) (htop : (X.prog.main.scope.names.lookup ("super" : Str)).isSome = false) (ha : PE X e te)
    (he : starEach (e :: []) X.env = (false, eval e X.env) :: starEach [] X.env := by rfl) :
    PMk X (.Call (.Name "Refused" p) [e] [] pos) (fun σ H Q => te σ H fun y H1 => ∀ d, H1 d = none → Q (.ref C) (some d) (upd H1 d (.xd [("reason", y)]))) := by
  intro pins s σ H Q I h
  refine wpAny_Call_Name_kw (ld_glob I hg hm ?_ (by decide))
  refine PySem.W.callWith_K (h₀ := X.base) I.ok.mod.kin R.kC (thn ((pa_cons ha pa_nil he).run pos pins s σ H (fun vs H1 => match vs with | [y] => ∀ d, H1 d = none → Q (.ref C) (some d) (upd H1 d (.xd [("reason", y)])) | _ => False) I h) fun us s1 hh => ?_) he rfl
  obtain ⟨vs, H1, I1, r1, q⟩ := hh
  refine ⟨I1.kIn, ?_⟩
  cases r1 with
  | nil => exact q.elim
  | @cons y u _ _ ru rn =>
    cases rn with
    | cons _ _ => exact q.elim
    | nil =>
      have q : ∀ d, H1 d = none → Q (.ref C) (some d) (upd H1 d (.xd [("reason", y)])) := q
      show wpAny _ _ (call (.ref C) [u]) _ _ _
      obtain ⟨mb, hbn, hbb⟩ := I1.ok.mod.blt
      have kb := I1.bk
      obtain ⟨hp, g, dr, tk, os⟩ := s1
      have dp : X.A.depth + 3 < recursionLimit := by have := hr.dp; omega
      refine made (p0 := _) (f0 := "reason") (scope := defScope sRef) (params := defArgs sRef) (file := file) R I1.kIn (I1.mod.glob.keeps kb) (hbn.keeps kb) ((hbb _ (by decide)).trans (by decide +kernel)) I1.nolimit dp rfl rfl rfl rfl rfl rfl rfl (by decide +kernel) ⟨_, rfl, rfl⟩ (by decide) (by decide) hfile htop
        (fun _ => rfl) (fun _ _ _ _ => rfl) (fun x dx t0 h' tk' kp lx ld ne hx hn => ?_)
      have nx : H1 x = none := I1.hok.fresh lx
      have nd : H1 dx = none := I1.hok.fresh ld
      obtain ⟨G, g1, g2⟩ := restrict h' fun b => decide (b ≠ x)
      have gk : ∀ b, b ≠ x → G.get? b = h'.get? b := fun b hb => g1 b (decide_eq_true hb)
      have ge : G.get? x = none := g2 x (by simp)
      have xne : ∀ {b : Addr} {o : Obj}, hp.get? b = some o → b ≠ x := fun {b o} e z => by
        have q := Heap.lt_size e
        rw [z] at q
        exact absurd q (Nat.not_lt.mpr lx)
      have J : Inv X pins σ (upd H1 dx (.xd [("reason", y)])) { (⟨hp, g, dr, tk, os⟩ : Shared) with heap := G, toks := tk' } := by
        refine I1.laid (t' := tk') (a := dx) (o := .xd [("reason", y)]) (fun b o e => by rw [gk b (xne e)]; exact kp b o e) ld ?_
        refine ⟨_, hn.at fun o e => (gk dx ne).trans e, fun f => ?_⟩
        show RelO (List.lookup f [(("reason" : Str), y)]) (if f = "reason" then some u else none)
        by_cases hf : f = "reason"
        · rw [if_pos hf, hf, List.lookup_cons, beq_self_eq_true]
          exact ru
        · rw [if_neg hf, List.lookup_cons, show (f == ("reason" : Str)) = false from by simpa using hf]
          exact True.intro
      refine ⟨x, _, _, { (⟨hp, g, dr, tk, os⟩ : Shared) with heap := G, toks := tk' }, _, .ref C, some dx, rfl, J, fun b o e => ?_, ge, hx, ⟨rfl, rfl⟩, rfl, rfl, ?_, rfl, I1.bare, raises_own R.exC R.tyC, q dx nd⟩
      · by_cases hb : b = x
        · rw [hb, ge] at e; cases e
        · exact (gk b hb).symm.trans e
      · rw [upd_ne (Ne.symm ne)]
        exact nx
end R4

namespace R5
open PySem PySem.Spec PyProof.Rows L2
/-- repr(x), x data: none is being shown -/
def rRepr (K : PySem.W.Frag) : List V → Hp → VK → Prop := fun vs H Q => ∃ (a : Addr) (d : PyData), vs = [V.ref a] ∧ Dp K H (.ref a) d ∧ d.showable = true ∧ d.hasDict = false ∧ d.depth ≤ 40 ∧ d.shown.length ≤ sizeLine ∧ Q (.str d.shown) H
theorem cr_repr {X : Cx} (hg : X.A.guards = some []) (hu : X.A.units + 64 < cLine) : CallR X (.builtin "repr") (rRepr X.K) := by
  intro pins s σ H vs us Q I r h
  obtain ⟨a, d, rfl, hd, h1, h2, h3, h4, q⟩ := h
  rw [Vals.ref1 r]
  obtain ⟨as, hr⟩ := Dp.reads I d (.ref a) (.ref a) hd rfl
  exact repr_of_reads' hr h1 (PyData.noDict_hsm h2) hg (by omega) (fun _ _ e => e) (fun h' u tk hk => ⟨.str d.shown, H, I.kept (t' := tk) hk, ⟨u, rfl⟩, q⟩) h4
/-- a def that is called where nothing is being shown -/
structure FnG (P : Program) (w : World) (K : PySem.W.Frag) (mg : Str → Option Value) (base : Heap) (k : Nat) (f : Addr) (fd : FuncData) (ps : List Str) (sp : Sp) : Prop where
  len : ∀ vs H Q E, sp vs H Q E → vs.length = ps.length
  run : ∀ (A : Around) (outer : List Env) (s : Shared) (H : Hp) (args : Args) (us : List Value) (vs : List V) (Q : VK) (E : XK), Room k A → A.guards = some [] → Env0 P w K mg base A outer s H → BindsTo s fd args (ps.zip us) → Vals vs us → sp vs H Q E →
    codeAny (model P w) A (.call (.ref f) args) (CR CX0 outer P w H s Q E) s
theorem FnG.of {P : Program} {w : World} {K : PySem.W.Frag} {mg : Str → Option Value} {base : Heap} {k : Nat} {f : Addr} {name qual : Str} {params : Arguments} {body : List Stmt} {scope : Scope} {dV kV doc pm cdv ct oc : Value} {an od : Option Addr}
    {osl : Array (Option Value)} {N ps : List Str} {sp : Sp} (lk : K.lookup f = some ⟨oc, od, .func (PySem.W.fnOf name qual params body scope dV kV doc pm an cdv ct), osl⟩) (hcd : PySem.W.codeIn K cdv qual = true) (S : FnScope N ps scope)
    (len : ∀ vs H Q E, sp vs H Q E → vs.length = ps.length)
    (hbody : ∀ (A : Around) (outer : List Env) (s : Shared) (H : Hp) (vs : List V) (Q : VK) (E : XK), Room k (A.deeper (envOfC qual scope s.heap.objs.size f cdv)) → (A.deeper (envOfC qual scope s.heap.objs.size f cdv)).guards = some [] → sp vs H Q E →
      ∃ t, PSs (cxOf CX0 P w K mg base N qual scope f cdv A outer s H E) body t ∧ t { nx := fun _ H' => Q .non H', rt := Q } (L2.start N vs) H) :
    FnG P w K mg base (k + 1) f (PySem.W.fnOf name qual params body scope dV kV doc pm an cdv ct) ps sp :=
  ⟨len, fun A outer s H args us vs Q E hr hg e0 hb r hsp => LamX.run_ofS lk hcd S hr e0 hb r (len _ _ _ _ hsp) fun hr' => hbody A outer s H vs Q E hr' hg hsp⟩
section
variable {X : Cx} {k : Nat} {f : Addr} {fd : FuncData} {ps : List Str} {sp : Sp} {E : XK} {x : Str} {p pos : Pos} {e : Expr} {es : List Expr} {t : TA}
theorem pe_callG (F : FnG X.prog X.w X.K X.mg X.base k f fd ps sp) (hr : Room k X.A) (hgd : X.A.guards = some []) (hg : Gl X x) (hm : X.mg x = some (.ref f)) (hk : PySem.W.keepIn X.K (.ref f) = true) (hb : Binds X.K fd ps [])
    (ha : PA X (e :: es) t) (hdb : (x == ("__debug__" : Str)) = false := by decide) (he : starEach (e :: es) X.env = (false, eval e X.env) :: starEach es X.env := by rfl) (hpl : (backTo pos (starEach es X.env)).any (·.1) = false := by rfl) :
    PE X (.Call (.Name x p) (e :: es) [] pos) (tCall sp [] E t) := by
  refine ⟨fun pins s σ H Q I h => ?_⟩
  refine wpAny_Call_Name_kw (ld_glob I hg hm ?_ hdb)
  refine PySem.W.callWith_K (h₀ := X.base) I.ok.mod.kin hk (thn (ha.run pos pins s σ H _ I h) fun us s1 ⟨vs, H1, I1, r, q⟩ => ⟨I1.kIn, ?_⟩) he hpl
  have q' : sp vs H1 Q E := by
    have q0 : sp (vs ++ []) H1 Q E := q
    rw [List.append_nil] at q0
    exact q0
  have hl : us.length = ps.length := by rw [← r.length]; exact F.len _ _ _ _ q'
  have b := hb s1 us I1.kIn (by rw [List.append_nil]; exact hl)
  rw [List.append_nil] at b
  refine wpAny_call (codeAny_mono (F.run X.A X.stack s1 H1 ⟨us, []⟩ us vs Q E hr hgd I1.env0 b r q') fun r s' hq => ?_)
  cases r with
  | error e => exact (show False from hq).elim
  | ok fl =>
    cases fl with
    | ret u => exact I1.after hq
    | next => exact False.elim hq
    | brk => exact False.elim hq
    | cont => exact False.elim hq
end
end R5

namespace R6
open PySem PySem.Spec PyProof.Rows L2
abbrev sMet : Stmt := K86.top 82
theorem scMet : FnScope ["_law_call", "e"] ["_law_call"] (defScope sMet) := ⟨rfl, rfl, rfl, by decide +kernel, rfl, by decide +kernel, by decide +kernel⟩
/-- what _law_met makes of a call that is refused -/
def TTmet (K : PySem.W.Frag) (C : Addr) : (XK → Hp → VK → Prop) → Hp → VK → Prop := fun tl H Q =>
  tl (fun cls d H' => cls = .ref C ∧ ∃ (dx t : Addr) (dd : PyData), d = some dx ∧ H' dx = some (.xd [("reason", .ref t)]) ∧ Dp K H' (.ref t) dd ∧ dd.showable = true ∧ dd.hasDict = false ∧ dd.depth ≤ 40 ∧ dd.shown.length ≤ 1000 ∧
    Q (.str (("refused " : Str) ++ dd.shown)) H') H (fun _ _ => False)
/-- the classes of the five clauses -/
structure MetC (K : PySem.W.Frag) (mg : Str → Option Value) (C : Addr) : Prop where
  mR : mg "Refused" = some (.ref C)
  m1 : ∃ C1, mg "InvalidUnit" = some (.ref C1) ∧ PySem.W.exmOne K (.ref C) (.ref C1) = some false
  m2 : ∃ C1, mg "InvalidFace" = some (.ref C1) ∧ PySem.W.exmOne K (.ref C) (.ref C1) = some false
  m3 : ∃ C1, mg "InvalidOperation" = some (.ref C1) ∧ PySem.W.exmOne K (.ref C) (.ref C1) = some false
  me : PySem.W.exmOne K (.ref C) (.ref C) = some true
  xf : XfC K C
  no : PySem.W.findIn K (.ref C) "reason" = some none
  rp : mg "repr" = none
theorem met_gives {X : Cx} {C g : Addr} {cdg : Value} {q : Str} (M : MetC X.K X.mg C) (hg : X.A.guards = some []) (hr : Room 1 X.A) :
    LamX.GivesTo X ["_law_call", "e"] "_law_met" (defScope sMet) g cdg (defBody sMet) "_law_call" q (TTmet X.K C) := by
  intro f c' s H Q tl act hc h
  obtain ⟨C1, m1, e1⟩ := M.m1
  obtain ⟨C2, m2, e2⟩ := M.m2
  obtain ⟨C3, m3, e3⟩ := M.m3
  have hA : ((cxOf C8.CX0 X.prog X.w X.K X.mg X.base ["_law_call", "e"] "_law_met" (defScope sMet) g cdg X.A X.stack s H C8.E0).nox.A).guards = some [] := hg
  have hR : Room 0 (cxOf C8.CX0 X.prog X.w X.K X.mg X.base ["_law_call", "e"] "_law_met" (defScope sMet) g cdg X.A X.stack s H C8.E0).nox.A := hr.deeper _
  have hS : (cxOf C8.CX0 X.prog X.w X.K X.mg X.base ["_law_call", "e"] "_law_met" (defScope sMet) g cdg X.A X.stack s H C8.E0).nox.A.units + 64 < cLine := by
    have := hR.un
    omega
  refine ⟨_, pss_cons (R3.ps_tryC (X := (cxOf C8.CX0 X.prog X.w X.K X.mg X.base ["_law_call", "e"] "_law_met" (defScope sMet) g cdg X.A X.stack s H C8.E0).nox)
      (tb := fun W D σ H => ∃ Ech : XK, (∀ cls d σ' H', Ech cls d H' → W cls d σ' H') ∧ σ[0]? = some (some (.ref f)) ∧ H c' = some (LamX.CodeO c' q) ∧ tl Ech H (fun _ H1 => D.nx σ H1))
      rfl rfl (fun W pn xe tk _ => ?_)
      (R3.cl_skip rfl rfl ⟨rfl, by decide, .inl m1⟩ (R3.cl_skip rfl rfl ⟨rfl, by decide, .inl m2⟩ (R3.cl_skip rfl rfl ⟨rfl, by decide, .inl m3⟩
        (R3.cl_as (i := 1) rfl rfl scMet.nd rfl rfl ⟨rfl, by decide, .inl M.mR⟩ (fun a oe cls d pn hz hf => pss_one (ps_ret (pe_op op_add_str pe_str
          (pe_callB (id := "repr") (r := R5.rRepr X.K) (X := (cxOf C8.CX0 X.prog X.w X.K X.mg X.base ["_law_call", "e"] "_law_met" (defScope sMet) g cdg X.A X.stack s H C8.E0).nox.suite a ((a, oe) :: pn)) (R5.cr_repr (X := (cxOf C8.CX0 X.prog X.w X.K X.mg X.base ["_law_call", "e"] "_law_met" (defScope sMet) g cdg X.A X.stack s H C8.E0).nox.suite a ((a, oe) :: pn)) hA hS) (by rfl) M.rp (by decide +kernel) (pa_cons (pe_xf M.xf M.no hz hf (pv 1)) pa_nil))))))))))
    pss_never, ?_⟩
  · refine ⟨fun pins s' σ H' D I h' => ?_⟩
    obtain ⟨Ech, hW, h1, h2, h3⟩ := h'
    exact (pss_one (ps_expr (act W pn xe Ech _ _ tk hW))).run pins s' σ H' D I ⟨h1, h2, h3⟩
  · refine ⟨_, fun cls d σ' H' hx => ?_, rfl, hc, h⟩
    obtain ⟨rfl, dx, t, dd, rfl, hx, hd, b1, b2, b3, b4, hq⟩ := hx
    refine ⟨e1, e2, e3, M.me, fun a ha hl => ?_⟩
    refine ⟨.ref a, ?_, rfl, rfl, dx, _, .ref t, rfl, hx, rfl, t, dd, rfl, hd, b1, b2, b3, ?_, _, _, rfl, rfl, ?_, hq⟩
    · rw [List.getElem?_set_self (by rw [hl]; show 1 < 2; decide)]
    · exact Nat.le_trans b4 (by decide)
    · exact Nat.le_trans (Nat.add_le_add_left b4 _) (by decide)
end R6

namespace R7
open PySem
open PySem.Sem (wp)
/-- a zip: what it has handed out (f0), what it knows of that (f) -/
abbrev ZRec (h : Heap) (z TI TO : Addr) (f0 : Value) (f : Bool) : Prop :=
  h.get? z = some { cls := .type "zip", dict := none, data := .fields #[f0, .bool f, .bool false, .ref TI, .ref TO], slots := #[] }
def Out0 (f0 : Value) : Prop := f0 = .none ∨ ∃ T : Addr, f0 = rawInt T
section
variable {prog : Program} {w : World} {A : Around} {E : Value → Shared → Prop} {s : Shared}
theorem alive_no {a : Addr} {Q : Option Obj → Shared → Prop} (ho : s.heap.get? a = none) (h : Q none s) : wpAny (model prog w) A (loadIfAlive a) Q E s := by
  have h' : Q (s.heap.get? a) s := by rw [ho]; exact h
  exact fun _ _ _ => h'
theorem zfree {z TI TO : Addr} {f0 : Value} {f : Bool} {Q : Bool → Shared → Prop} (h0 : Out0 f0) (hz : ZRec s.heap z TI TO f0 f) (h1 : Q true s)
    (h2 : f0 ≠ .none → ∀ h', ZRec h' z TI TO f0 true → Heap.SameBut z s.heap h' → Q false { s with heap := h' }) : wpAny (model prog w) A (Builtin.SmallTypes.ownedTupleIsFree (.ref z)) Q E s := by
  rcases h0 with rfl | ⟨T, rfl⟩
  · unfold Builtin.SmallTypes.ownedTupleIsFree
    exact wpAny_bind (wpAny_field hz rfl (x := .none) rfl (wpAny_pure h1))
  · cases e : s.heap.get? T with
    | some oT => exact wpAny_tupleHeld_zip hz e fun h' a b => h2 (by intro z; cases z) h' a b
    | none =>
      unfold Builtin.SmallTypes.ownedTupleIsFree
      refine wpAny_bind (wpAny_field hz rfl (x := rawInt T) rfl ?_)
      show wpAny _ _ (loadIfAlive ((T : Int).toNat) >>= _) _ _ _
      rw [Int.toNat_natCast]
      refine wpAny_bind (alive_no e ?_)
      simp only [Option.isNone_none, if_true]
      exact wpAny_pure h1
/-- one turn of a zip of a tuple and a list -/
theorem zipM_next {z TI TO i1 i2 l1 l2 : Addr} {f0 : Value} {f : Bool} {k1 k2 : Nat} {xs ys : Array Value} {x y a b : Value} {Q : Value → Shared → Prop} (D : ZipApart z TI TO i1 i2 l1 l2) (h0 : Out0 f0)
    (hz : ZRec s.heap z TI TO f0 f) (hTI : IsPair s.heap TI (.ref i1) (.ref i2)) (hTO : IsPair s.heap TO a b)
    (h1 : s.heap.IsTupleIter i1 l1 k1) (h2 : s.heap.IsListIter i2 l2 k2) (hl1 : s.heap.IsTuple l1 xs) (hl2 : s.heap.IsList l2 ys) (hx : xs[k1]? = some x) (hy : ys[k2]? = some y)
    (hQ : ∀ h' f0' f' a' b', ((f0' = rawInt s.heap.objs.size ∧ f' = false) ∨ (f0' = f0 ∧ f0 ≠ .none)) → ZRec h' z TI TO f0' f' → IsPair h' TO a' b' → h'.IsTupleIter i1 l1 (k1 + 1) → h'.IsListIter i2 l2 (k2 + 1) → IsPair h' s.heap.objs.size x y → h'.objs.size = s.heap.objs.size + 1 →
      (∀ c o, c ≠ z → c ≠ TO → c ≠ i1 → c ≠ i2 → s.heap.get? c = some o → h'.get? c = some o) → Q (.ref s.heap.objs.size) { s with heap := h' }) :
    wpAny (model prog w) A (Builtin.«zip.__next__» ⟨[.ref z], []⟩) (fun fin s' => ∃ v, fin = .done (.ret v) ∧ Q v s') E s := by
  show wpAny _ _ (field (.ref z) 2 >>= _) _ _ _
  refine wpAny_bind (wpAny_field hz rfl (x := .bool false) rfl ?_)
  show wpAny _ _ (field (.ref z) 3 >>= _) _ _ _
  refine wpAny_bind (wpAny_field hz rfl (x := .ref TI) rfl ?_)
  refine wpAny_bind (wpAny_seqItems hTI rfl ?_)
  show wpAny _ _ (Builtin.SmallTypes.ownedTupleIsFree (.ref z) >>= _) _ _ _
  refine wpAny_bind (zfree h0 hz ?_ fun hne0 g1 hz1 hs1 => ?_)
  · simp only [if_true]
    refine wpAny_bind (wpAny_rule ?_)
    refine wpAny_bind (wpAny_field hz rfl (x := .ref TO) rfl ?_)
    refine wpAny_bind (wpAny_setField_rec hz (by simp) fun g1 hz1 hs1 => ?_)
    replace hz1 : ZRec g1 z TI TO .ellipsis f := hz1
    refine wpAny_bind ?_
    simp only [List.zipIdx_cons, List.zipIdx_nil, List.forIn_cons, List.forIn_nil]
    refine wpAny_bind (wpAny_bind (wpAny_onRaise ?_))
    show wpAny _ _ (Builtin.SmallTypes.nextOf (.ref i1) >>= _) _ _ _
    refine wpAny_bind (RZ.nextOf_tuple_item (h1.extBut hs1.extBut D.i1z) (hl1.extBut hs1.extBut D.l1z) hx fun g2 h12 hs2 => wpAny_pure ?_)
    have hU : IsPair g2 TO a b := hs2.extBut _ _ D.TOi1 (hs1.extBut _ _ D.TOz hTO)
    refine wpAny_bind (wpAny_seqItems hU rfl ?_)
    refine wpAny_bind (wpAny_updateSeq_pair hU fun g3 hT3 hs3 => ?_)
    replace hT3 : IsPair g3 TO x b := hT3
    refine wpAny_bind (wpAny_letGo (wpAny_pure ?_))
    refine wpAny_bind (wpAny_bind (wpAny_onRaise ?_))
    show wpAny _ _ (Builtin.SmallTypes.nextOf (.ref i2) >>= _) _ _ _
    refine wpAny_bind (wpAny_nextOf_list_item (((h2.extBut hs1.extBut D.i2z).extBut hs2.extBut D.i12.symm).extBut hs3.extBut D.TOi2.symm)
      (((hl2.extBut hs1.extBut D.l2z).extBut hs2.extBut D.l2i1).extBut hs3.extBut D.l2TO) hy fun g4 h24 hs4 => wpAny_pure ?_)
    have hU4 : IsPair g4 TO x b := hs4.extBut _ _ D.TOi2 hT3
    refine wpAny_bind (wpAny_seqItems hU4 rfl ?_)
    refine wpAny_bind (wpAny_updateSeq_pair hU4 fun g5 hT5 hs5 => ?_)
    replace hT5 : IsPair g5 TO x y := hT5
    refine wpAny_bind (wpAny_letGo (wpAny_pure (wpAny_pure ?_)))
    refine wpAny_bind (wpAny_seqItems hT5 rfl ?_)
    refine wpAny_bind (wpAny_newTuple ?_)
    have hsz : g5.objs.size = s.heap.objs.size := by rw [hs5.1, hs4.1, hs3.1, hs2.1, hs1.1]
    have hz5 : ZRec g5 z TI TO .ellipsis f := hs5.extBut _ _ D.TOz.symm (hs4.extBut _ _ D.i2z.symm (hs3.extBut _ _ D.TOz.symm (hs2.extBut _ _ D.i1z.symm hz1)))
    have hk5 : ∀ c o, c ≠ z → c ≠ TO → c ≠ i1 → c ≠ i2 → s.heap.get? c = some o → g5.get? c = some o := fun c o c1 c2 c3 c4 e =>
      hs5.extBut _ _ c2 (hs4.extBut _ _ c4 (hs3.extBut _ _ c2 (hs2.extBut _ _ c3 (hs1.extBut _ _ c1 e))))
    have h15 : g5.IsTupleIter i1 l1 (k1 + 1) := ((h12.extBut hs3.extBut D.TOi1.symm).extBut hs4.extBut D.i12).extBut hs5.extBut D.TOi1.symm
    have h25 : g5.IsListIter i2 l2 (k2 + 1) := h24.extBut hs5.extBut D.TOi2.symm
    have hzl : z < g5.objs.size := Heap.lt_size hz5
    show wpAny _ _ (Builtin.SmallTypes.ownedTupleHandOut (.ref z) (.ref g5.objs.size) >>= _) _ _ _
    refine wpAny_bind ?_
    unfold Builtin.SmallTypes.ownedTupleHandOut
    have hz6 : ZRec (g5.push { cls := .type "tuple", data := .seq #[x, y] }) z TI TO .ellipsis f := Heap.get?_push_of_some _ hz5
    refine wpAny_bind (wpAny_setField_rec hz6 (by simp) fun g7 hz7 hs7 => ?_)
    replace hz7 : ZRec g7 z TI TO (rawInt g5.objs.size) f := hz7
    refine wpAny_setField_rec hz7 (by simp) fun g8 hz8 hs8 => ?_
    replace hz8 : ZRec g8 z TI TO (rawInt g5.objs.size) false := hz8
    replace hs7 : Heap.SameBut z (g5.push { cls := .type "tuple", data := .seq #[x, y] }) g7 := hs7
    replace hs8 : Heap.SameBut z g7 g8 := hs8
    have up : ∀ c o, c ≠ z → g5.get? c = some o → g8.get? c = some o := fun c o c1 e => hs8.extBut _ _ c1 (hs7.extBut _ _ c1 (Heap.get?_push_of_some _ e))
    have hT8 : IsPair g8 g5.objs.size x y := hs8.extBut _ _ (Nat.ne_of_gt hzl) (hs7.extBut _ _ (Nat.ne_of_gt hzl) (Heap.get?_push_size _ rfl))
    have hsz8 : g8.objs.size = g5.objs.size + 1 := by rw [hs8.1, hs7.1, Heap.size_push]
    rw [hsz] at hz8 hT8 hsz8
    refine wpAny_pure ⟨_, rfl, ?_⟩
    show Q (.ref g5.objs.size) _
    rw [hsz]
    exact hQ g8 _ _ _ _ (.inl ⟨rfl, rfl⟩) hz8 (up _ _ D.TOz hT5) (h15.at fun o e => up _ o D.i1z e) (h25.at fun o e => up _ o D.i2z e) hT8 hsz8 fun c o c1 c2 c3 c4 e => up c o c1 (hk5 c o c1 c2 c3 c4 e)
  · simp only [Bool.false_eq_true, if_false]
    refine wpAny_bind ?_
    rw [← Array.forIn_toList]
    simp only [List.forIn_cons, List.forIn_nil]
    refine wpAny_bind (wpAny_bind (wpAny_holding ?_))
    show wpAny _ _ (Builtin.SmallTypes.nextOf (.ref i1) >>= _) _ _ _
    refine wpAny_bind (RZ.nextOf_tuple_item (s := { s with heap := g1 }) (h1.extBut hs1.extBut D.i1z) (hl1.extBut hs1.extBut D.l1z) hx fun g2 h12 hs2 => wpAny_pure ?_)
    refine wpAny_pure ?_
    refine wpAny_bind (wpAny_bind (wpAny_holding ?_))
    show wpAny _ _ (Builtin.SmallTypes.nextOf (.ref i2) >>= _) _ _ _
    refine wpAny_bind (wpAny_nextOf_list_item (s := { s with heap := g2 }) ((h2.extBut hs1.extBut D.i2z).extBut hs2.extBut D.i12.symm) ((hl2.extBut hs1.extBut D.l2z).extBut hs2.extBut D.l2i1) hy fun g3 h23 hs3 => wpAny_pure ?_)
    refine wpAny_pure (wpAny_pure ?_)
    show wpAny _ _ (newTuple [x, y] >>= _) _ _ _
    refine wpAny_bind (wpAny_newTuple ?_)
    have hsz : g3.objs.size = s.heap.objs.size := by rw [hs3.1, hs2.1, hs1.1]
    have hz3 : ZRec g3 z TI TO f0 true := hs3.extBut _ _ D.i2z.symm (hs2.extBut _ _ D.i1z.symm hz1)
    have hk : ∀ c o, c ≠ z → c ≠ i1 → c ≠ i2 → s.heap.get? c = some o → g3.get? c = some o := fun c o c1 c2 c3 e => hs3.extBut _ _ c3 (hs2.extBut _ _ c2 (hs1.extBut _ _ c1 e))
    have h13 : g3.IsTupleIter i1 l1 (k1 + 1) := h12.extBut hs3.extBut D.i12
    have hTO3 : IsPair g3 TO a b := hk _ _ D.TOz D.TOi1 D.TOi2 hTO
    refine wpAny_pure ⟨_, rfl, ?_⟩
    show Q (.ref g3.objs.size) _
    have hp : IsPair (g3.push { cls := .type "tuple", data := .seq #[x, y] }) g3.objs.size x y := Heap.get?_push_size _ rfl
    have hz4 : (g3.push { cls := .type "tuple", data := .seq #[x, y] }).objs.size = g3.objs.size + 1 := Heap.size_push ..
    rw [hsz] at hp hz4 ⊢
    exact hQ _ _ _ _ _ (.inr ⟨rfl, hne0⟩) (Heap.get?_push_of_some _ hz3) (Heap.get?_push_of_some _ hTO3) (h13.at fun o e => Heap.get?_push_of_some _ e) (h23.at fun o e => Heap.get?_push_of_some _ e) hp hz4 fun c o c1 _ c3 c4 e => Heap.get?_push_of_some _ (hk c o c1 c3 c4 e)
/-- its end: the tuple ends first -/
theorem zipM_end {z TI TO i1 i2 l1 l2 : Addr} {f0 : Value} {f : Bool} {k1 : Nat} {xs : Array Value} {Q : Fin → Shared → Prop} (hh : A.handled = none) (D : ZipApart z TI TO i1 i2 l1 l2) (h0 : Out0 f0)
    (hz : ZRec s.heap z TI TO f0 f) (hTI : IsPair s.heap TI (.ref i1) (.ref i2))
    (h1 : s.heap.IsTupleIter i1 l1 k1) (hl1 : s.heap.IsTuple l1 xs) (hx : xs[k1]? = none)
    (hE : ∀ h' e, (∀ c o, c ≠ z → c ≠ i1 → s.heap.get? c = some o → h'.get? c = some o) → (∃ o, h'.get? e = some o ∧ o.cls = .type "StopIteration") → E (.ref e) { s with heap := h' }) :
    wpAny (model prog w) A (Builtin.«zip.__next__» ⟨[.ref z], []⟩) Q E s := by
  show wpAny _ _ (field (.ref z) 2 >>= _) _ _ _
  refine wpAny_bind (wpAny_field hz rfl (x := .bool false) rfl ?_)
  show wpAny _ _ (field (.ref z) 3 >>= _) _ _ _
  refine wpAny_bind (wpAny_field hz rfl (x := .ref TI) rfl ?_)
  refine wpAny_bind (wpAny_seqItems hTI rfl ?_)
  show wpAny _ _ (Builtin.SmallTypes.ownedTupleIsFree (.ref z) >>= _) _ _ _
  refine wpAny_bind (zfree h0 hz ?_ fun hne0 g1 hz1 hs1 => ?_)
  · simp only [if_true]
    refine wpAny_bind (wpAny_rule ?_)
    refine wpAny_bind (wpAny_field hz rfl (x := .ref TO) rfl ?_)
    refine wpAny_bind (wpAny_setField_rec hz (by simp) fun g1 hz1 hs1 => ?_)
    replace hz1 : ZRec g1 z TI TO .ellipsis f := hz1
    refine wpAny_bind ?_
    simp only [List.zipIdx_cons, List.zipIdx_nil, List.forIn_cons, List.forIn_nil]
    refine wpAny_bind (wpAny_bind (wpAny_onRaise ?_))
    show wpAny _ _ (Builtin.SmallTypes.nextOf (.ref i1) >>= _) _ _ _
    refine wpAny_bind (RZ.nextOf_tuple_end hh (h1.extBut hs1.extBut D.i1z) (hl1.extBut hs1.extBut D.l1z) hx fun g2 e hs2 he => ?_)
    obtain ⟨oe, hoe, hce⟩ := he
    have hz2 : ZRec g2 z TI TO .ellipsis f := hs2 _ _ D.i1z.symm hz1
    have hez : e ≠ z := fun x => by subst x; rw [hz2] at hoe; cases hoe; simp at hce
    exact wpAny_setField_rec hz2 (by simp) fun g3 _ hs3 => hE g3 e (fun c o c1 c3 x => hs3.extBut _ _ c1 (hs2 _ _ c3 (hs1.extBut _ _ c1 x))) ⟨oe, hs3.extBut _ _ hez hoe, hce⟩
  · simp only [Bool.false_eq_true, if_false]
    refine wpAny_bind ?_
    rw [← Array.forIn_toList]
    simp only [List.forIn_cons, List.forIn_nil]
    refine wpAny_bind (wpAny_bind (wpAny_holding ?_))
    show wpAny _ _ (Builtin.SmallTypes.nextOf (.ref i1) >>= _) _ _ _
    refine wpAny_bind (RZ.nextOf_tuple_end (s := { s with heap := g1 }) hh (h1.extBut hs1.extBut D.i1z) (hl1.extBut hs1.extBut D.l1z) hx fun g2 e hs2 he => ?_)
    exact hE g2 e (fun c o c1 c2 x => hs2 _ _ c2 (hs1.extBut _ _ c1 x)) he
end
end R7

namespace R7
open PySem
open PySem.Sem (wp)
section
variable {prog : Program} {w : World} {A : Around} {E : Value → Shared → Prop} {s : Shared}
theorem nextOf_zip {z TI TO i1 i2 l1 l2 : Addr} {f0 : Value} {f : Bool} {k1 k2 : Nat} {xs ys : Array Value} {x y a b : Value} {Q : Value → Shared → Prop} (D : ZipApart z TI TO i1 i2 l1 l2) (h0 : Out0 f0)
    (hz : ZRec s.heap z TI TO f0 f) (hTI : IsPair s.heap TI (.ref i1) (.ref i2)) (hTO : IsPair s.heap TO a b)
    (h1 : s.heap.IsTupleIter i1 l1 k1) (h2 : s.heap.IsListIter i2 l2 k2) (hl1 : s.heap.IsTuple l1 xs) (hl2 : s.heap.IsList l2 ys) (hx : xs[k1]? = some x) (hy : ys[k2]? = some y)
    (hQ : ∀ h' f0' f' a' b', ((f0' = rawInt s.heap.objs.size ∧ f' = false) ∨ (f0' = f0 ∧ f0 ≠ .none)) → ZRec h' z TI TO f0' f' → IsPair h' TO a' b' → h'.IsTupleIter i1 l1 (k1 + 1) → h'.IsListIter i2 l2 (k2 + 1) → IsPair h' s.heap.objs.size x y → h'.objs.size = s.heap.objs.size + 1 →
      (∀ c o, c ≠ z → c ≠ TO → c ≠ i1 → c ≠ i2 → s.heap.get? c = some o → h'.get? c = some o) → Q (.ref s.heap.objs.size) { s with heap := h' }) :
    wpAny (model prog w) A (Builtin.SmallTypes.nextOf (.ref z)) Q E s := by
  have hT : s.TypeIs (.ref z) "zip" := ⟨_, hz, rfl⟩
  unfold Builtin.SmallTypes.nextOf
  exact wpAny_bind (wpAny_callSpecial?_slot (name := Str.ofString "__next__") hT F.slot_zip_next
    (wpAny_call_entry F.slot_zip_next hT F.entry_zip_next
      (zipM_next D h0 hz hTI hTO h1 h2 hl1 hl2 hx hy fun h' f0' f' a' b' c1 c2 c3 c4 c5 c6 c7 c8 => wpAny_pure (hQ h' f0' f' a' b' c1 c2 c3 c4 c5 c6 c7 c8)) (F.args_zip_next_1 _)))
theorem pyNext_zipM {z TI TO i1 i2 l1 l2 : Addr} {f0 : Value} {f : Bool} {k1 k2 : Nat} {xs ys : Array Value} {x y a b : Value} {Q : Option Value → Shared → Prop} (D : ZipApart z TI TO i1 i2 l1 l2) (h0 : Out0 f0)
    (hz : ZRec s.heap z TI TO f0 f) (hTI : IsPair s.heap TI (.ref i1) (.ref i2)) (hTO : IsPair s.heap TO a b)
    (h1 : s.heap.IsTupleIter i1 l1 k1) (h2 : s.heap.IsListIter i2 l2 k2) (hl1 : s.heap.IsTuple l1 xs) (hl2 : s.heap.IsList l2 ys) (hx : xs[k1]? = some x) (hy : ys[k2]? = some y)
    (hQ : ∀ h' f0' f' a' b', ((f0' = rawInt s.heap.objs.size ∧ f' = false) ∨ (f0' = f0 ∧ f0 ≠ .none)) → ZRec h' z TI TO f0' f' → IsPair h' TO a' b' → h'.IsTupleIter i1 l1 (k1 + 1) → h'.IsListIter i2 l2 (k2 + 1) → IsPair h' s.heap.objs.size x y → h'.objs.size = s.heap.objs.size + 1 →
      (∀ c o, c ≠ z → c ≠ TO → c ≠ i1 → c ≠ i2 → s.heap.get? c = some o → h'.get? c = some o) → Q (some (.ref s.heap.objs.size)) { s with heap := h' }) :
    wpAny (model prog w) A (pyNext (.ref z)) Q E s := by
  have hT : s.TypeIs (.ref z) "zip" := ⟨_, hz, rfl⟩
  unfold pyNext
  exact wpAny_bind (wpAny_attempt (wpAny_callSpecial?_slot (name := Str.ofString "__next__") hT F.slot_zip_next
    (wpAny_call_entry F.slot_zip_next hT F.entry_zip_next
      (zipM_next D h0 hz hTI hTO h1 h2 hl1 hl2 hx hy fun h' f0' f' a' b' c1 c2 c3 c4 c5 c6 c7 c8 => wpAny_pure (hQ h' f0' f' a' b' c1 c2 c3 c4 c5 c6 c7 c8)) (F.args_zip_next_1 _))))
theorem nextOf_zip_end {z TI TO i1 i2 l1 l2 : Addr} {f0 : Value} {f : Bool} {k1 : Nat} {xs : Array Value} {Q : Value → Shared → Prop} (hh : A.handled = none) (D : ZipApart z TI TO i1 i2 l1 l2) (h0 : Out0 f0)
    (hz : ZRec s.heap z TI TO f0 f) (hTI : IsPair s.heap TI (.ref i1) (.ref i2))
    (h1 : s.heap.IsTupleIter i1 l1 k1) (hl1 : s.heap.IsTuple l1 xs) (hx : xs[k1]? = none)
    (hE : ∀ h' e, (∀ c o, c ≠ z → c ≠ i1 → s.heap.get? c = some o → h'.get? c = some o) → (∃ o, h'.get? e = some o ∧ o.cls = .type "StopIteration") → E (.ref e) { s with heap := h' }) :
    wpAny (model prog w) A (Builtin.SmallTypes.nextOf (.ref z)) Q E s := by
  have hT : s.TypeIs (.ref z) "zip" := ⟨_, hz, rfl⟩
  unfold Builtin.SmallTypes.nextOf
  exact wpAny_bind (wpAny_callSpecial?_slot (name := Str.ofString "__next__") hT F.slot_zip_next
    (wpAny_call_entry F.slot_zip_next hT F.entry_zip_next (zipM_end hh D h0 hz hTI h1 hl1 hx fun h' e a b => hE h' e a b) (F.args_zip_next_1 _)))
theorem pyNext_zipM_end {z TI TO i1 i2 l1 l2 : Addr} {f0 : Value} {f : Bool} {k1 : Nat} {xs : Array Value} {Q : Option Value → Shared → Prop} (hh : A.handled = none) (D : ZipApart z TI TO i1 i2 l1 l2) (h0 : Out0 f0)
    (hz : ZRec s.heap z TI TO f0 f) (hTI : IsPair s.heap TI (.ref i1) (.ref i2))
    (h1 : s.heap.IsTupleIter i1 l1 k1) (hl1 : s.heap.IsTuple l1 xs) (hx : xs[k1]? = none)
    (hQ : ∀ h', (∀ c o, c ≠ z → c ≠ i1 → s.heap.get? c = some o → h'.get? c = some o) → Q none { s with heap := h' }) :
    wpAny (model prog w) A (pyNext (.ref z)) Q E s := by
  have hT : s.TypeIs (.ref z) "zip" := ⟨_, hz, rfl⟩
  unfold pyNext
  refine wpAny_bind (wpAny_attempt (wpAny_callSpecial?_slot (name := Str.ofString "__next__") hT F.slot_zip_next
    (wpAny_call_entry F.slot_zip_next hT F.entry_zip_next (zipM_end hh D h0 hz hTI h1 hl1 hx fun h' e hk he => ?_) (F.args_zip_next_1 _))))
  obtain ⟨o, ho, hc⟩ := he
  refine wpAny_bind (wpAny_isInstance (T := "StopIteration") (b := true) ⟨o, ho, hc⟩ isSubtype_stop ?_)
  exact wpAny_pure (hQ _ hk)
/-- one turn of an enumerate over such a zip -/
theorem enumZ_next {e z TI TO i1 i2 l1 l2 : Addr} {f0 old : Value} {f : Bool} {i k1 k2 : Nat} {xs ys : Array Value} {x y a b : Value} {Q : Option Value → Shared → Prop} (D : ZipApart z TI TO i1 i2 l1 l2) (h0 : Out0 f0)
    (he : IsEnum s.heap e z i old) (nz : e ≠ z) (nTI : e ≠ TI) (nTO : e ≠ TO) (n1 : e ≠ i1) (n2 : e ≠ i2)
    (hz : ZRec s.heap z TI TO f0 f) (hTI : IsPair s.heap TI (.ref i1) (.ref i2)) (hTO : IsPair s.heap TO a b)
    (h1 : s.heap.IsTupleIter i1 l1 k1) (h2 : s.heap.IsListIter i2 l2 k2) (hl1 : s.heap.IsTuple l1 xs) (hl2 : s.heap.IsList l2 ys) (hx : xs[k1]? = some x) (hy : ys[k2]? = some y)
    (hQ : ∀ h' f0' f' a' b' (T : Addr), Out0 f0' → T = s.heap.objs.size + 1 → IsEnumOut h' e z ((i : Int) + 1) (.ref s.heap.objs.size) T → ZRec h' z TI TO f0' f' → IsPair h' TO a' b' → h'.IsTupleIter i1 l1 (k1 + 1) → h'.IsListIter i2 l2 (k2 + 1) → IsPair h' s.heap.objs.size x y →
      IsPair h' T (.int i s.toks) (.ref s.heap.objs.size) →
      (∀ c o, c ≠ e → c ≠ z → c ≠ TO → c ≠ i1 → c ≠ i2 → s.heap.get? c = some o → h'.get? c = some o) → Q (some (.ref T)) { s with heap := h', toks := s.toks + 1 }) :
    wpAny (model prog w) A (pyNext (.ref e)) Q E s := by
  have hTy : s.TypeIs (.ref e) "enumerate" := ⟨_, he, rfl⟩
  unfold pyNext
  refine wpAny_bind (wpAny_attempt (wpAny_callSpecial?_slot (name := Str.ofString "__next__") hTy F.slot_enumerate_next
    (wpAny_call_entry F.slot_enumerate_next hTy F.entry_enumerate_next ?_ (F.args_enumerate_next_1 _))))
  obtain ⟨hp, g, d, tk, os⟩ := s
  show wpAny _ _ (field (.ref e) 2 >>= _) _ _ _
  refine wpAny_bind (wpAny_field he rfl (x := .ref z) rfl ?_)
  refine wpAny_bind (nextOf_zip D h0 hz hTI hTO h1 h2 hl1 hl2 hx hy fun g1 f0' f' a' b' c1 hz1 hTO1 h11 h21 hp1 hs1 hk1 => ?_)
  have ok' : Out0 f0' := by
    rcases c1 with ⟨q, _⟩ | ⟨q, _⟩
    · rw [q]; exact .inr ⟨_, rfl⟩
    · rw [q]; exact h0
  have he1 : IsEnum g1 e z i old := hk1 _ _ nz nTO n1 n2 he
  have hTI1 : IsPair g1 TI (.ref i1) (.ref i2) := hk1 _ _ D.TIz D.TITO D.TIi1 D.TIi2 hTI
  show wpAny _ _ (field (.ref e) 3 >>= _) _ _ _
  refine wpAny_bind (wpAny_field he1 rfl (x := rawInt i) rfl ?_)
  show wpAny _ _ (field (.ref e) 4 >>= _) _ _ _
  refine wpAny_bind (wpAny_field he1 rfl (x := .none) rfl ?_)
  show wpAny _ _ (mkInt i >>= _) _ _ _
  refine wpAny_bind (wpAny_mkInt ?_)
  show wpAny _ _ (setField (.ref e) 3 (rawInt ((i : Int) + 1)) >>= _) _ _ ⟨g1, g, d, tk + 1, os⟩
  refine wpAny_bind (wpAny_setField_rec he1 (by simp) fun g2 he2 hs2 => ?_)
  replace hs2 : Heap.SameBut e g1 g2 := hs2
  replace he2 : IsEnum g2 e z ((i : Int) + 1) old := he2
  show wpAny _ _ (setField (.ref e) 4 .none >>= _) _ _ ⟨g2, g, d, tk + 1, os⟩
  refine wpAny_bind (wpAny_setField_rec he2 (by simp) fun g3 he3 hs3 => ?_)
  replace hs3 : Heap.SameBut e g2 g3 := hs3
  replace he3 : IsEnum g3 e z ((i : Int) + 1) old := he3
  show wpAny _ _ (newTuple [.int i tk, .ref hp.objs.size] >>= _) _ _ ⟨g3, g, d, tk + 1, os⟩
  refine wpAny_bind (wpAny_newTuple ?_)
  have sz3 : g3.objs.size = hp.objs.size + 1 := by rw [hs3.1, hs2.1, hs1]
  have he4 : IsEnum (g3.push { cls := .type "tuple", data := .seq #[.int i tk, .ref hp.objs.size] }) e z ((i : Int) + 1) old := Heap.get?_push_of_some _ he3
  have ht4 : IsPair (g3.push { cls := .type "tuple", data := .seq #[.int i tk, .ref hp.objs.size] }) g3.objs.size (.int i tk) (.ref hp.objs.size) := Heap.get?_push_size _ rfl
  have up4 : ∀ c o, c ≠ e → g1.get? c = some o → (g3.push { cls := .type "tuple", data := .seq #[.int i tk, .ref hp.objs.size] }).get? c = some o := fun c o hc q => Heap.get?_push_of_some _ (hs3.extBut c o hc (hs2.extBut c o hc q))
  have hel : e < g3.objs.size := Heap.lt_size he3
  show wpAny _ _ (Builtin.SmallTypes.ownedTupleIsFree (.ref e) >>= _) _ _ _
  refine wpAny_bind ?_
  · unfold Builtin.SmallTypes.ownedTupleIsFree
    refine wpAny_bind (wpAny_field he4 rfl (x := .none) rfl (wpAny_pure ?_))
    simp only [if_true]
    refine wpAny_bind (wpAny_rule ?_)
    refine wpAny_bind (wpAny_field he4 rfl (x := old) rfl ?_)
    refine wpAny_bind (wpAny_setField_rec he4 (by simp) fun g5 he5 hs5 => ?_)
    replace he5 : IsEnum g5 e z ((i : Int) + 1) (.ref hp.objs.size) := he5
    show wpAny _ _ (Builtin.SmallTypes.ownedTupleHandOut (.ref e) (.ref g3.objs.size) >>= _) _ _ _
    refine wpAny_bind ?_
    · unfold Builtin.SmallTypes.ownedTupleHandOut
      refine wpAny_bind (wpAny_setField_rec he5 (by simp) fun g6 he6 hs6 => ?_)
      replace he6 : IsEnumOut g6 e z ((i : Int) + 1) (.ref hp.objs.size) g3.objs.size := he6
      refine wpAny_setField_rec he6 (by simp) fun g7 he7 hs7 => ?_
      replace he7 : IsEnumOut g7 e z ((i : Int) + 1) (.ref hp.objs.size) g3.objs.size := he7
      have up7 : ∀ c o, c ≠ e → (g3.push { cls := .type "tuple", data := .seq #[.int i tk, .ref hp.objs.size] }).get? c = some o → g7.get? c = some o := fun c o hc q => hs7.extBut c o hc (hs6.extBut c o hc (hs5.extBut c o hc q))
      have up17 : ∀ c o, c ≠ e → g1.get? c = some o → g7.get? c = some o := fun c o hc q => up7 c o hc (up4 c o hc q)
      have nT : e ≠ hp.objs.size := Nat.ne_of_lt (Heap.lt_size he)
      refine wpAny_bind (wpAny_letGo (wpAny_pure ⟨_, rfl, wpAny_pure (hQ g7 f0' f' a' b' g3.objs.size ok' sz3 he7 (up17 _ _ nz.symm hz1) (up17 _ _ nTO.symm hTO1) (h11.at fun o q => up17 _ o n1.symm q) (h21.at fun o q => up17 _ o n2.symm q) (up17 _ _ nT.symm hp1)
        (up7 _ _ (Nat.ne_of_gt hel) ht4) fun c o c1 c2 c3 c4 c5 q => up17 c o c1 (hk1 c o c2 c3 c4 c5 q))⟩))
theorem enumZ_end {e z TI TO i1 i2 l1 l2 : Addr} {f0 old : Value} {f : Bool} {i k1 : Nat} {xs : Array Value} {Q : Option Value → Shared → Prop} (hh : A.handled = none) (D : ZipApart z TI TO i1 i2 l1 l2) (h0 : Out0 f0)
    (he : IsEnum s.heap e z i old) (hz : ZRec s.heap z TI TO f0 f) (hTI : IsPair s.heap TI (.ref i1) (.ref i2))
    (h1 : s.heap.IsTupleIter i1 l1 k1) (hl1 : s.heap.IsTuple l1 xs) (hx : xs[k1]? = none)
    (hQ : ∀ h', (∀ c o, c ≠ z → c ≠ i1 → s.heap.get? c = some o → h'.get? c = some o) → Q none { s with heap := h' }) :
    wpAny (model prog w) A (pyNext (.ref e)) Q E s := by
  have hTy : s.TypeIs (.ref e) "enumerate" := ⟨_, he, rfl⟩
  unfold pyNext
  refine wpAny_bind (wpAny_attempt (wpAny_callSpecial?_slot (name := Str.ofString "__next__") hTy F.slot_enumerate_next
    (wpAny_call_entry F.slot_enumerate_next hTy F.entry_enumerate_next ?_ (F.args_enumerate_next_1 _))))
  show wpAny _ _ (field (.ref e) 2 >>= _) _ _ _
  refine wpAny_bind (wpAny_field he rfl (x := .ref z) rfl ?_)
  refine wpAny_bind (nextOf_zip_end hh D h0 hz hTI h1 hl1 hx fun h' x hk hx' => ?_)
  obtain ⟨o, ho, hc⟩ := hx'
  refine wpAny_bind (wpAny_isInstance (T := "StopIteration") (b := true) ⟨o, ho, hc⟩ isSubtype_stop ?_)
  exact wpAny_pure (hQ _ hk)
end
theorem meets_enumZ (z TI TO : Addr) :
    Meets (Builtin.«enumerate.__new__» ⟨[.type "enumerate", .ref z], []⟩) (fun _ R s => IsZip s.heap z TI TO .none ∧
      R (.ok (.ret (.ref s.heap.objs.size))) { s with heap := s.heap.push { cls := .type "enumerate", data := .fields #[.none, .bool false, .ref z, rawInt 0, .none, .none] } }) :=
  .of_wp fun prog w A R s h => by
    obtain ⟨hp, g, d, tk, os⟩ := s; obtain ⟨hz, h⟩ := h
    have hsub := sub_enumerate
    have hz' : IsZip (Shared.heap ⟨hp, g, d, tk, os⟩) z TI TO .none := hz
    wp_walk using AutoSeq1.wpAny_loadPart' hz
    refine wpAny_stack_any fun st => wpAny_pure ?_
    split
    · rename_i c _ _ _ _ _
      cases (c == Value.type "enumerate")
      · wp_walk using AutoSeq1.wpAny_loadPart' hz, wpAny_pyIter_zip hz'
        exact ⟨_, rfl, h⟩
      · wp_walk using AutoSeq1.wpAny_loadPart' hz, wpAny_pyIter_zip hz'
        exact ⟨_, rfl, h⟩
    · wp_walk using AutoSeq1.wpAny_loadPart' hz, wpAny_pyIter_zip hz'
      exact ⟨_, rfl, h⟩
theorem call_enumZ {prog : Program} {w : World} {A : Around} {E : Value → Shared → Prop} {s : Shared} {z TI TO : Addr} {Q : Value → Shared → Prop} (hz : IsZip s.heap z TI TO .none)
    (h : ∀ h', IsEnum h' s.heap.objs.size z 0 .none → (∀ b o, s.heap.get? b = some o → h'.get? b = some o) → Q (.ref s.heap.objs.size) { s with heap := h' }) :
    wpAny (model prog w) A (call (.type "enumerate") [.ref z]) Q E s := by
  refine callType_new F.called_enumerate (by decide) (F.typeCall_enumerate_1 _) (F.newCall_enumerate_1 _) (fun obj => F.args_object_init_2 obj _) F.entry_enumerate_new
    (meets_enumZ z TI TO) ⟨hz, ?_⟩
  have he : IsEnum (s.heap.push { cls := .type "enumerate", data := .fields #[.none, .bool false, .ref z, rawInt 0, .none, .none] }) s.heap.objs.size z 0 .none := Heap.get?_push_size _ rfl
  exact ⟨⟨_, he, rfl⟩, h _ he fun b o x => Heap.get?_push_of_some _ x⟩
end R7

namespace R7
open PySem PySem.Spec PyProof.Rows L2
section
variable {X : Cx} {pins : List (Addr × Obj)} {σ : L2.St} {H : Hp} {s : Shared} {T : Addr} {ob : HO}
/-- an untracked thing is tracked from now on -/
theorem track (I : Inv X pins σ H s) (hT : FpOk X pins H T) (new : ObjOk X.prog X.w (upd H T ob) s.heap T ob) : Inv X pins σ (upd H T ob) s := by
  obtain ⟨hn, hL, hF, hX, hC, hP⟩ := hT
  have ne : ∀ {b : Addr} {o : HO}, H b = some o → b ≠ T := fun {b o} e => ne_of_none e hn
  have J := I.step (h' := s.heap) (H' := upd H T ob) (g' := s.gens) (d' := s.drawn) (t' := s.toks) (ch := [T]) (fun b hb => by rw [List.mem_singleton.mp hb]; exact ⟨hX, hL, hC, hP⟩) (fun b o _ _ _ e _ => e) (fun b o _ _ _ e _ => ⟨o.slots, e⟩)
    (fun b o hb e n => by rw [upd_ne (fun z => hb (List.mem_singleton.mpr z))]; exact n) (fun b o _ e => ⟨o, e⟩) (fun b xs e => by rw [upd_ne (ne e)]; exact e) (fun b o u e => by rw [upd_ne (ne e)]; exact e)
    (fun b ps e => ⟨#[], by rw [upd_ne (ne e), e]; simp⟩) (fun m hm => hm) (fun b u e => ?_) I.bare
  · exact J
  · by_cases hb : b = T
    · rw [hb] at e ⊢
      rw [upd_same] at e
      cases e
      exact new
    · rw [upd_ne hb] at e
      exact (I.hok b u e).stay (fun _ _ _ q => q) (fun c hc => by rw [upd_ne (ne hc)]; exact hc) fun c xs hc => by rw [upd_ne (ne hc)]; exact hc
end
/-- the tuple at a and the list at b, item by item, in new pairs -/
def ItM (K : PySem.W.Frag) (a b : Addr) : It :=
  ⟨fun i H => ∃ (xs ys : List V) (x y : V), SqT K H a xs ∧ SqL K H b ys ∧ xs[i]? = some x ∧ ys[i]? = some y,
    fun i H v H' => ∃ T x y, v = .ref T ∧ H T = none ∧ H' = upd H T (.tup [x, y]) ∧ (∀ xs, SqT K H a xs → xs[i]? = some x) ∧ ∀ ys, SqL K H b ys → ys[i]? = some y,
    fun i H => ∃ xs : List V, SqT K H a xs ∧ xs.length ≤ i⟩
/-- .. counted -/
def ItE (K : PySem.W.Frag) (a b : Addr) : It :=
  ⟨fun i H => ∃ (xs ys : List V) (x y : V), SqT K H a xs ∧ SqL K H b ys ∧ xs[i]? = some x ∧ ys[i]? = some y,
    fun i H v H' => ∃ T U x y, v = .ref U ∧ H T = none ∧ H U = none ∧ U ≠ T ∧ H' = upd (upd H T (.tup [x, y])) U (.tup [.int (i : Nat), .ref T]) ∧ (∀ xs, SqT K H a xs → xs[i]? = some x) ∧ ∀ ys, SqL K H b ys → ys[i]? = some y,
    fun i H => ∃ xs : List V, SqT K H a xs ∧ xs.length ≤ i⟩
theorem turnM {P : Program} {w : World} {K : PySem.W.Frag} {elts : List Expr} {kk : Nat} {tpos : Pos} {a b z TI TO i1 i2 : Addr} (D : ZipApart z TI TO i1 i2 a b) :
    Turn P w K (.Tuple elts kk tpos) (ItM K a b) [z, TI, TO, i1, i2] z (fun i h => IsZip h z TI TO .none ∧ IsPair h TI (.ref i1) (.ref i2) ∧ (∃ x y, IsPair h TO x y) ∧ h.IsTupleIter i1 a i ∧ h.IsListIter i2 b i) where
  mem := by simp
  obj := fun i h st c hc => by
    obtain ⟨hz, hTI, ⟨x, y, hTO⟩, ⟨o1, e1, _, d1⟩, ⟨o2, e2, _, d2⟩⟩ := st
    have cs : c = z ∨ c = TI ∨ c = TO ∨ c = i1 ∨ c = i2 := by simpa using hc
    rcases cs with rfl | rfl | rfl | rfl | rfl
    · exact ⟨_, hz, fun v q => nomatch q⟩
    · exact ⟨_, hTI, fun v q => nomatch q⟩
    · exact ⟨_, hTO, fun v q => nomatch q⟩
    · exact ⟨o1, e1, fun v q => by rw [d1] at q; cases q⟩
    · exact ⟨o2, e2, fun v q => by rw [d2] at q; cases q⟩
  keep := fun i h h' st k => by
    obtain ⟨hz, hTI, ⟨x, y, hTO⟩, h1, h2⟩ := st
    exact ⟨k z (by simp) _ hz, k TI (by simp) _ hTI, ⟨x, y, k TO (by simp) _ hTO⟩, h1.at fun o q => k i1 (by simp) o q, h2.at fun o q => k i2 (by simp) o q⟩
  item := by
    intro X hP hw hK hc i pins s σ H E I hf st hg
    subst hP hw hK
    obtain ⟨hz, hTI, ⟨x0, y0, hTO⟩, h1, h2⟩ := st
    obtain ⟨xs, ys, x, y, hqx, hqy, hx, hy⟩ := hg
    obtain ⟨its, rv, p, _⟩ := I.tuple hqx
    obtain ⟨its2, rv2, p2, _⟩ := I.list hqy
    obtain ⟨u, hu, ru⟩ := rv.get hx
    obtain ⟨u2, hu2, ru2⟩ := rv2.get hy
    have lt : ∀ c ∈ [z, TI, TO, i1, i2], c < s.heap.objs.size := fun c hcm => by
      have cs : c = z ∨ c = TI ∨ c = TO ∨ c = i1 ∨ c = i2 := by simpa using hcm
      rcases cs with rfl | rfl | rfl | rfl | rfl
      · exact Heap.lt_size hz
      · exact Heap.lt_size hTI
      · exact Heap.lt_size hTO
      · obtain ⟨_, e1, _⟩ := h1; exact Heap.lt_size e1
      · obtain ⟨_, e2, _⟩ := h2; exact Heap.lt_size e2
    have hzl := lt z (by simp)
    refine pyNext_zipM D (.inl rfl) hz hTI hTO h1 h2 p p2.isList (x := u) (y := u2) (by simpa using hu) (by simpa using hu2) fun g f0' f' a' b' c1 z1 t1 j1 j2 hT hsz hk => ?_
    rcases c1 with ⟨rfl, rfl⟩ | ⟨_, q⟩
    · refine ⟨_, rfl, wpAny_letOwnedTupleGo_zip (s := { s with heap := g }) z1 fun h2' z2 sb => ?_⟩
      have hT2 : h2'.get? s.heap.objs.size = some { cls := .type "tuple", data := .seq #[u, u2] } := (sb.2 _ (Nat.ne_of_gt hzl)).trans hT
      have new : ObjOk X.prog X.w (upd H s.heap.objs.size (.tup [x, y])) h2' s.heap.objs.size (.tup [x, y]) :=
        ⟨by show 2 ≤ sizeLine; decide, [u, u2], .cons ru (.cons ru2 .nil), ⟨_, hT2, rfl, _, rfl⟩⟩
      have I1 : Inv X pins σ (upd H s.heap.objs.size (.tup [x, y])) { s with heap := h2' } :=
        I.turnedNew (t' := s.toks) (ch := [z, TI, TO, i1, i2]) (fun c o hb q => (sb.2 c (fun q' => hb (by simp [q']))).trans (hk c o (fun q' => hb (by simp [q'])) (fun q' => hb (by simp [q'])) (fun q' => hb (by simp [q'])) (fun q' => hb (by simp [q'])) q)) hf (Nat.le_refl _) new
      refine ⟨.ref s.heap.objs.size, _, I1, rfl, ⟨_, x, y, rfl, I.hok.fresh (Nat.le_refl _), rfl, fun l hl => by rw [I.tuple_inj hl hqx]; exact hx, fun l hl => by rw [I.list_inj hl hqy]; exact hy⟩, ⟨z2, ?_, ⟨a', b', ?_⟩, ?_, ?_⟩, fun c hcm => ?_⟩
      · exact (sb.2 _ D.TIz).trans (hk _ _ D.TIz D.TITO D.TIi1 D.TIi2 hTI)
      · exact (sb.2 _ D.TOz).trans t1
      · exact j1.at fun o q => (sb.2 _ D.i1z).trans q
      · exact j2.at fun o q => (sb.2 _ D.i2z).trans q
      · rw [upd_ne (Nat.ne_of_lt (lt c hcm))]
        exact (hf c hcm).1
    · exact absurd rfl q
  done := by
    intro X hP hw hK hc i pins s σ H E I hf st hg
    subst hP hw hK
    obtain ⟨hz, hTI, ⟨x0, y0, hTO⟩, h1, h2⟩ := st
    obtain ⟨xs, hqx, hend⟩ := hg
    obtain ⟨its, rv, p, _⟩ := I.tuple hqx
    have l1 := rv.length
    exact pyNext_zipM_end (I.ok.hd hc) D (.inl rfl) hz hTI h1 p (by simp; omega) fun h' hk => ⟨rfl, I.turnedL (t' := s.toks) (ch := [z, TI, TO, i1, i2]) (fun c o hb q =>
      hk c o (fun q' => hb (by simp [q'])) (fun q' => hb (by simp [q'])) q) hf⟩
  self := fun A i s Q E st h => wpAny_pyIter_zip st.1 h
theorem turnE {P : Program} {w : World} {K : PySem.W.Frag} {elts : List Expr} {kk : Nat} {tpos : Pos} {a b e z TI TO i1 i2 : Addr} (D : ZipApart z TI TO i1 i2 a b) (nz : e ≠ z) (nTI : e ≠ TI) (nTO : e ≠ TO) (n1 : e ≠ i1) (n2 : e ≠ i2) :
    Turn P w K (.Tuple elts kk tpos) (ItE K a b) [e, z, TI, TO, i1, i2] e (fun i h => (∃ old, IsEnum h e z ((i : Nat) : Int) old) ∧ (∃ f0 f, Out0 f0 ∧ ZRec h z TI TO f0 f) ∧ IsPair h TI (.ref i1) (.ref i2) ∧ (∃ x y, IsPair h TO x y) ∧ h.IsTupleIter i1 a i ∧ h.IsListIter i2 b i) where
  mem := by simp
  obj := fun i h st c hc => by
    obtain ⟨⟨old, he⟩, ⟨f0, f, h0, hz⟩, hTI, ⟨x, y, hTO⟩, ⟨o1, e1, _, d1⟩, ⟨o2, e2, _, d2⟩⟩ := st
    have cs : c = e ∨ c = z ∨ c = TI ∨ c = TO ∨ c = i1 ∨ c = i2 := by simpa using hc
    rcases cs with rfl | rfl | rfl | rfl | rfl | rfl
    · exact ⟨_, he, fun v q => nomatch q⟩
    · exact ⟨_, hz, fun v q => nomatch q⟩
    · exact ⟨_, hTI, fun v q => nomatch q⟩
    · exact ⟨_, hTO, fun v q => nomatch q⟩
    · exact ⟨o1, e1, fun v q => by rw [d1] at q; cases q⟩
    · exact ⟨o2, e2, fun v q => by rw [d2] at q; cases q⟩
  keep := fun i h h' st k => by
    obtain ⟨⟨old, he⟩, ⟨f0, f, h0, hz⟩, hTI, ⟨x, y, hTO⟩, h1, h2⟩ := st
    exact ⟨⟨old, k e (by simp) _ he⟩, ⟨f0, f, h0, k z (by simp) _ hz⟩, k TI (by simp) _ hTI, ⟨x, y, k TO (by simp) _ hTO⟩, h1.at fun o q => k i1 (by simp) o q, h2.at fun o q => k i2 (by simp) o q⟩
  item := by
    intro X hP hw hK hc i pins s σ H E I hf st hg
    subst hP hw hK
    obtain ⟨⟨old, he⟩, ⟨f0, f, h0, hz⟩, hTI, ⟨x0, y0, hTO⟩, h1, h2⟩ := st
    obtain ⟨xs, ys, x, y, hqx, hqy, hx, hy⟩ := hg
    obtain ⟨its, rv, p, _⟩ := I.tuple hqx
    obtain ⟨its2, rv2, p2, _⟩ := I.list hqy
    obtain ⟨u, hu, ru⟩ := rv.get hx
    obtain ⟨u2, hu2, ru2⟩ := rv2.get hy
    have lt : ∀ c ∈ [e, z, TI, TO, i1, i2], c < s.heap.objs.size := fun c hcm => by
      have cs : c = e ∨ c = z ∨ c = TI ∨ c = TO ∨ c = i1 ∨ c = i2 := by simpa using hcm
      rcases cs with rfl | rfl | rfl | rfl | rfl | rfl
      · exact Heap.lt_size he
      · exact Heap.lt_size hz
      · exact Heap.lt_size hTI
      · exact Heap.lt_size hTO
      · obtain ⟨_, e1, _⟩ := h1; exact Heap.lt_size e1
      · obtain ⟨_, e2, _⟩ := h2; exact Heap.lt_size e2
    have hel := lt e (by simp)
    refine enumZ_next D h0 he nz nTI nTO n1 n2 hz hTI hTO h1 h2 p p2.isList (x := u) (y := u2) (by simpa using hu) (by simpa using hu2) fun g f0' f' a' b' T ok' eT e1 z1 t1 j1 j2 hT hU hk => ?_
    refine ⟨_, rfl, wpAny_letOwnedTupleGo_enum (s := { s with heap := g, toks := s.toks + 1 }) e1 fun h2' e2 sb => ?_⟩
    have lT : s.heap.objs.size < T := by rw [eT]; exact Nat.lt_succ_self _
    have hT2 : h2'.get? s.heap.objs.size = some { cls := .type "tuple", data := .seq #[u, u2] } := (sb.2 _ (Nat.ne_of_gt hel)).trans hT
    have hU2 : h2'.get? T = some { cls := .type "tuple", data := .seq #[.int i s.toks, .ref s.heap.objs.size] } := (sb.2 _ (Nat.ne_of_gt (Nat.lt_trans hel lT))).trans hU
    have J0 : Inv X pins σ H { s with heap := h2', toks := s.toks + 1 } :=
      I.turnedL (t' := s.toks + 1) (ch := [e, z, TI, TO, i1, i2]) (fun c o hb q => (sb.2 c (fun q' => hb (by simp [q']))).trans (hk c o (fun q' => hb (by simp [q'])) (fun q' => hb (by simp [q'])) (fun q' => hb (by simp [q'])) (fun q' => hb (by simp [q'])) (fun q' => hb (by simp [q'])) q)) hf
    have nT : H s.heap.objs.size = none := I.hok.fresh (Nat.le_refl _)
    have nU : H T = none := I.hok.fresh (Nat.le_of_lt lT)
    have UT : T ≠ s.heap.objs.size := Nat.ne_of_gt lT
    have J1 : Inv X pins σ (upd H s.heap.objs.size (.tup [x, y])) { s with heap := h2', toks := s.toks + 1 } :=
      track J0 (I.fpOk (Nat.le_refl _) nT) ⟨by show 2 ≤ sizeLine; decide, [u, u2], .cons ru (.cons ru2 .nil), ⟨_, hT2, rfl, _, rfl⟩⟩
    have J2 : Inv X pins σ (upd (upd H s.heap.objs.size (.tup [x, y])) T (.tup [.int (i : Nat), .ref s.heap.objs.size])) { s with heap := h2', toks := s.toks + 1 } :=
      track J1 (I.fpOk (Nat.le_of_lt lT) (by rw [upd_ne UT]; exact nU)) ⟨by show 2 ≤ sizeLine; decide, [.int i s.toks, .ref s.heap.objs.size], .cons ⟨_, rfl⟩ (.cons rfl .nil), ⟨_, hU2, rfl, _, rfl⟩⟩
    have e3 : IsEnum h2' e z ((i + 1 : Nat) : Int) (.ref s.heap.objs.size) := by
      rw [show ((i + 1 : Nat) : Int) = (i : Int) + 1 from by omega]
      exact e2
    refine ⟨.ref T, _, J2, rfl, ⟨_, _, x, y, rfl, nT, nU, UT, rfl, fun l hl => by rw [I.tuple_inj hl hqx]; exact hx, fun l hl => by rw [I.list_inj hl hqy]; exact hy⟩, ⟨⟨_, e3⟩, ⟨f0', f', ok', ?_⟩, ?_, ⟨a', b', ?_⟩, ?_, ?_⟩, fun c hcm => ?_⟩
    · exact (sb.2 _ nz.symm).trans z1
    · exact (sb.2 _ nTI.symm).trans (hk _ _ nTI.symm D.TIz D.TITO D.TIi1 D.TIi2 hTI)
    · exact (sb.2 _ nTO.symm).trans t1
    · exact j1.at fun o q => (sb.2 _ n1.symm).trans q
    · exact j2.at fun o q => (sb.2 _ n2.symm).trans q
    · have l := lt c hcm
      rw [upd_ne (Nat.ne_of_lt (Nat.lt_trans l lT)), upd_ne (Nat.ne_of_lt l)]
      exact (hf c hcm).1
  done := by
    intro X hP hw hK hc i pins s σ H E I hf st hg
    subst hP hw hK
    obtain ⟨⟨old, he⟩, ⟨f0, f, h0, hz⟩, hTI, ⟨x0, y0, hTO⟩, h1, h2⟩ := st
    obtain ⟨xs, hqx, hend⟩ := hg
    obtain ⟨its, rv, p, _⟩ := I.tuple hqx
    have l1 := rv.length
    exact enumZ_end (I.ok.hd hc) D h0 he hz hTI h1 p (by simp; omega) fun h' hk => ⟨rfl, I.turnedL (t' := s.toks) (ch := [e, z, TI, TO, i1, i2]) (fun c o hb q =>
      hk c o (fun q' => hb (by simp [q'])) (fun q' => hb (by simp [q'])) q) hf⟩
  self := fun A i s Q E st h => let ⟨⟨_, he⟩, _⟩ := st; wpAny_pyIter_enum he h
theorem ne_add {n i j : Nat} (h : i ≠ j) : n + i ≠ n + j := fun q => h (Nat.add_left_cancel q)
/-- what zip of a tuple and a list leaves -/
theorem zip_made {X : Cx} {pins : List (Addr × Obj)} {σ : L2.St} {H : Hp} {s : Shared} {A : Around} {E : Value → Shared → Prop} {a b : Addr} {xs ys : List V} {Q : Value → Shared → Prop} (I : Inv X pins σ H s) (hx : SqT X.K H a xs) (hy : SqL X.K H b ys)
    (h : ∀ h', Inv X pins σ H { s with heap := h' } → IsZip h' (s.heap.objs.size + 4) (s.heap.objs.size + 2) (s.heap.objs.size + 3) .none → IsPair h' (s.heap.objs.size + 2) (.ref s.heap.objs.size) (.ref (s.heap.objs.size + 1)) → IsPair h' (s.heap.objs.size + 3) .none .none →
      h'.IsTupleIter s.heap.objs.size a 0 → h'.IsListIter (s.heap.objs.size + 1) b 0 → h'.objs.size = s.heap.objs.size + 5 → ZipApart (s.heap.objs.size + 4) (s.heap.objs.size + 2) (s.heap.objs.size + 3) s.heap.objs.size (s.heap.objs.size + 1) a b → Q (.ref (s.heap.objs.size + 4)) { s with heap := h' }) :
    wpAny (model X.prog X.w) A (call (.type "zip") [.ref a, .ref b]) Q E s := by
  obtain ⟨its, rv, p1, _⟩ := I.tuple hx
  obtain ⟨its2, rv2, p2, _⟩ := I.list hy
  obtain ⟨o1, ho1, _⟩ := id p1
  refine zip_begins2 (begins_tuple a its.toArray) (begins_list b its2.toArray) p1 p2.isList fun h' hz hTI hTO h1 h2 hsz hk => ?_
  exact h h' (I.kept (t' := s.toks) hk) hz hTI hTO ⟨_, h1, rfl, rfl⟩ ⟨_, h2, rfl, rfl⟩ hsz (PySem.W.ktu_apart s.heap.objs.size a b (Heap.lt_size ho1) p2.lt)
theorem fresh5 {X : Cx} {pins : List (Addr × Obj)} {σ : L2.St} {H : Hp} {s : Shared} (I : Inv X pins σ H s) : ∀ c, c ∈ [s.heap.objs.size + 5, s.heap.objs.size + 4, s.heap.objs.size + 2, s.heap.objs.size + 3, s.heap.objs.size, s.heap.objs.size + 1] → FpOk X pins H c := fun c hcm => by
  have cs : c = s.heap.objs.size + 5 ∨ c = s.heap.objs.size + 4 ∨ c = s.heap.objs.size + 2 ∨ c = s.heap.objs.size + 3 ∨ c = s.heap.objs.size ∨ c = s.heap.objs.size + 1 := by simpa using hcm
  have hle : s.heap.objs.size ≤ c := by omega
  exact I.fpOk hle (I.hok.fresh hle)
section
variable {X : Cx} {e e2 : Expr} {ta : TA} {p p2 pos pos2 tpos : Pos} {elts : List Expr} {kk : Nat}
def iM (K : PySem.W.Frag) (ta : TA) : TI := fun σ H R => ta σ H fun vs H1 => ∃ a b xs ys, vs = [.ref a, .ref b] ∧ SqT K H1 a xs ∧ SqL K H1 b ys ∧ R (ItM K a b) H1
def iE (K : PySem.W.Frag) (ta : TA) : TI := fun σ H R => ta σ H fun vs H1 => ∃ a b xs ys, vs = [.ref a, .ref b] ∧ SqT K H1 a xs ∧ SqL K H1 b ys ∧ R (ItE K a b) H1
theorem pi_M (hg : Gl X "zip") (hm : X.mg "zip" = none) (ha : PA X [e, e2] ta)
    (hs : starEach [e, e2] X.env = (false, eval e X.env) :: starEach [e2] X.env := by rfl) (hpl : (backTo pos (starEach [e2] X.env)).any (·.1) = false := by rfl) :
    PI X (.Tuple elts kk tpos) (.Call (.Name "zip" p) [e, e2] [] pos) (iM X.K ta) := by
  refine ⟨fun pins s σ H R I h => ?_⟩
  refine Call_ (ld_blt I hg hm PyProof.Rows.boot_zip (PyProof.Rows.callWith_type1 (thn (ha.run pos pins s σ H _ I h) fun us s1 ⟨vs, H1, I1, r1, q1⟩ => ?_) hs hpl))
  obtain ⟨a, b, xs, ys, rfl, hx, hy, q⟩ := q1
  cases r1 with
  | cons r rr =>
    cases rr with
    | cons r' rr =>
      cases rr
      cases r
      cases r'
      refine zip_made I1 hx hy fun h' I2 hz hTI hTO h1 h2 hsz D => wpAny_pyIter_zip hz ?_
      exact ⟨s1.heap.objs.size + 4, [s1.heap.objs.size + 4, s1.heap.objs.size + 2, s1.heap.objs.size + 3, s1.heap.objs.size, s1.heap.objs.size + 1], _, _, H1, rfl, I2, turnM D, ⟨hz, hTI, ⟨_, _, hTO⟩, h1, h2⟩, fun c hc => fresh5 I1 c (List.mem_cons_of_mem _ hc), q⟩
theorem pi_E (hg : Gl X "enumerate") (hm : X.mg "enumerate" = none) (hg2 : Gl X "zip") (hm2 : X.mg "zip" = none) (ha : PA X [e, e2] ta)
    (hs : starEach [e, e2] X.env = (false, eval e X.env) :: starEach [e2] X.env := by rfl) (hpl : (backTo pos2 (starEach [e2] X.env)).any (·.1) = false := by rfl)
    (hs2 : starEach [.Call (.Name "zip" p2) [e, e2] [] pos2] X.env = (false, eval (.Call (.Name "zip" p2) [e, e2] [] pos2) X.env) :: starEach [] X.env := by rfl) :
    PI X (.Tuple elts kk tpos) (.Call (.Name "enumerate" p) [.Call (.Name "zip" p2) [e, e2] [] pos2] [] pos) (iE X.K ta) := by
  refine ⟨fun pins s σ H R I h => ?_⟩
  refine Call_ (ld_blt I hg hm boot_enumerate (PyProof.Rows.callWith_type1 ?_ hs2 rfl))
  show wpAny _ _ (spliced ((false, eval (.Call (.Name "zip" p2) [e, e2] [] pos2) X.env) :: backTo pos (starEach [] X.env))) _ _ s
  refine Calls.spliced_cons ?_
  refine Call_ (ld_blt I hg2 hm2 PyProof.Rows.boot_zip (PyProof.Rows.callWith_type1 (thn (ha.run pos2 pins s σ H _ I h) fun us s1 ⟨vs, H1, I1, r1, q1⟩ => ?_) hs hpl))
  obtain ⟨a, b, xs, ys, rfl, hx, hy, q⟩ := q1
  cases r1 with
  | cons r rr =>
    cases rr with
    | cons r' rr =>
      cases rr
      cases r
      cases r'
      refine zip_made I1 hx hy fun h' I2 hz hTI hTO h1 h2 hsz D => Calls.spliced_nil ?_
      refine call_enumZ (s := { s1 with heap := h' }) hz fun g he hk => wpAny_pyIter_enum he ?_
      have I3 : Inv X pins σ H1 { s1 with heap := g } := I2.kept (t' := s1.toks) hk
      rw [show ({ s1 with heap := h' } : Shared).heap.objs.size = s1.heap.objs.size + 5 from hsz] at he ⊢
      refine ⟨s1.heap.objs.size + 5, [s1.heap.objs.size + 5, s1.heap.objs.size + 4, s1.heap.objs.size + 2, s1.heap.objs.size + 3, s1.heap.objs.size, s1.heap.objs.size + 1], _, _, H1, rfl, I3,
        turnE (e := s1.heap.objs.size + 5) (z := s1.heap.objs.size + 4) (TI := s1.heap.objs.size + 2) (TO := s1.heap.objs.size + 3) (i1 := s1.heap.objs.size) (i2 := s1.heap.objs.size + 1) D (ne_add (by decide)) (ne_add (by decide)) (ne_add (by decide)) (ne_add (j := 0) (by decide)) (ne_add (by decide)), ⟨⟨_, he⟩, ⟨_, _, .inl rfl, hk _ _ hz⟩, hk _ _ hTI, ⟨_, _, hk _ _ hTO⟩, h1.at fun o q => hk _ o q, h2.at fun o q => hk _ o q⟩, fresh5 I1, q⟩
end
/-- a loop over zip of a tuple and a list of one length -/
theorem for_M {K : PySem.W.Frag} {a b : Addr} {xs ys : List V} {g : TG} {tb : TS} {D : Ends} {σ : L2.St} {H : Hp} (hl : xs.length = ys.length) (Pv : Nat → L2.St → Hp → Prop) (h0 : Pv 0 σ H) (hq : ∀ i σ H, Pv i σ H → SqT K H a xs ∧ SqL K H b ys)
    (hs : ∀ (i : Nat) (x y : V) (T : Addr) (σ : L2.St) (H : Hp), xs[i]? = some x → ys[i]? = some y → Pv i σ H → H T = none → g (.ref T) σ (upd H T (.tup [x, y])) fun σ2 H2 => tb { D with nx := Pv (i + 1), ct := Pv (i + 1), bk := D.nx } σ2 H2) (hd : ∀ σ H, Pv xs.length σ H → D.nx σ H) :
    ∃ W : Nat → Nat → L2.St → Hp → Prop, (∃ m, W 0 m σ H) ∧ ∀ i m σ H, W i m σ H →
      ((ItM K a b).stop i H ∧ D.nx σ H) ∨ ((ItM K a b).go i H ∧ ∃ N : L2.St → Hp → Prop, (∀ σ' H', N σ' H' → ∃ m', m' < m ∧ W (i + 1) m' σ' H') ∧ ∀ v H', (ItM K a b).yld i H v H' → g v σ H' fun σ2 H2 => tb { D with nx := N, ct := N, bk := D.nx } σ2 H2) := by
  refine ⟨fun i m σ H => m = xs.length - i ∧ i ≤ xs.length ∧ Pv i σ H, ⟨xs.length, rfl, Nat.zero_le _, h0⟩, ?_⟩
  rintro i m σ H ⟨rfl, hi, p⟩
  obtain ⟨qx, qy⟩ := hq i σ H p
  by_cases hlt : i < xs.length
  · have hx : xs[i]? = some xs[i] := List.getElem?_eq_getElem hlt
    have hlt2 : i < ys.length := by omega
    have hy : ys[i]? = some ys[i] := List.getElem?_eq_getElem hlt2
    refine .inr ⟨⟨xs, ys, _, _, qx, qy, hx, hy⟩, Pv (i + 1), fun σ' H' p' => ⟨xs.length - (i + 1), by omega, rfl, hlt, p'⟩, fun v H' yl => ?_⟩
    obtain ⟨T, x', y', rfl, hT, rfl, f1, f2⟩ := yl
    exact hs i x' y' T σ H (f1 xs qx) (f2 ys qy) p hT
  · have e : i = xs.length := by omega
    subst e
    exact .inl ⟨⟨xs, qx, Nat.le_refl _⟩, hd σ H p⟩
theorem for_E {K : PySem.W.Frag} {a b : Addr} {xs ys : List V} {g : TG} {tb : TS} {D : Ends} {σ : L2.St} {H : Hp} (hl : xs.length = ys.length) (Pv : Nat → L2.St → Hp → Prop) (h0 : Pv 0 σ H) (hq : ∀ i σ H, Pv i σ H → SqT K H a xs ∧ SqL K H b ys)
    (hs : ∀ (i : Nat) (x y : V) (T U : Addr) (σ : L2.St) (H : Hp), xs[i]? = some x → ys[i]? = some y → Pv i σ H → H T = none → H U = none → U ≠ T →
      g (.ref U) σ (upd (upd H T (.tup [x, y])) U (.tup [.int (i : Nat), .ref T])) fun σ2 H2 => tb { D with nx := Pv (i + 1), ct := Pv (i + 1), bk := D.nx } σ2 H2) (hd : ∀ σ H, Pv xs.length σ H → D.nx σ H) :
    ∃ W : Nat → Nat → L2.St → Hp → Prop, (∃ m, W 0 m σ H) ∧ ∀ i m σ H, W i m σ H →
      ((ItE K a b).stop i H ∧ D.nx σ H) ∨ ((ItE K a b).go i H ∧ ∃ N : L2.St → Hp → Prop, (∀ σ' H', N σ' H' → ∃ m', m' < m ∧ W (i + 1) m' σ' H') ∧ ∀ v H', (ItE K a b).yld i H v H' → g v σ H' fun σ2 H2 => tb { D with nx := N, ct := N, bk := D.nx } σ2 H2) := by
  refine ⟨fun i m σ H => m = xs.length - i ∧ i ≤ xs.length ∧ Pv i σ H, ⟨xs.length, rfl, Nat.zero_le _, h0⟩, ?_⟩
  rintro i m σ H ⟨rfl, hi, p⟩
  obtain ⟨qx, qy⟩ := hq i σ H p
  by_cases hlt : i < xs.length
  · have hx : xs[i]? = some xs[i] := List.getElem?_eq_getElem hlt
    have hlt2 : i < ys.length := by omega
    have hy : ys[i]? = some ys[i] := List.getElem?_eq_getElem hlt2
    refine .inr ⟨⟨xs, ys, _, _, qx, qy, hx, hy⟩, Pv (i + 1), fun σ' H' p' => ⟨xs.length - (i + 1), by omega, rfl, hlt, p'⟩, fun v H' yl => ?_⟩
    obtain ⟨T, U, x', y', rfl, hT, hU, hne, rfl, f1, f2⟩ := yl
    exact hs i x' y' T U σ H (f1 xs qx) (f2 ys qy) p hT hU hne
  · have e : i = xs.length := by omega
    subst e
    exact .inl ⟨⟨xs, qx, Nat.le_refl _⟩, hd σ H p⟩
end R7

namespace R8
open PySem PyProof.Rows Srt SrtO
/-- v is a tuple in the heap: a text, then u -/
def IsRow (h : Heap) (v : Value) (x : Str) (u : Value) : Prop := ∃ a o t n, v = .ref a ∧ h.get? a = some o ∧ o.cls = .type "tuple" ∧ o.data = .seq #[.str x t, u] n
theorem IsRow.keeps {h h' : Heap} {v : Value} {x : Str} {u : Value} (p : IsRow h v x u) (k : ∀ b o, h.get? b = some o → o.cls = .type "tuple" → h'.get? b = some o) : IsRow h' v x u := by
  obtain ⟨a, o, t, n, e, ho, hc, hd⟩ := p
  exact ⟨a, o, t, n, e, k _ _ ho hc, hc, hd⟩
theorem row_firsts {h : Heap} : ∀ {vs : List Value}, (∀ v ∈ vs, ∃ x u, IsRow h v x u) → ∃ fs : List Value, PySem.W.KatTups h vs fs ∧ fs.length = vs.length ∧ ∀ f ∈ fs, ∃ x t, f = Value.str x t
  | [], _ => ⟨[], PySem.W.KatTups.nil, rfl, fun _ hm => by simp at hm⟩
  | v :: vs, hp => by
    obtain ⟨fs, h1, h2, h3⟩ := row_firsts (vs := vs) fun v' hm => hp v' (List.mem_cons_of_mem _ hm)
    obtain ⟨x, u, a, o, t, n, e, ho, hc, hd⟩ := hp v (List.mem_cons_self ..)
    subst e
    refine ⟨.str x t :: fs, PySem.W.KatTups.cons ho hc hd rfl h1, by rw [List.length_cons, List.length_cons, h2], fun f hm => ?_⟩
    rcases List.mem_cons.mp hm with rfl | hm
    · exact ⟨x, t, rfl⟩
    · exact h3 f hm
theorem swoS {α : Type} (k : α → Str) : Swo fun v u => R1.ltS (k v) (k u) := by
  refine ⟨fun x y h => ?_, fun x y z h1 h2 => R1.le_tr h1 h2⟩
  cases e : R1.ltS (k y) (k x) with
  | false => rfl
  | true =>
    have q := R1.lt_tr h e
    rw [R1.lt_irr] at q
    cases q
section
variable {prog : Program} {w : World} {A : Around} {E : Value → Shared → Prop} {s : Shared}
theorem row_cmp {vs : List Value} {k : Value → Str} (hp : ∀ v ∈ vs, ∃ u, IsRow s.heap v (k v) u) (hd : ∀ v ∈ vs, ∀ u ∈ vs, k v = k u → v = u) : Cmp prog w A s (tuples' true) (fun p => p.1 ∈ vs) (lt2 fun v u => R1.ltS (k v) (k u)) := by
  intro p q hm hm'
  obtain ⟨y, a, o, t, n, e, ho, hc, hdt⟩ := hp _ hm
  obtain ⟨y', a', o', t', n', e', ho', hc', hdt'⟩ := hp _ hm'
  show wpAny (model prog w) A (keyLt' (tuples' true) p.1 q.1) (fun r s' => s' = s ∧ r = R1.ltS (k p.1) (k q.1)) (fun _ _ => False) s
  have hne := hd _ hm _ hm'
  generalize hkp : k p.1 = x at *
  generalize hkq : k q.1 = x' at *
  rw [e, e']
  rw [e, e'] at hne
  refine PySem.W.kat_lt ho hdt ho' hdt' ?_
  show PySem.W.KatLex prog w A true (decide (2 < 2)) _ [(.str x t, .str x' t'), (y, y')] 0 s
  refine PySem.W.kat_cons (PyProof.Rows.eqBool_str ?_)
  refine PySem.W.kat_go (fun e1 => ?_) (fun e1 => ?_)
  · have ex : x = x' := eq_of_beq e1
    have eaa : a = a' := Value.ref.inj (hne ex)
    subst ex eaa
    rw [ho] at ho'
    cases ho'
    rw [hdt] at hdt'
    have ey : y = y' := by
      have z := congrArg Array.toList (Data.seq.inj hdt').1
      exact (List.cons.inj (List.cons.inj z).2).1
    subst ey
    refine PySem.W.kat_yes (PySem.W.kat_cons (SeqAt.EqAt.same y prog w _ _ ?_))
    refine PySem.W.kat_go (fun e2 => ?_) (fun e2 => by cases e2)
    exact PySem.W.kat_yes (PySem.W.kat_nil ⟨rfl, (R1.lt_irr x).symm⟩)
  · exact PySem.W.kat_no (PyProof.Rows.oneLt_str ⟨rfl, rfl⟩)
theorem rows_sortable {a : Addr} {vs : List Value} {k : Value → Str} (h0 : 0 < vs.length) (hp : ∀ v ∈ vs, ∃ u, IsRow s.heap v (k v) u) (hd : ∀ v ∈ vs, ∀ u ∈ vs, k v = k u → v = u) (ha : ∀ o, s.heap.get? a = some o → o.cls ≠ .type "tuple") :
    SortableO prog w A s a vs fun v u => R1.ltS (k v) (k u) := by
  intro h' keep
  have hp' : ∀ v ∈ vs, ∃ u, IsRow h' v (k v) u := fun v hm => by
    obtain ⟨u, q⟩ := hp v hm
    exact ⟨u, q.keeps fun b o e c => keep b o (fun z => by subst z; exact ha o e c) e⟩
  obtain ⟨fs, h1, h2, h3⟩ := row_firsts fun v hm => ⟨_, hp' v hm⟩
  refine ⟨tuples' true, fun Q E hq => ?_, row_cmp hp' hd⟩
  refine PySem.W.kat_kind (T := .type "str") h1 (by omega) (fun f hm => ?_) (by rfl) ?_
  · obtain ⟨x, t, rfl⟩ := h3 f hm
    exact PySem.W.Looks.now
  · have e : (Value.type "str" != Value.type "tuple") = true := by first | decide +kernel | rfl | decide
    rw [e]
    exact hq
theorem sorted_rows {l : Addr} {vs : List Value} {k : Value → Str} {Q : Value → Shared → Prop} (hl : s.heap.IsList l vs.toArray) (hz : vs.length ≤ sizeLine) (hp : ∀ v ∈ vs, ∃ u, IsRow s.heap v (k v) u) (hd : ∀ v ∈ vs, ∀ u ∈ vs, k v = k u → v = u)
    (h : ∀ (h' : Heap) (d : Addr) (out : List Value), Srtd (fun v u => R1.ltS (k v) (k u)) out → Stb (fun v u => R1.ltS (k v) (k u)) out vs → (∀ b o, s.heap.get? b = some o → h'.get? b = some o) → s.heap.objs.size ≤ d → (∃ n, h'.get? d = some (seqObj "list" out.toArray n)) → Q (.ref d) { s with heap := h' }) :
    wpAny (model prog w) A (call (.builtin "sorted") [.ref l]) Q E s := by
  refine sorted_ord (swoS k) hl hz (fun h2 h₁ a ha kk => ?_) fun out hs hb => ?_
  · refine rows_sortable (s := { s with heap := h₁ }) (by omega) (fun v hm => ?_) hd fun o e => ?_
    · obtain ⟨u, q⟩ := hp v hm
      exact ⟨u, q.keeps fun b o e _ => (kk b o e).2⟩
    · have e' : some o = some (seqObj "list" vs.toArray 0) := e.symm.trans ha
      cases e'
      intro c
      exact absurd (Value.type.inj c) (by decide)
  · exact h _ _ out hs hb (fun b o e => sortedAll_old e) (Nat.le_succ _) (sortedAll_at s.heap vs out.toArray)
end
open PySem.Spec L2
/-- sorted(xs), xs a list of rows: a text, then anything; one name, one row -/
def rSortRows (K : PySem.W.Frag) : List V → Hp → VK → Prop := fun vs H Q => ∃ (a : Addr) (xs : List V) (k : V → Str), vs = [V.ref a] ∧ SqL K H a xs ∧ (∀ x ∈ xs, ∃ t u, x = V.ref t ∧ H t = some (.tup [.str (k x), u])) ∧ (∀ x ∈ xs, ∀ y ∈ xs, k x = k y → x = y) ∧
  ∀ ys p, ys.Perm xs → ys.Pairwise (fun x y => R1.ltS (k y) (k x) = false) → H p = none → Q (.ref p) (upd H p (.lst ys))
theorem cr_sortRows {X : Cx} : CallR X (.builtin "sorted") (rSortRows X.K) := by
  intro pins s σ H vs us Q I r h
  obtain ⟨a, xs, k, rfl, hs, hx, hne, q⟩ := h
  obtain ⟨its, rv, hl, hz⟩ := I.list hs
  obtain ⟨u, rfl, ru⟩ := vals1 r
  obtain rfl : u = Value.ref a := ru
  obtain ⟨e1, e2⟩ := refs_back rv fun x m => by
    obtain ⟨t, _, e, _⟩ := hx x m
    exact ⟨t, e⟩
  refine sorted_rows (k := fun u => k (backV u)) hl.isList (by rw [← rv.length]; exact hz) (fun v hv => ?_) (fun v hv u hu e => ?_) fun h' d out h1 h2 kp hd hn => ?_
  · obtain ⟨t, rfl⟩ := e2 v hv
    have hm : V.ref t ∈ xs := by rw [e1]; exact List.mem_map.mpr ⟨_, hv, rfl⟩
    obtain ⟨t', u, e, ht⟩ := hx _ hm
    cases e
    obtain ⟨_, its2, r2, o, ho, hc, n, hd⟩ := I.hok _ _ ht
    obtain ⟨u1, u2, rfl, ri, rj⟩ := vals2 r2
    obtain ⟨t1, rfl⟩ := ri
    exact ⟨u2, t, o, t1, n, rfl, ho, hc, hd⟩
  · obtain ⟨t, rfl⟩ := e2 v hv
    obtain ⟨t', rfl⟩ := e2 u hu
    have hm : V.ref t ∈ xs := by rw [e1]; exact List.mem_map.mpr ⟨_, hv, rfl⟩
    have hm' : V.ref t' ∈ xs := by rw [e1]; exact List.mem_map.mpr ⟨_, hu, rfl⟩
    have z := hne _ hm _ hm' e
    cases z
    rfl
  · have h3 : ∀ u ∈ out, ∃ a, u = Value.ref a := fun u hu => e2 u (h2.perm.mem_iff.mp hu)
    obtain ⟨n, hn⟩ := hn
    have hb : (out.map backV).Perm xs := by
      rw [e1]
      exact h2.perm.map _
    refine ⟨.ref d, upd H d (.lst (out.map backV)), I.laid (t' := s.toks) kp hd ⟨?_, out, n, vals_back h3, hn⟩, rfl, q _ d hb (SrtO.srtd_map (f := backV) (lt := fun x y => R1.ltS (k x) (k y)) h1) (I.hok.fresh hd)⟩
    rw [hb.length_eq]
    exact hz
end R8

namespace R9
open PySem PySem.Spec PyProof.Rows L2
/-- a def of the module under its name -/
def Dfn (K : PySem.W.Frag) (mg : Str → Option Value) (x : Str) (st : Stmt) : Prop := ∃ f fd, L2.Fun K x x st f fd ∧ mg x = some (.ref f)
/-- a def that may be called by its name -/
structure Cal (CX : CXT) (P : Program) (w : World) (K : PySem.W.Frag) (mg : Str → Option Value) (base : Heap) (k : Nat) (x : Str) (sp : Sp) : Prop where
  ex : ∃ (f : Addr) (fd : FuncData) (ps : List Str), FnOk P w K mg base CX k f fd ps sp ∧ mg x = some (.ref f) ∧ PySem.W.keepIn K (.ref f) = true ∧ Binds K fd ps []
section
variable {P : Program} {w : World} {K : PySem.W.Frag} {mg : Str → Option Value} {base : Heap}
theorem cal_of {x : Str} {st : Stmt} {N ps : List Str} {k : Nat} {sp : Sp} (D : Dfn K mg x st) (S : FnScope N ps (defScope st)) (len : ∀ vs H Q E, sp vs H Q E → vs.length = ps.length)
    (hb : ∀ (kV doc pm : Value) (an : Option Addr) (cdv ct : Value) (us : List Value), us.length = ps.length → bindArgs (PySem.W.fnOf x x (defArgs st) (defBody st) (defScope st) .none kV doc pm an cdv ct) ⟨us, []⟩ = pure (ps.zip us))
    (hbody : ∀ (f : Addr) (cdv : Value) (A : Around) (outer : List Env) (s : Shared) (H : Hp) (vs : List V) (Q : VK) (E : XK), Room k (A.deeper (envOfC x (defScope st) s.heap.objs.size f cdv)) → sp vs H Q E →
      ∃ t, PSs (cxOf L2.CX0 P w K mg base N x (defScope st) f cdv A outer s H E).nox (defBody st) t ∧ t { nx := fun _ H' => Q .non H', rt := Q } (L2.start N vs) H) : Cal L2.CX0 P w K mg base (k + 1) x sp := by
  obtain ⟨f, fd, F, hm⟩ := D
  exact ⟨f, fd, ps, F.ok S len fun cdv A outer s H vs Q E hr h => hbody f cdv A outer s H vs Q E hr h, hm, F.kp, F.binds hb⟩
theorem calX_of {x : Str} {st : Stmt} {N ps : List Str} {k : Nat} {sp : Sp} (D : Dfn K mg x st) (S : FnScope N ps (defScope st)) (len : ∀ vs H Q E, sp vs H Q E → vs.length = ps.length)
    (hb : ∀ (kV doc pm : Value) (an : Option Addr) (cdv ct : Value) (us : List Value), us.length = ps.length → bindArgs (PySem.W.fnOf x x (defArgs st) (defBody st) (defScope st) .none kV doc pm an cdv ct) ⟨us, []⟩ = pure (ps.zip us))
    (hbody : ∀ (f : Addr) (cdv : Value) (A : Around) (outer : List Env) (s : Shared) (H : Hp) (vs : List V) (Q : VK) (E : XK), Room k (A.deeper (envOfC x (defScope st) s.heap.objs.size f cdv)) → sp vs H Q E →
      ∃ t, PSs (cxOf (L2.CX P w) P w K mg base N x (defScope st) f cdv A outer s H E) (defBody st) t ∧ t { nx := fun _ H' => Q .non H', rt := Q } (L2.start N vs) H) : Cal (L2.CX P w) P w K mg base (k + 1) x sp := by
  obtain ⟨f, fd, F, hm⟩ := D
  exact ⟨f, fd, ps, F.okX S len fun cdv A outer s H vs Q E hr h => hbody f cdv A outer s H vs Q E hr h, hm, F.kp, F.binds hb⟩
end
section
variable {X : Cx} {CX : CXT} {k j : Nat} {x : Str} {sp : Sp} {E : XK} {p pos : Pos} {e : Expr} {es : List Expr} {t : TA}
theorem pe_c (c : Cal L2.CX0 X.prog X.w X.K X.mg X.base k x sp) (hr : Room j X.A) (hk : k ≤ j) (hg : Gl X x) (ha : PA X (e :: es) t)
    (hdb : (x == ("__debug__" : Str)) = false := by decide) (he : starEach (e :: es) X.env = (false, eval e X.env) :: starEach es X.env := by rfl) (hpl : (backTo pos (starEach es X.env)).any (·.1) = false := by rfl) :
    PE X (.Call (.Name x p) (e :: es) [] pos) (tCall sp [] E0 t) := by
  obtain ⟨f, fd, ps, F, hm, kp, b⟩ := c.ex
  exact pe_call F (hr.mono hk) hg hm kp b .nil pass0 ha hdb he hpl
theorem pe_cX (c : Cal CX X.prog X.w X.K X.mg X.base k x sp) (hr : Room j X.A) (hk : k ≤ j) (hg : Gl X x) (hx : Passes CX X E) (ha : PA X (e :: es) t)
    (hdb : (x == ("__debug__" : Str)) = false := by decide) (he : starEach (e :: es) X.env = (false, eval e X.env) :: starEach es X.env := by rfl) (hpl : (backTo pos (starEach es X.env)).any (·.1) = false := by rfl) :
    PE X (.Call (.Name x p) (e :: es) [] pos) (tCall sp [] E t) := by
  obtain ⟨f, fd, ps, F, hm, kp, b⟩ := c.ex
  exact pe_call F (hr.mono hk) hg hm kp b .nil hx ha hdb he hpl
end
theorem pe_gs {X : Cx} {x z : Str} {pos : Pos} (hg : Gl X x) (hm : ∃ t, X.mg x = some (.str z t)) (hd : (x == ("__debug__" : Str)) = false := by decide) : PE X (.Name x pos) (tC (.str z)) := by
  obtain ⟨t, hm⟩ := hm
  exact pe_glob hg hm ⟨t, rfl⟩ hd
theorem pe_gi {X : Cx} {x : Str} {i : Int} {pos : Pos} (hg : Gl X x) (hm : ∃ t, X.mg x = some (.int i t)) (hd : (x == ("__debug__" : Str)) = false := by decide) : PE X (.Name x pos) (tC (.int i)) := by
  obtain ⟨t, hm⟩ := hm
  exact pe_glob hg hm ⟨t, rfl⟩ hd
/-- an expression, a statement that is never reached -/
theorem pe_never {X : Cx} {e : Expr} : PE X e (fun _ _ _ => False) := ⟨fun _ _ _ _ _ _ h => h.elim⟩
/-! ### what a comprehension has made so far -/
def PvF (H1 : Hp) (D : Addr) (F : Nat → List V) (i : Nat) (H : Hp) : Prop := H D = some (.lst (F i)) ∧ Same H1 H
theorem same_upd {H : Hp} {D : Addr} {o : HO} (hD : H D = none) : Same H (upd H D o) := fun b u e => by
  rw [upd_ne (ne_of_none e hD)]
  exact e
theorem same_updS {H1 H : Hp} {D : Addr} {o : HO} (hD : H1 D = none) (S : Same H1 H) : Same H1 (upd H D o) := fun b u e => by
  rw [upd_ne (ne_of_none e hD)]
  exact S b u e
theorem PvF.zero {H1 : Hp} {D : Addr} {F : Nat → List V} (hD : H1 D = none) (e : F 0 = []) : PvF H1 D F 0 (upd H1 D (.lst [])) := ⟨by rw [e]; exact upd_same, same_upd hD⟩
theorem PvF.keep {H1 H H4 : Hp} {D : Addr} {F : Nat → List V} {i : Nat} {y : V} (p : PvF H1 D F i H) (hD : H1 D = none) (S : Same H H4) (e : F (i + 1) = F i ++ [y]) : PvF H1 D F (i + 1) (upd H4 D (.lst (F i ++ [y]))) :=
  ⟨by rw [e]; exact upd_same, same_updS hD (p.2.trans S)⟩
theorem PvF.skip {H1 H H4 : Hp} {D : Addr} {F : Nat → List V} {i : Nat} (p : PvF H1 D F i H) (S : Same H H4) (e : F (i + 1) = F i) : PvF H1 D F (i + 1) H4 := ⟨by rw [e]; exact S _ _ p.1, p.2.trans S⟩
/-- of a list: those that pass, mapped -/
def fm {α : Type} (l : List α) (p : α → Bool) (f : α → V) (i : Nat) : List V := ((l.take i).filter p).map f
theorem fm_zero {α : Type} {l : List α} {p : α → Bool} {f : α → V} : fm l p f 0 = [] := rfl
theorem fm_yes {α : Type} {l : List α} {p : α → Bool} {f : α → V} {i : Nat} {x : α} (h : l[i]? = some x) (hp : p x = true) : fm l p f (i + 1) = fm l p f i ++ [f x] := by
  unfold fm
  rw [List.take_add_one, h]
  simp [List.filter_append, hp]
theorem fm_no {α : Type} {l : List α} {p : α → Bool} {f : α → V} {i : Nat} {x : α} (h : l[i]? = some x) (hp : p x = false) : fm l p f (i + 1) = fm l p f i := by
  unfold fm
  rw [List.take_add_one, h]
  simp [List.filter_append, hp]
theorem filt_true {α : Type} (l : List α) : l.filter (fun _ => true) = l := List.filter_eq_self.mpr fun _ _ => rfl
theorem fm_len {α : Type} {l : List α} {p : α → Bool} {f : α → V} {i : Nat} : (fm l p f i).length ≤ l.length := by
  unfold fm
  rw [List.length_map]
  exact Nat.le_trans (List.length_filter_le _ _) (by rw [List.length_take]; omega)
theorem fm_all {α : Type} {l : List α} {p : α → Bool} {f : α → V} {n : Nat} (h : l.length ≤ n) : fm l p f n = (l.filter p).map f := by
  unfold fm
  rw [List.take_of_length_le h]
theorem tYes_go {σ : L2.St} {H : Hp} {A B : Hp → Prop} (h : A H) : tYes σ H (fun b H3 => if b = true then A H3 else B H3) := by
  show if true = true then A H else B H
  rw [if_pos rfl]
  exact h
/-- a comprehension over a text -/
theorem lc_str {z : Str} {g : TG} {tt : TT} {te : TE} {vs : List Nat} {σ : L2.St} {H1 : Hp} {D : Addr} {Qd : Hp → Prop} (Pv : Nat → Hp → Prop) (h0 : Pv 0 (upd H1 D (.lst [])))
    (hs : ∀ i c H, z.cps[i]? = some c → Pv i H → g (.str ⟨#[c]⟩) (wipe σ vs) H fun σ2 H2 => wipe σ2 vs = wipe σ vs ∧ tt σ2 H2 fun b H3 =>
      if b = true then te σ2 H3 fun y H4 => ∃ acc, H4 D = some (.lst acc) ∧ acc.length < sizeLine ∧ Pv (i + 1) (upd H4 D (.lst (acc ++ [y]))) else Pv (i + 1) H3) (hd : ∀ H, Pv z.cps.size H → Qd H) :
    ∃ W : Nat → Nat → Hp → Prop, (∃ m, W 0 m (upd H1 D (.lst []))) ∧ ∀ i m H, W i m H →
      ((Its z).stop i H ∧ Qd H) ∨ ((Its z).go i H ∧ ∃ Nx : Hp → Prop, (∀ H', Nx H' → ∃ m', m' < m ∧ W (i + 1) m' H') ∧ ∀ x H', (Its z).yld i H x H' → g x (wipe σ vs) H' fun σ2 H2 => wipe σ2 vs = wipe σ vs ∧ tt σ2 H2 fun b H3 =>
        if b = true then te σ2 H3 fun y H4 => ∃ acc, H4 D = some (.lst acc) ∧ acc.length < sizeLine ∧ Nx (upd H4 D (.lst (acc ++ [y]))) else Nx H3) := by
  refine ⟨fun i m H => m = z.cps.size - i ∧ i ≤ z.cps.size ∧ Pv i H, ⟨z.cps.size, rfl, Nat.zero_le _, h0⟩, ?_⟩
  rintro i m H ⟨rfl, hi, p⟩
  by_cases hlt : i < z.cps.size
  · refine .inr ⟨hlt, Pv (i + 1), fun H' p' => ⟨z.cps.size - (i + 1), by omega, rfl, hlt, p'⟩, fun x H' y => ?_⟩
    obtain ⟨rfl, c, hc, rfl⟩ := y
    exact hs i c _ hc p
  · have e : i = z.cps.size := by omega
    subst e
    exact .inl ⟨Nat.le_refl _, hd H p⟩
abbrev LET : Str := "abcdefghijklmnopqrstuvwxyz"
abbrev CAP : Str := "ABCDEFGHIJKLMNOPQRSTUVWXYZ"
/-- what the module's top has left -/
structure T86 (K : PySem.W.Frag) (mg : Str → Option Value) (U : Addr) : Prop where
  letters : Dfn K mg "are_letters" (K86.top 21)
  high : Dfn K mg "is_high" (K86.top 23)
  unit : Dfn K mg "is_unit" (K86.top 61)
  areU : Dfn K mg "are_uses" (K86.top 69)
  first : Dfn K mg "first_by_name" (K86.top 72)
  usesI : Dfn K mg "uses_itself" (K86.top 73)
  reasonO : Dfn K mg "reason_of" (K86.top 74)
  reqL : Dfn K mg "require_linkable" (K86.top 75)
  inO : Dfn K mg "in_order" (K86.top 76)
  reqU : Dfn K mg "require_units" (K86.top 77)
  orderO : Dfn K mg "order_of" (K86.top 78)
  cup : Dfn K mg "_law_cup" (K86.top 80)
  sip : Dfn K mg "_law_sip" (K86.top 81)
  graph : Dfn K mg "_law_graph" (K86.top 83)
  comes : Dfn K mg "_law_comes_back" (K86.top 84)
  reason : Dfn K mg "_law_reason" (K86.top 85)
  order : Dfn K mg "_law_order" (K86.top 86)
  gL : ∃ t, mg "LETTERS" = some (.str LET t)
  gC : ∃ t, mg "CAPITALS" = some (.str CAP t)
  gN : ∃ t, mg "MAX_NAME" = some (.int 8 t)
  gD : ∃ t, mg "MAX_NODES" = some (.int 3000 t)
  gU : ∃ t, mg "MAX_UNITS" = some (.int 8 t)
  mU : mg "Unit" = some (.ref U)
  sc : SlX.SCls K U
  si : SlX.SIsi K U
  ki : PySem.W.kitOne K (.ref U) (.ref U) = some true
  s0 : ∃ p, SlX.Slot1 K U "own_declarations" p 0
  s1 : ∃ p, SlX.Slot1 K U "own_name" p 1
  s2 : ∃ p, SlX.Slot1 K U "own_nodes" p 2
  s3 : ∃ p, SlX.Slot1 K U "own_signature" p 3
  s4 : ∃ p, SlX.Slot1 K U "own_uses" p 4
  init : ∃ f fd, Mk K U f ∧ FunD K "__init__" "Unit.__init__" (defArgs (inClass (K86.top 70) 1)) (defBody (inClass (K86.top 70) 1)) (defScope (inClass (K86.top 70) 1)) [] [("signature", .non)] f fd
  len : mg "len" = none
  all : mg "all" = none
  any : mg "any" = none
  isinstance : mg "isinstance" = none
  str : mg "str" = none
  tuple : mg "tuple" = none
  list : mg "list" = none
  sum : mg "sum" = none
  range : mg "range" = none
  enumerate : mg "enumerate" = none
  zip : mg "zip" = none
  min : mg "min" = none
  max : mg "max" = none
  sorted : mg "sorted" = none
  dict : mg "dict" = none
  int : mg "int" = none
  abs : mg "abs" = none
  repr : mg "repr" = none
/-! ### names -/
def signOk (c : Nat) : Bool := decide (c ∈ LET.cps.toList) || decide (c ∈ CAP.cps.toList)
def lettersOk (z : Str) : Bool := decide (0 < z.length) && decide (z.length ≤ 8) && z.cps.toList.all signOk
def spLetters : Sp := fun vs H Q _ => ∃ z : Str, vs = [.str z] ∧ lettersOk z = true ∧ ∀ H', Same H H' → Q (.bl true) H'
abbrev sLetters : Stmt := K86.top 21
theorem scLetters : FnScope ["value", "letter"] ["value"] (defScope sLetters) := ⟨rfl, rfl, rfl, by decide +kernel, rfl, by decide +kernel, by decide +kernel⟩
section
variable {P : Program} {w : World} {K : PySem.W.Frag} {mg : Str → Option Value} {base : Heap} {U : Addr}
theorem cal_letters (T : T86 K mg U) : Cal L2.CX0 P w K mg base 1 "are_letters" spLetters := by
  refine cal_of (k := 0) T.letters scLetters (fun vs H Q E ⟨z, h, _⟩ => by rw [h]; rfl) (fun _ _ _ _ _ _ us hl => match us, hl with | [_], _ => rfl) fun f cdv A outer s H vs Q E hr h => ?_
  obtain ⟨z, rfl, hz, q⟩ := h
  refine ⟨_, pss_one (ps_ret (pe_and (pe_chain op_lt op_le pe_int (pe_callB call_len_str (by rfl) T.len PySem.boot_len (pa_cons (pv 0) pa_nil)) (pe_gi (by rfl) T.gN))
    (pe_one (pe_callB (cr_all rfl) (by rfl) T.all (by decide +kernel) (pa_cons (pe_lc (own := [("letter", 1)]) (g := gName 1) (tt := tYes) rfl scLetters.nd (pi_str (pv 0)) (blkOk_by (N := ["value", "letter"]) (sc := defScope sLetters) (by decide +kernel))
      (fun _ _ _ _ _ => pg_name (i := 1) scLetters.nd rfl (Or.inl rfl)) (fun _ _ _ _ _ => pts_nil)
      (fun _ _ _ _ _ => pe_or (pe_cmpR op_in_sign (pv 1) (pe_gs (by rfl) T.gL) rfl) (pe_one (pe_cmpR op_in_sign (pv 1) (pe_gs (by rfl) T.gC) rfl)))) pa_nil))))), ?_⟩
  have hz1 : 0 < z.length ∧ z.length ≤ 8 := by
    unfold lettersOk at hz
    simp only [Bool.and_eq_true, decide_eq_true_eq] at hz
    exact hz.1
  have hz2 : ∀ c ∈ z.cps.toList, signOk c = true := by
    unfold lettersOk at hz
    simp only [Bool.and_eq_true, List.all_eq_true] at hz
    exact hz.2
  refine ⟨_, rfl, z, rfl, Nat.le_trans hz1.2 (by decide), ?_⟩
  refine ⟨0, _, rfl, rfl, _, rfl, ?_⟩
  rw [show decide ((0 : Int) < (z.length : Int)) = true from decide_eq_true (by omega)]
  refine iteT ⟨_, _, rfl, rfl, _, rfl, ?_⟩
  rw [show decide ((z.length : Int) ≤ 8) = true from decide_eq_true (by omega)]
  refine iteT ⟨_, rfl, z, rfl, fun D hD => lc_str (PvF H D (fm z.cps.toList (fun _ => true) fun c => .bl (signOk c))) (PvF.zero hD rfl) (fun i c H1 hc p => ?_) fun H1 p => ?_⟩
  · have hc' : z.cps.toList[i]? = some c := by simpa using hc
    refine ⟨rfl, ?_⟩
    refine tYes_go ⟨_, rfl, _, _, rfl, rfl, _, rfl, ?_⟩
    have nx : ∀ b, b = signOk c → ∃ acc, H1 D = some (.lst acc) ∧ acc.length < sizeLine ∧ PvF H D (fm z.cps.toList (fun _ => true) fun c => .bl (signOk c)) (i + 1) (upd H1 D (.lst (acc ++ [.bl b]))) := fun b hb => by
      subst hb
      exact ⟨_, p.1, Nat.lt_of_le_of_lt (m := 8) (Nat.le_trans fm_len (show z.cps.toList.length ≤ 8 from by rw [Array.length_toList]; exact hz1.2)) (by decide), p.keep hD (Same.refl _) (fm_yes hc' rfl)⟩
    refine ite2 (fun e => ?_) fun e => ?_
    · exact nx true (by unfold signOk; rw [e]; rfl)
    · refine ⟨_, rfl, _, _, rfl, rfl, nx _ ?_⟩
      unfold signOk
      rw [Bool.eq_false_iff.mpr e]
      rfl
  · have p1 := p.1
    rw [fm_all (by rw [Array.length_toList]; exact Nat.le_refl _), filt_true] at p1
    refine ⟨D, z.cps.toList.map signOk, rfl, SqL.of (by rw [List.map_map]; exact p1), ?_⟩
    rw [show (z.cps.toList.map signOk).all id = true from by rw [List.all_eq_true]; intro b hb; obtain ⟨c, hc, e⟩ := List.mem_map.mp hb; rw [← e]; exact hz2 c hc]
    exact q _ p.2
end
end R9

namespace R10
open PySem PySem.Spec PyProof.Rows L2 R9
theorem inV_str {x : Str} {us : List Str} : inV (.str x) (us.map V.str) = decide (x ∈ us) := by
  unfold inV
  rw [List.any_map]
  induction us with
  | nil => rfl
  | cons u us ih =>
    rw [List.any_cons, ih]
    show (decide (u = x) || decide (x ∈ us)) = decide (x ∈ u :: us)
    by_cases h : u = x
    · rw [decide_eq_true h, Bool.true_or, decide_eq_true (by rw [h]; exact List.mem_cons_self)]
    · rw [decide_eq_false h, Bool.false_or]
      by_cases h2 : x ∈ us
      · rw [decide_eq_true h2, decide_eq_true (List.mem_cons_of_mem _ h2)]
      · rw [decide_eq_false h2, decide_eq_false]
        intro z
        rcases List.mem_cons.mp z with z | z
        · exact h z.symm
        · exact h2 z
theorem flat_strs {us : List Str} : (us.map V.str).all flatV = true := by
  rw [List.all_map]
  exact List.all_eq_true.mpr fun _ _ => rfl
theorem valV_off {κ : Type} [DecidableEq κ] {kvs : List (κ × V)} {k : κ} (h : ∀ p ∈ kvs, p.1 ≠ k) : valV kvs k = none := by
  unfold valV
  rw [List.find?_eq_none.mpr (fun p hp => by simpa using h p hp)]
  rfl
def highOk (z : Str) : Bool := lettersOk z && (match z.cps[0]? with | some c => decide (c ∈ CAP.cps.toList) | none => false)
def spHigh : Sp := fun vs H Q _ => ∃ z : Str, vs = [.str z] ∧ highOk z = true ∧ ∀ H', Same H H' → Q (.bl true) H'
abbrev sHigh : Stmt := K86.top 23
theorem scHigh : FnScope ["value"] ["value"] (defScope sHigh) := ⟨rfl, rfl, rfl, by decide +kernel, rfl, by decide +kernel, by decide +kernel⟩
section
variable {P : Program} {w : World} {K : PySem.W.Frag} {mg : Str → Option Value} {base : Heap} {U : Addr}
theorem cal_high (T : T86 K mg U) : Cal L2.CX0 P w K mg base 2 "is_high" spHigh := by
  refine cal_of (k := 1) T.high scHigh (fun vs H Q E ⟨z, h, _⟩ => by rw [h]; rfl) (fun _ _ _ _ _ _ us hl => match us, hl with | [_], _ => rfl) fun f cdv A outer s H vs Q E hr h => ?_
  obtain ⟨z, rfl, hz, q⟩ := h
  refine ⟨_, pss_one (ps_ret (pe_and (pe_callB call_isi (by rfl) T.isinstance (by decide +kernel) (pa_cons (pv 0) (pa_cons (pe_bltn (v := .ty "str") (by rfl) T.str (by decide +kernel) rfl) pa_nil)))
    (pe_and (pe_c (cal_letters T) hr (by decide) (by rfl) (pa_cons (pv 0) pa_nil)) (pe_one (pe_cmpR op_in_sign (pe_item_str (pv 0) pe_int (fun _ _ => rfl)) (pe_gs (by rfl) T.gC) rfl))))), ?_⟩
  have hz' := hz
  unfold highOk at hz'
  rw [Bool.and_eq_true] at hz'
  obtain ⟨h1, h2⟩ := hz'
  have h3 : 0 < z.length := by
    unfold lettersOk at h1
    simp only [Bool.and_eq_true, decide_eq_true_eq] at h1
    exact h1.1.1
  have h0 : z.cps[0]? = some z.cps[0] := Array.getElem?_eq_getElem h3
  rw [h0] at h2
  refine ⟨_, rfl, _, _, _, _, true, rfl, ClsV.ty _, .base (.str z), kit_ty (by decide +kernel), _, rfl, iteT ⟨_, rfl, z, rfl, h1, fun H' S => ?_⟩⟩
  refine ⟨_, rfl, iteT ⟨_, rfl, z, 0, z.cps[0], rfl, rfl, by decide, by decide, by omega, h0, _, _, rfl, rfl, ?_⟩⟩
  have e : decide (z.cps[0] ∈ CAP.cps.toList) = true := h2
  rw [e]
  exact q _ S
/-- are_uses(value, name) -/
def spAre : Sp := fun vs H Q _ => ∃ (t : Addr) (us : List Str) (n : Str), vs = [.ref t, .str n] ∧ H t = some (.tup (us.map V.str)) ∧ us.length < 8 ∧ (∀ u ∈ us, highOk u = true) ∧ n ∉ us ∧ us.Nodup ∧ ∀ H', Same H H' → Q (.bl true) H'
abbrev sAre : Stmt := K86.top 69
theorem scAre : FnScope ["value", "name", "one"] ["value", "name"] (defScope sAre) := ⟨rfl, rfl, rfl, by decide +kernel, rfl, by decide +kernel, by decide +kernel⟩
theorem cal_are (T : T86 K mg U) : Cal L2.CX0 P w K mg base 3 "are_uses" spAre := by
  refine cal_of (k := 2) T.areU scAre (fun vs H Q E ⟨z, _, _, h, _⟩ => by rw [h]; rfl) (fun _ _ _ _ _ _ us hl => match us, hl with | [_, _], _ => rfl) fun f cdv A outer s H vs Q E hr h => ?_
  obtain ⟨t, us, n, rfl, ht, hl8, hh, hn, hnd, q⟩ := h
  refine ⟨_, pss_cons (ps_if (PW.pt (pw_or (pt_not (pt_val (pe_callB call_isi (by rfl) T.isinstance (by decide +kernel) (pa_cons (pv 0) (pa_cons (pe_bltn (v := .ty "tuple") (by rfl) T.tuple (by decide +kernel) rfl) pa_nil)))))
      (pw_or (pt_cmpR op_ge (pe_callB call_len_seq (by rfl) T.len PySem.boot_len (pa_cons (pv 0) pa_nil)) (pe_gi (by rfl) T.gU) (nomark _))
        (pw_or1 (pt_not (pt_val (pe_callB (cr_all rfl) (by rfl) T.all (by decide +kernel) (pa_cons (pe_lc (own := [("one", 2)]) (g := gName 2) (tt := tYes) rfl scAre.nd (pi_tup (pv 0)) (blkOk_by (N := ["value", "name", "one"]) (sc := defScope sAre) (by decide +kernel))
          (fun _ _ _ _ _ => pg_name (i := 2) scAre.nd rfl (Or.inl rfl)) (fun _ _ _ _ _ => pts_nil)
          (fun _ _ _ _ _ => pe_c (cal_high T) hr (by decide) (by rfl) (pa_cons (pv 2) pa_nil))) pa_nil))))))))
      (pss_one (ps_ret pe_bl)) pss_nil)
    (pss_one (ps_ret (pe_and (pe_cmpR op_notIn_seq (pv 1) (pv 0) (by rfl)) (pe_one (pe_cmpR op_eq
      (pe_callB call_lenD (by rfl) T.len PySem.boot_len (pa_cons (pe_dc (own := [("one", 2)]) (g := gName 2) (tt := tYes) rfl scAre.nd (pi_tup (pv 0)) (blkOk_by (N := ["value", "name", "one"]) (sc := defScope sAre) (by decide +kernel))
          (fun _ _ _ _ _ => pg_name (i := 2) scAre.nd rfl (Or.inl rfl)) (fun _ _ _ _ _ => pts_nil) (fun _ _ _ _ _ => pv 2) (fun _ _ _ _ _ => pe_bl)) pa_nil))
      (pe_callB call_len_seq (by rfl) T.len PySem.boot_len (pa_cons (pv 0) pa_nil)) (nomark _)))))), ?_⟩
  refine ⟨_, rfl, _, _, _, _, true, rfl, ClsV.ty _, .base (.tup ht), kit_ty (by decide +kernel), _, rfl, iteF ?_⟩
  refine ⟨_, rfl, _, _, rfl, .inr (SqT.of ht), _, _, rfl, rfl, _, rfl, ?_⟩
  rw [show decide ((8 : Int) ≤ ((us.map V.str).length : Int)) = false from decide_eq_false (by rw [List.length_map]; omega)]
  refine iteF ⟨_, rfl, t, rfl, ⟨_, SqT.of ht⟩, fun D hD => lc_tup (xs := us.map V.str) (PvF H D (fm us (fun _ => true) fun _ => .bl true)) (PvF.zero hD rfl) (fun i H1 _ p => SqT.of (p.2 _ _ ht)) (fun i x H1 hx p => ?_) fun H1 p => ?_⟩
  · rw [List.getElem?_map] at hx
    obtain ⟨u, hu, rfl⟩ := Option.map_eq_some_iff.mp hx
    refine ⟨rfl, tYes_go ⟨_, rfl, u, rfl, hh u (List.mem_of_getElem? hu), fun H2 S => ?_⟩⟩
    exact ⟨_, S _ _ p.1, Nat.lt_of_le_of_lt fm_len (Nat.lt_trans hl8 (by decide)), p.keep hD S (fm_yes hu rfl)⟩
  · have p1 := p.1
    rw [fm_all (by rw [List.length_map]; exact Nat.le_refl _), filt_true] at p1
    refine ⟨D, us.map fun _ => true, rfl, SqL.of (by rw [List.map_map]; exact p1), ?_⟩
    rw [show (us.map fun _ => true).all id = true from by rw [List.all_eq_true]; intro b hb; obtain ⟨c, _, e⟩ := List.mem_map.mp hb; rw [← e]; rfl]
    refine ⟨_, rfl, iteF ?_⟩
    have ht1 := p.2 _ _ ht
    refine ⟨_, rfl, _, rfl, t, _, rfl, .inr (SqT.of ht1), rfl, flat_strs, ?_⟩
    rw [inV_str, decide_eq_false hn]
    refine ⟨_, rfl, iteT ⟨_, rfl, t, rfl, ⟨_, SqT.of ht1⟩, fun D2 hD2 => dc_tup (xs := us.map V.str) (fun i H2 => H2 D2 = some (.dK ((us.take i).map fun u => (Sum.inr u, V.bl true))) ∧ Same H1 H2) ⟨upd_same, same_upd hD2⟩
      (fun i H2 _ p2 => SqT.of (p2.2 _ _ ht1)) (fun i x H2 hx p2 => ?_) fun H2 p2 => ?_⟩⟩
    · rw [List.getElem?_map] at hx
      obtain ⟨u, hu, rfl⟩ := Option.map_eq_some_iff.mp hx
      refine ⟨rfl, tYes_go ⟨_, rfl, _, Sum.inr u, rfl, p2.1, ?_, ?_, same_updS hD2 p2.2⟩⟩
      · rw [List.length_map, List.length_take]
        exact Nat.lt_of_le_of_lt (Nat.min_le_right _ _) (Nat.lt_trans hl8 (by decide))
      · rw [upd_same, List.take_add_one, hu, putK_new]
        · rw [Option.toList_some, List.map_append]
          rfl
        · refine valV_off fun p hp => ?_
          obtain ⟨u', hu', rfl⟩ := List.mem_map.mp hp
          intro e
          have e' : u' = u := Sum.inr.inj e
          subst e'
          obtain ⟨j, hj⟩ := List.mem_iff_getElem?.mp hu'
          rw [List.getElem?_take] at hj
          by_cases hji : j < i
          · rw [if_pos hji] at hj
            obtain ⟨l1, e1⟩ := List.getElem?_eq_some_iff.mp hj
            obtain ⟨l2, e2⟩ := List.getElem?_eq_some_iff.mp hu
            exact List.pairwise_iff_getElem.mp hnd j i l1 l2 hji (e1.trans e2.symm)
          · rw [if_neg hji] at hj
            cases hj
    · refine ⟨D2, _, rfl, p2.1, _, rfl, t, _, rfl, .inr (SqT.of (p2.2 _ _ ht1)), rfl, ?_⟩
      rw [List.length_map, List.length_map, List.take_of_length_le (Nat.le_refl _)]
      rw [decide_eq_true rfl]
      exact q _ (p.2.trans p2.2)
end
end R10

namespace R11
open PySem PySem.Spec PyProof.Rows L2 R9 R10
theorem pt_never {X : Cx} {e : Expr} : PT X e (fun _ _ _ => False) := ⟨fun _ _ _ _ _ _ h => h.elim⟩
abbrev URow := Str × List Str
/-- a unit without declarations: its name and its uses -/
def UnitAt (U : Addr) (H : Hp) (u : V) (r : URow) : Prop := ∃ a dx t vs, u = .ref a ∧ SlX.Slt H a U dx vs ∧ vs[1]? = some (some (.str r.1)) ∧ vs[4]? = some (some (.ref t)) ∧ H t = some (.tup (r.2.map V.str))
theorem UnitAt.same {U : Addr} {H H' : Hp} {u : V} {r : URow} (h : UnitAt U H u r) (S : Same H H') : UnitAt U H' u r := by
  obtain ⟨a, dx, t, vs, e, hs, h1, h4, ht⟩ := h
  refine ⟨a, dx, t, vs, e, ?_, h1, h4, S _ _ ht⟩
  rcases hs with ⟨q1, q2⟩ | ⟨q1, q2⟩
  · exact .inl ⟨S _ _ q1, q2⟩
  · exact .inr ⟨S _ _ q1, S _ _ q2⟩
section
variable {P : Program} {w : World} {K : PySem.W.Frag} {mg : Str → Option Value} {base : Heap} {U : Addr}
/-- is_unit(()) -/
def spUnit : Sp := fun vs H Q _ => ∃ d : Addr, vs = [.ref d] ∧ H d = some (.tup []) ∧ ∀ H', Same H H' → Q (.bl true) H'
abbrev sUnit : Stmt := K86.top 61
theorem scUnit : FnScope ["value", "total", "declaration", "many"] ["value"] (defScope sUnit) := ⟨rfl, rfl, rfl, by decide +kernel, rfl, by decide +kernel, by decide +kernel⟩
theorem cal_unit (T : T86 K mg U) : Cal L2.CX0 P w K mg base 1 "is_unit" spUnit := by
  refine cal_of (k := 0) T.unit scUnit (fun vs H Q E ⟨z, h, _⟩ => by rw [h]; rfl) (fun _ _ _ _ _ _ us hl => match us, hl with | [_], _ => rfl) fun f cdv A outer s H vs Q E hr h => ?_
  obtain ⟨d, rfl, hd, q⟩ := h
  refine ⟨_, pss_cons (ps_if (PW.pt (pw_or (pt_not (pt_val (pe_callB call_isi (by rfl) T.isinstance (by decide +kernel) (pa_cons (pv 0) (pa_cons (pe_bltn (v := .ty "tuple") (by rfl) T.tuple (by decide +kernel) rfl) pa_nil)))))
      (pw_or1 (pt_cmpR op_gt (pe_callB call_len_seq (by rfl) T.len PySem.boot_len (pa_cons (pv 0) pa_nil)) (pe_gi (by rfl) T.gD) (nomark _))))) (pss_one (ps_ret pe_bl)) pss_nil)
    (pss_cons (ps_set (i := 1) scUnit.nd rfl (Or.inl rfl) pe_int)
    (pss_cons (ps_for PassesOwn.never rfl (pi_tup (pv 0)) (pg_name (i := 2) scUnit.nd rfl (Or.inl rfl)) pss_never)
    (pss_one (ps_ret pe_bl)))), ?_⟩
  refine ⟨_, rfl, _, _, _, _, true, rfl, ClsV.ty _, .base (.tup hd), kit_ty (by decide +kernel), _, rfl, iteF ?_⟩
  refine ⟨_, rfl, _, _, rfl, .inr (SqT.of hd), _, _, rfl, rfl, _, rfl, ?_⟩
  refine iteF ?_
  exact ⟨_, rfl, d, rfl, ⟨_, SqT.of hd⟩, for_tup (xs := []) (fun _ _ H1 => H1 = H) rfl (fun i σ H1 _ e => by rw [e]; exact SqT.of hd) (fun i x σ H1 hx => by simp at hx) fun σ H1 e => q _ (by rw [e]; exact Same.refl _)⟩
/-- Unit.__init__ on a new instance -/
def spInit (U : Addr) : Sp := fun vs H Q _ => ∃ (x dx t d : Addr) (n : Str) (us : List Str), vs = [.ref x, .str n, .ref t, .ref d, .non] ∧ H x = some (.ins U dx []) ∧ H dx = some (.own x) ∧ dx ≠ x ∧ H t = some (.tup (us.map V.str)) ∧ H d = some (.tup []) ∧
  highOk n = true ∧ us.length < 8 ∧ (∀ u ∈ us, highOk u = true) ∧ n ∉ us ∧ us.Nodup ∧ ∀ H', (∀ b o, b ≠ x → b ≠ dx → H b = some o → H' b = some o) → UnitAt U H' (.ref x) (n, us) → Q .non H'
abbrev sInit : Stmt := inClass (K86.top 70) 1
theorem scInit : FnScope ["self", "name", "uses", "declarations", "signature", "more", "one"] ["self", "name", "uses", "declarations", "signature"] (defScope sInit) := ⟨rfl, rfl, rfl, by decide +kernel, rfl, by decide +kernel, by decide +kernel⟩
theorem init_ok (T : T86 K mg U) : ∃ f fd ds, Mk K U f ∧ FnOk P w K mg base L2.CX0 4 f fd ["self", "name", "uses", "declarations", "signature"] (spInit U) ∧ Vals [V.non] ds ∧ Binds K fd ["self", "name", "uses", "declarations", "signature"] ds := by
  obtain ⟨f, fd, M, F⟩ := T.init
  obtain ⟨ds, hv, hb⟩ := F.binds0 (ps := ["self", "name", "uses", "declarations", "signature"]) 4 (by simp) rfl (fun D doc pm an cdv ct us ks h1 h2 => match us, ks, h1, h2 with | [_, _, _, _], [_], _, _ => ⟨_, _, _, _, _, _, rfl, rfl, rfl⟩)
  refine ⟨f, fd, ds, M, F.ok scInit (fun vs H Q E ⟨x, dx, t, d, n, us, h, _⟩ => by rw [h]; rfl) (fun cdv A outer s H vs Q E hr h => ?_), hv, hb⟩
  obtain ⟨x, dx, t, d, n, us, rfl, hx, hdx, ne, ht, hd, hn, h8, hh, hnu, hnd, q⟩ := h
  obtain ⟨p0, k0⟩ := T.s0
  obtain ⟨p1, k1⟩ := T.s1
  obtain ⟨p2, k2⟩ := T.s2
  obtain ⟨p3, k3⟩ := T.s3
  obtain ⟨p4, k4⟩ := T.s4
  refine ⟨_, PSs.nox (pss_cons (ps_if (PW.pt (pw_or (pt_not (pt_val (pe_c (cal_high T) hr (by decide) (by rfl) (pa_cons (pv 1) pa_nil))))
      (pw_or (pt_not (pt_val (pe_c (cal_are T) hr (by decide) (by rfl) (pa_cons (pv 2) (pa_cons (pv 1) pa_nil)))))
        (pw_or1 (pt_not (pt_val (pe_c (cal_unit T) hr (by decide) (by rfl) (pa_cons (pv 3) pa_nil)))))))) pss_never pss_nil)
    (pss_cons (ps_if (PW.pt (pw_and (pt_cmpR op_notN (pv 4) pe_non (nomark _)) (pw_and1 pt_never))) pss_never pss_nil)
    (pss_cons (SlX.ps_sl (pv 0) (pv 1)) (pss_cons (SlX.ps_sl (pv 0) (pv 2)) (pss_cons (SlX.ps_sl (pv 0) (pv 3)) (pss_cons (SlX.ps_sl (pv 0) (pv 4))
    (pss_cons (ps_set (i := 5) scInit.nd rfl (Or.inl rfl) (pe_ifExp (pt_cmpR op_isN (pv 4) pe_non (nomark _)) (pe_lst pa_nil) pe_never))
    (pss_one (SlX.ps_sl (pv 0) (pe_callB (cr_sum rfl) (by rfl) T.sum (by decide +kernel) (pa_cons (pe_lc (own := [("one", 6)]) (g := gName 6) (tt := tYes) rfl scInit.nd (pi_tup (pe_tup (StX.pa_star (pv 3) (StX.pa_star (pv 5) pa_nil))))
      (blkOk_by (N := ["self", "name", "uses", "declarations", "signature", "more", "one"]) (sc := defScope sInit) (by decide +kernel))
      (fun _ _ _ _ _ => pg_name (i := 6) scInit.nd rfl (Or.inl rfl)) (fun _ _ _ _ _ => pts_nil) (fun _ _ _ _ _ => pe_never)) pa_nil))))))))))), ?_⟩
  refine ⟨_, rfl, n, rfl, hn, fun H1 S1 => ⟨_, rfl, iteF ?_⟩⟩
  refine ⟨_, rfl, _, rfl, t, us, n, rfl, S1 _ _ ht, h8, hh, hnu, hnd, fun H2 S2 => ⟨_, rfl, iteF ?_⟩⟩
  refine ⟨_, rfl, d, rfl, S2 _ _ (S1 _ _ hd), fun H3 S3 => ⟨_, rfl, iteF ?_⟩⟩
  have S : Same H H3 := (S1.trans S2).trans S3
  refine ⟨_, rfl, rfl, _, rfl, iteF ?_⟩
  have nt : ∀ {b : Addr} {ys : List V}, H3 b = some (.tup ys) → b ≠ x ∧ b ≠ dx := fun {b ys} e => ⟨fun z => (by rw [z, S _ _ hx] at e; cases e), fun z => (by rw [z, S _ _ hdx] at e; cases e)⟩
  refine ⟨_, rfl, _, rfl, x, U, dx, p1, [], 1, rfl, .inl ⟨S _ _ hx, rfl⟩, T.sc, k1, ?_⟩
  refine ⟨_, rfl, _, rfl, x, U, dx, p4, _, 4, rfl, SlX.slH_slt ne, T.sc, k4, ?_⟩
  rw [SlX.slH_twice ne]
  refine ⟨_, rfl, _, rfl, x, U, dx, p0, _, 0, rfl, SlX.slH_slt ne, T.sc, k0, ?_⟩
  rw [SlX.slH_twice ne]
  refine ⟨_, rfl, _, rfl, x, U, dx, p3, _, 3, rfl, SlX.slH_slt ne, T.sc, k3, ?_⟩
  rw [SlX.slH_twice ne]
  have g1 : (SlX.putS 3 V.non (SlX.putS 0 (V.ref d) (SlX.putS 4 (V.ref t) (SlX.putS 1 (V.str n) []))))[1]? = some (some (V.str n)) := rfl
  have g4 : (SlX.putS 3 V.non (SlX.putS 0 (V.ref d) (SlX.putS 4 (V.ref t) (SlX.putS 1 (V.str n) []))))[4]? = some (some (V.ref t)) := rfl
  have hG : ∃ G, G = SlX.slH H3 x U dx (SlX.putS 3 V.non (SlX.putS 0 (V.ref d) (SlX.putS 4 (V.ref t) (SlX.putS 1 (V.str n) [])))) := ⟨_, rfl⟩
  obtain ⟨G, eG⟩ := hG
  have sG := SlX.slH_slt (H := H3) (C := U) (vs := SlX.putS 3 V.non (SlX.putS 0 (V.ref d) (SlX.putS 4 (V.ref t) (SlX.putS 1 (V.str n) [])))) ne
  have gx : G x ≠ none := by
    rw [eG]
    unfold SlX.slH
    rw [upd_same]
    exact fun z => nomatch z
  have gdx : G dx ≠ none := by
    rw [eG]
    unfold SlX.slH
    rw [upd_ne ne, upd_same]
    exact fun z => nomatch z
  have kG : ∀ b o, b ≠ x → b ≠ dx → H b = some o → G b = some o := fun b o h1 h2 e => by
    rw [eG, SlX.slH_ne h1 h2]
    exact S _ _ e
  have htG : G t = some (.tup (us.map V.str)) := kG _ _ (nt (S _ _ ht)).1 (nt (S _ _ ht)).2 ht
  have hdG : G d = some (.tup []) := kG _ _ (nt (S _ _ hd)).1 (nt (S _ _ hd)).2 hd
  generalize (SlX.putS 3 V.non (SlX.putS 0 (V.ref d) (SlX.putS 4 (V.ref t) (SlX.putS 1 (V.str n) [])))) = VS at *
  rw [← eG] at sG ⊢
  refine ⟨_, rfl, rfl, _, rfl, iteT ⟨by decide, fun m hm => ?_⟩⟩
  have e1 : Same G (upd G m (.lst [])) := same_upd hm
  refine ⟨V.ref d, rfl, d, [], rfl, .inl (SqT.of (e1 _ _ hdG)), _, rfl, m, [], rfl, .inr (SqL.of upd_same), by decide, fun y hy => ?_⟩
  have e2 : Same G (upd (upd G m (.lst [])) y (.tup [])) := e1.trans (same_upd hy)
  refine ⟨y, rfl, ⟨_, SqT.of upd_same⟩, fun D hD => lc_tup (xs := []) (te := fun _ _ _ => False) (tt := tYes) (g := gName 6) (fun _ H4 => H4 = upd (upd (upd G m (.lst [])) y (.tup [])) D (.lst [])) rfl (fun i H4 _ e => ?_) (fun i z H4 hz => by simp at hz) fun H4 e => ?_⟩
  · rw [e]
    exact SqT.of ((same_upd hD) _ _ upd_same)
  · have e3 : Same G H4 := by
      rw [e]
      exact e2.trans (same_upd hD)
    refine ⟨D, [], rfl, SqL.of (by rw [e]; exact upd_same), ?_⟩
    have s3 : SlX.Slt H4 x U dx VS := by
      rcases sG with ⟨q1, q2⟩ | ⟨q1, q2⟩
      · exact .inl ⟨e3 _ _ q1, q2⟩
      · exact .inr ⟨e3 _ _ q1, e3 _ _ q2⟩
    refine ⟨_, rfl, x, U, dx, p2, VS, 2, rfl, s3, T.sc, k2, ?_⟩
    refine q _ (fun b o h1 h2 e => ?_) ⟨x, dx, t, _, rfl, SlX.slH_slt ne, ?_, ?_, ?_⟩
    · rw [SlX.slH_ne h1 h2]
      exact e3 _ _ (kG b o h1 h2 e)
    · exact (SlX.putS_ne (by decide)).mpr g1
    · exact (SlX.putS_ne (by decide)).mpr g4
    · rw [SlX.slH_ne (nt (S _ _ ht)).1 (nt (S _ _ ht)).2]
      exact e3 _ _ htG
end
end R11

namespace R12
open PySem PySem.Spec PyProof.Rows L2 R9 R10 R11
abbrev UnitsAt (U : Addr) (H : Hp) : List V → List URow → Prop := Paired (UnitAt U H)
theorem UnitsAt.same {U : Addr} {H H' : Hp} (S : Same H H') : ∀ {us : List V} {rows : List URow}, UnitsAt U H us rows → UnitsAt U H' us rows
  | _, _, .nil => .nil
  | _, _, .cons h t => .cons (h.same S) (UnitsAt.same S t)
theorem paired_at {α β : Type} {F : α → β → Prop} : ∀ {l : List α} {m : List β} {i : Nat} {a : α}, Paired F l m → l[i]? = some a → ∃ b, m[i]? = some b ∧ F a b
  | _, _, i, a, .nil, h => by simp at h
  | _, _, 0, a, .cons h t, e => by
    simp at e
    subst e
    exact ⟨_, rfl, h⟩
  | _, _, i + 1, a, .cons h t, e => by
    obtain ⟨b, q, r⟩ := paired_at (i := i) t (by simpa using e)
    exact ⟨b, by simpa using q, r⟩
/-- a dict from names to units: the first of each name -/
def Known (U : Addr) (H : Hp) (d : Addr) (rows : List URow) : Prop := ∃ kvs, H d = some (.dK kvs) ∧ kvs.length ≤ rows.length ∧
  ∀ n : Str, (KM.usesOf rows n = none → valV kvs (.inr n) = none) ∧ ∀ ws, KM.usesOf rows n = some ws → ∃ u, valV kvs (.inr n) = some u ∧ UnitAt U H u (n, ws)
theorem Known.same {U d : Addr} {H H' : Hp} {rows : List URow} (S : Same H H') (k : Known U H d rows) : Known U H' d rows := by
  obtain ⟨kvs, h1, h2, h3⟩ := k
  refine ⟨kvs, S _ _ h1, h2, fun n => ⟨(h3 n).1, fun ws e => ?_⟩⟩
  obtain ⟨u, q, r⟩ := (h3 n).2 ws e
  exact ⟨u, q, r.same S⟩
theorem usesOf_snoc {rows : List URow} {r : URow} {n : Str} : KM.usesOf (rows ++ [r]) n = (KM.usesOf rows n).or (if n = r.1 then some r.2 else none) := by
  unfold KM.usesOf
  induction rows with
  | nil =>
    obtain ⟨a, b⟩ := r
    rw [List.nil_append, List.lookup_cons]
    by_cases e : n = a
    · subst e
      simp
    · have e' : (n == a) = false := by simpa using e
      rw [e', if_neg e]
      rfl
  | cons q qs ih =>
    obtain ⟨a, b⟩ := q
    rw [List.cons_append, List.lookup_cons, List.lookup_cons, ih]
    cases (n == a) <;> rfl
section
variable {P : Program} {w : World} {K : PySem.W.Frag} {mg : Str → Option Value} {base : Heap} {U : Addr}
theorem rdName (T : T86 K mg U) {H : Hp} {u : V} {r : URow} (h : UnitAt U H u r) :
    ∃ a dx p vs, u = .ref a ∧ SlX.Slt H a U dx vs ∧ SlX.SCls K U ∧ SlX.Slot1 K U "own_name" p 1 ∧ vs[1]? = some (some (.str r.1)) := by
  obtain ⟨a, dx, t, vs, e, hs, h1, h4, ht⟩ := h
  obtain ⟨p, k⟩ := T.s1
  exact ⟨a, dx, p, vs, e, hs, T.sc, k, h1⟩
theorem rdUses (T : T86 K mg U) {H : Hp} {u : V} {r : URow} (h : UnitAt U H u r) :
    ∃ a dx p vs t, u = .ref a ∧ SlX.Slt H a U dx vs ∧ SlX.SCls K U ∧ SlX.Slot1 K U "own_uses" p 4 ∧ vs[4]? = some (some (.ref t)) ∧ H t = some (.tup (r.2.map V.str)) := by
  obtain ⟨a, dx, t, vs, e, hs, h1, h4, ht⟩ := h
  obtain ⟨p, k⟩ := T.s4
  exact ⟨a, dx, p, vs, t, e, hs, T.sc, k, h4, ht⟩
/-! ### first_by_name -/
def spFirst (U : Addr) : Sp := fun vs H Q _ => ∃ (t : Addr) (us : List V) (rows : List URow), vs = [.ref t] ∧ H t = some (.tup us) ∧ UnitsAt U H us rows ∧ rows.length ≤ 8 ∧
  ∀ H' p, Same H H' → H p = none → Known U H' p rows → Q (.ref p) H'
abbrev sFirst : Stmt := K86.top 72
theorem scFirst : FnScope ["units", "found", "unit"] ["units"] (defScope sFirst) := ⟨rfl, rfl, rfl, by decide +kernel, rfl, by decide +kernel, by decide +kernel⟩
theorem cal_first (T : T86 K mg U) : Cal L2.CX0 P w K mg base 1 "first_by_name" (spFirst U) := by
  refine cal_of (k := 0) T.first scFirst (fun vs H Q E ⟨_, _, _, h, _⟩ => by rw [h]; rfl) (fun _ _ _ _ _ _ us hl => match us, hl with | [_], _ => rfl) fun f cdv A outer s H vs Q E hr h => ?_
  obtain ⟨t, us, rows, rfl, ht, hu, h8, q⟩ := h
  refine ⟨_, pss_cons (ps_set (i := 1) scFirst.nd rfl (Or.inl rfl) pe_dnewK)
    (pss_cons (ps_for PassesOwn.never rfl (pi_tup (pv 0)) (pg_name (i := 2) scFirst.nd rfl (Or.inl rfl)) (pss_one (ps_expr (pe_dsetd (pv 1) (SlX.pe_sl (pv 2)) (pv 2) ⟨rfl, rfl, rfl, rfl⟩))))
    (pss_one (ps_ret (pv 1)))), ?_⟩
  have lus : us.length = rows.length := hu.length
  refine fun p hp => ⟨_, rfl, t, rfl, ⟨us, SqT.of (same_upd hp _ _ ht)⟩, for_tup (xs := us) (fun i σ H1 => (∃ o, σ = [some (.ref t), some (.ref p), o]) ∧ Same H H1 ∧ Known U H1 p (rows.take i)) ⟨⟨_, rfl⟩, same_upd hp, [], upd_same, by simp, fun n => ⟨fun _ => rfl, fun ws e => by cases e⟩⟩
    (fun i σ H1 _ p1 => SqT.of (p1.2.1 _ _ ht)) (fun i x σ H1 hx p1 => ?_) fun σ H1 p1 => ?_⟩
  · obtain ⟨⟨o, rfl⟩, S, kvs, hk, hkl, hkn⟩ := p1
    obtain ⟨r, hr', hur⟩ := paired_at hu hx
    have tk : rows.take (i + 1) = rows.take i ++ [r] := by rw [List.take_add_one, hr']; rfl
    have il : i < rows.length := (List.getElem?_eq_some_iff.mp hr').1
    have ltk : (rows.take i).length = i := by rw [List.length_take]; omega
    refine ⟨_, rfl, p, rfl, .inl ⟨kvs, Rd.of hk⟩, _, rfl, ?_⟩
    obtain ⟨an, dn, pn, vn, en, n1, n2, n3, n4⟩ := rdName T (hur.same S)
    refine ⟨an, U, dn, pn, vn, 1, _, en, n1, n2, n3, n4, ?_⟩
    refine ⟨x, rfl, kvs, .inr r.1, hk, rfl, ?_, fun v hv => ?_, fun hv => ?_⟩
    · exact Nat.lt_of_le_of_lt hkl (Nat.lt_of_le_of_lt (by rw [ltk]; omega) (show 8 < sizeLine by decide))
    · refine ⟨⟨_, rfl⟩, S, kvs, hk, ?_, fun n => ?_⟩
      · rw [tk, List.length_append]
        exact Nat.le_trans hkl (Nat.le_add_right _ _)
      · rw [tk, usesOf_snoc]
        have hs : ∃ ws, KM.usesOf (rows.take i) r.1 = some ws := by
          cases e : KM.usesOf (rows.take i) r.1 with
          | some ws => exact ⟨ws, rfl⟩
          | none =>
            rw [(hkn r.1).1 e] at hv
            cases hv
        obtain ⟨ws0, hws0⟩ := hs
        cases e : KM.usesOf (rows.take i) n with
        | some ws =>
          refine ⟨fun z => (by cases z), fun ws' z => ?_⟩
          cases z
          exact (hkn n).2 ws e
        | none =>
          have nn : ¬ n = r.1 := fun z => by
            rw [z, hws0] at e
            cases e
          rw [if_neg nn]
          exact ⟨fun _ => (hkn n).1 e, fun ws' z => by cases z⟩
    · have S2 : Same H1 (upd H1 p (.dK (putK kvs (Sum.inr r.1) x))) → True := fun _ => trivial
      have keep : ∀ {u : V} {r' : URow}, UnitAt U H1 u r' → UnitAt U (upd H1 p (.dK (putK kvs (Sum.inr r.1) x))) u r' := fun {u r'} hq => by
        obtain ⟨a, dx, t', vs, e, hs, h1, h4, ht'⟩ := hq
        have hn : ∀ {b : Addr} {o : HO}, H1 b = some o → (∀ k, o ≠ .dK k) → upd H1 p (.dK (putK kvs (Sum.inr r.1) x)) b = some o := fun {b o} e1 e2 => by
          rw [upd_ne (fun z => by rw [z, hk] at e1; exact e2 kvs (Option.some.inj e1).symm)]
          exact e1
        refine ⟨a, dx, t', vs, e, ?_, h1, h4, hn ht' (fun _ z => by cases z)⟩
        rcases hs with ⟨q1, q2⟩ | ⟨q1, q2⟩
        · exact .inl ⟨hn q1 (fun _ z => by cases z), q2⟩
        · exact .inr ⟨hn q1 (fun _ z => by unfold SlX.SlO at z; cases z), hn q2 (fun _ z => by cases z)⟩
      have hno : KM.usesOf (rows.take i) r.1 = none := by
        cases e : KM.usesOf (rows.take i) r.1 with
        | none => rfl
        | some ws =>
          obtain ⟨u, q1, _⟩ := (hkn r.1).2 ws e
          rw [q1] at hv
          cases hv
      refine ⟨⟨_, rfl⟩, same_updS hp S, _, upd_same, ?_, fun n => ?_⟩
      · rw [tk, List.length_append]
        exact Nat.le_trans (length_putK _ _ _) (Nat.succ_le_succ hkl)
      · rw [tk, usesOf_snoc]
        by_cases e : n = r.1
        · subst e
          rw [hno, if_pos rfl, valV_put, if_pos rfl]
          refine ⟨fun z => (by cases z), fun ws z => ?_⟩
          cases z
          exact ⟨x, rfl, keep (hur.same S)⟩
        · rw [if_neg e, valV_put, if_neg (fun z => e (Sum.inr.inj z)), Option.or_none]
          refine ⟨(hkn n).1, fun ws z => ?_⟩
          obtain ⟨u, q1, q2⟩ := (hkn n).2 ws z
          exact ⟨u, q1, keep q2⟩
  · obtain ⟨⟨o, rfl⟩, S, k⟩ := p1
    rw [List.take_of_length_le (by omega)] at k
    exact ⟨_, rfl, q _ p S hp k⟩
end
end R12

namespace R12
open PySem PySem.Spec PyProof.Rows L2
/-- xs != [], xs == [] -/
def rNil (K : PySem.W.Frag) (ne : Bool) : R2 := fun x y H Q => ∃ a b xs, x = .ref a ∧ y = .ref b ∧ SqL K H a xs ∧ SqL K H b [] ∧ Q (.bl (if ne then !xs.isEmpty else xs.isEmpty)) H
theorem op_ne_nil {X : Cx} (hu : X.A.units + 64 < cLine) : OpR X (compareOp .NotEq) (rNil X.K true) := by
  intro pins s σ H x y v u Q I rx ry h
  obtain ⟨a, b, xs, rfl, rfl, ha, hb, q⟩ := h
  cases xs with
  | nil => exact op_neD hu pins s σ H _ _ v u Q I rx ry ⟨.list [], .list [], .lst ha .nil, .lst hb .nil, rfl, rfl, q⟩
  | cons z zs =>
    obtain rfl : v = Value.ref a := rx
    obtain rfl : u = Value.ref b := ry
    obtain ⟨i1, r1, l1, _⟩ := I.list ha
    obtain ⟨i2, r2, l2, _⟩ := I.list hb
    cases r1 with
    | @cons _ u0 _ us ra rr =>
      cases r2
      exact SeqAt.RcNeAt.lists_lengths l1.isList l2.isList (by simp) (by omega) _ _ _ _ ⟨.bl true, H, I, rfl, q⟩
theorem op_eq_nil {X : Cx} (hu : X.A.units + 64 < cLine) : OpR X (compareOp .Eq) (rNil X.K false) := by
  intro pins s σ H x y v u Q I rx ry h
  obtain ⟨a, b, xs, rfl, rfl, ha, hb, q⟩ := h
  cases xs with
  | nil => exact op_eqD hu pins s σ H _ _ v u Q I rx ry ⟨.list [], .list [], .lst ha .nil, .lst hb .nil, rfl, rfl, q⟩
  | cons z zs =>
    obtain rfl : v = Value.ref a := rx
    obtain rfl : u = Value.ref b := ry
    obtain ⟨i1, r1, l1, _⟩ := I.list ha
    obtain ⟨i2, r2, l2, _⟩ := I.list hb
    cases r1 with
    | @cons _ u0 _ us ra rr =>
      cases r2
      exact SeqAt.eq_list_lengthsAt l1.isList l2.isList (by simp) (by omega) ⟨.bl false, H, I, rfl, q⟩
end R12

namespace R13
open PySem PySem.Spec PyProof.Rows L2 R9 R10 R11 R12
def foundK (f : List Str) : List (Key × V) := f.map fun x => (Sum.inr x, V.bl true)
theorem foundK_in {f : List Str} {x : Str} : (valV (foundK f) (.inr x)).isSome = decide (x ∈ f) := by
  unfold foundK
  induction f with
  | nil => rfl
  | cons a l ih =>
    rw [List.map_cons]
    by_cases e : a = x
    · rw [valV_pos (p := (Sum.inr a, V.bl true)) (by rw [e]), decide_eq_true (by rw [e]; exact List.mem_cons_self)]
      rfl
    · rw [valV_neg (p := (Sum.inr a, V.bl true)) (fun z => e (Sum.inr.inj z)), ih]
      by_cases h : x ∈ l
      · rw [decide_eq_true h, decide_eq_true (List.mem_cons_of_mem _ h)]
      · rw [decide_eq_false h, decide_eq_false]
        intro z
        rcases List.mem_cons.mp z with z | z
        · exact e z.symm
        · exact h z
theorem foundK_put {f : List Str} {x : Str} (h : x ∉ f) : putK (foundK f) (.inr x) (.bl true) = foundK (f ++ [x]) := by
  have e : valV (foundK f) (.inr x) = none := by
    have q := foundK_in (f := f) (x := x)
    rw [decide_eq_false h] at q
    cases z : valV (foundK f) (.inr x) with
    | none => rfl
    | some v => rw [z] at q; cases q
  rw [putK_new _ e]
  unfold foundK
  rw [List.map_append]
  rfl
section
variable {P : Program} {w : World} {K : PySem.W.Frag} {mg : Str → Option Value} {base : Heap} {U : Addr}
/-- uses_itself(unit, known) -/
def spUsesI (U : Addr) : Sp := fun vs H Q _ => ∃ (u : V) (d : Addr) (r : URow) (rows : List URow), vs = [u, .ref d] ∧ UnitAt U H u r ∧ Known U H d rows ∧ KM.Short rows ∧ rows.length ≤ 8 ∧ r.2.length ≤ 7 ∧
  ∀ H', Same H H' → Q (.bl (KM.ui rows r.1 (KM.meas rows r.2 []) r.2 [])) H'
abbrev sUsesI : Stmt := K86.top 73
theorem scUsesI : FnScope ["unit", "known", "waiting", "seen", "name"] ["unit", "known"] (defScope sUsesI) := ⟨rfl, rfl, rfl, by decide +kernel, rfl, by decide +kernel, by decide +kernel⟩
theorem missing_le {rows : List URow} {f : List Str} : KM.missing rows f ≤ rows.length := List.length_filter_le _ _
theorem cal_usesI (T : T86 K mg U) : Cal L2.CX0 P w K mg base 1 "uses_itself" (spUsesI U) := by
  refine cal_of (k := 0) T.usesI scUsesI (fun vs H Q E ⟨_, _, _, _, h, _⟩ => by rw [h]; rfl) (fun _ _ _ _ _ _ us hl => match us, hl with | [_, _], _ => rfl) fun f cdv A outer s H vs Q E hr h => ?_
  obtain ⟨u, d, r, rows, rfl, hu, hk, hsh, h8, h7, q⟩ := h
  refine ⟨_, pss_cons (ps_par (i := 2) (j := 3) rfl scUsesI.nd rfl rfl (by decide) rfl rfl (pa_cons (pe_callTy call_list_of (by rfl) T.list (by decide +kernel) (pa_cons (SlX.pe_sl (pv 0)) pa_nil)) (pa_cons pe_dnewK pa_nil)) (by rfl))
    (pss_cons (ps_while PassesOwn.never (pt_cmpR (op_ne_nil hr.units) (pv 2) (pe_lst pa_nil) (nomark _))
      (pss_cons (ps_set (i := 4) scUsesI.nd rfl (Or.inl rfl) (pe_bm0 PySem.F.plainAttrs_list PySem.F.slot_list_pop PySem.F.type_list_pop mt_pop (pv 2)))
      (pss_cons (ps_if (pt_cmpR op_eq (pv 4) (SlX.pe_sl (pv 0)) (nomark _)) (pss_one (ps_ret pe_bl)) pss_nil)
      (pss_one (ps_if (PW.pt (pw_and (pt_cmp (pc_din (hu_of hr) (pv 4) (pv 1))) (pw_and1 (pt_cmp (pc_dnotin (hu_of hr) (pv 4) (pv 3))))))
        (pss_cons (ps_dput (hu_of hr) (pv 3) (pv 4) pe_bl rfl)
        (pss_one (ps_expr (pe_bm PySem.F.plainAttrs_list PySem.F.slot_list_extend PySem.F.type_list_extend mt_extend (pv 2)
          (pa_cons (pe_callTy call_list_of (by rfl) T.list (by decide +kernel) (pa_cons (SlX.pe_sl (pe_dget (hu_of hr) (pv 1) (pv 4) (fun _ _ => rfl))) pa_nil)) pa_nil))))) pss_nil)))))
    (pss_one (ps_ret pe_bl))), ?_⟩
  refine ⟨_, rfl, ?_⟩
  obtain ⟨au, du, pu, vu, tu, eu, u1, u2, u3, u4, u5⟩ := rdUses T hu
  refine ⟨au, U, du, pu, vu, 4, _, eu, u1, u2, u3, u4, tu, _, rfl, .inr (SqT.of u5), fun l hl => ?_⟩
  refine fun sd hsd => ⟨_, _, rfl, ?_⟩
  have lsd : sd ≠ l := Ne.symm (ne_of_none upd_same hsd)
  have hsdH : H sd = none := by
    rw [upd_ne lsd] at hsd
    exact hsd
  have hM : KM.meas rows r.2 [] ≤ 100 := by
    unfold KM.meas
    have := missing_le (rows := rows) (f := [])
    omega
  generalize hR : KM.ui rows r.1 (KM.meas rows r.2 []) r.2 [] = R at q
  refine ⟨fun m σ H1 => (∃ o, σ = [some u, some (.ref d), some (.ref l), some (.ref sd), o]) ∧ Same H H1 ∧ m ≤ 100 ∧ ∃ ws f, H1 l = some (.lst (ws.map V.str)) ∧ H1 sd = some (.dK (foundK f)) ∧ KM.meas rows ws f ≤ m ∧ f.length + KM.missing rows f ≤ 8 ∧ KM.ui rows r.1 m ws f = R, ⟨KM.meas rows r.2 [], ⟨_, rfl⟩, same_updS hsdH (same_upd hl), hM, r.2, [], by rw [upd_ne lsd.symm]; exact upd_same, upd_same, Nat.le_refl _, by have := missing_le (rows := rows) (f := []); rw [List.length_nil]; omega, hR⟩, fun m σ H1 p => ?_⟩
  obtain ⟨⟨o, rfl⟩, S, hm, ws, f, hw, hs, hme, hfl, hui⟩ := p
  refine ⟨_, rfl, by decide, fun z hz => ⟨l, z, ws.map V.str, rfl, rfl, SqL.of (by rw [upd_ne (ne_of_none hw hz)]; exact hw), SqL.of upd_same, _, rfl, ?_⟩⟩
  have hw1 : upd H1 z (.lst []) l = some (.lst (ws.map V.str)) := by rw [upd_ne (ne_of_none hw hz)]; exact hw
  have hs1 : upd H1 z (.lst []) sd = some (.dK (foundK f)) := by rw [upd_ne (ne_of_none hs hz)]; exact hs
  have S1 : Same H (upd H1 z (.lst [])) := S.trans (same_upd hz)
  generalize upd H1 z (.lst []) = H2 at hw1 hs1 S1
  have hwl : ws.length ≤ m := Nat.le_trans (by unfold KM.meas; omega) hme
  show (if (if true = true then !(ws.map V.str).isEmpty else (ws.map V.str).isEmpty) = true then _ else _)
  rw [if_pos rfl]
  cases hlast : ws.getLast? with
  | none =>
    have e : ws = [] := List.getLast?_eq_none_iff.mp hlast
    subst e
    refine iteF ?_
    have e2 : KM.ui rows r.1 m [] f = false := by cases m <;> rfl
    rw [e2] at hui
    show Q (.bl false) H2
    rw [hui]
    exact q _ S1
  | some x =>
    have hne : ws ≠ [] := fun z => by rw [z] at hlast; cases hlast
    have hemp : (!(ws.map V.str).isEmpty) = true := by
      cases ws with
      | nil => exact absurd rfl hne
      | cons a l => rfl
    rw [if_pos hemp]
    have hpos : 0 < ws.length := List.length_pos_iff.mpr hne
    obtain ⟨n, rfl⟩ : ∃ n, m = n + 1 := ⟨m - 1, by omega⟩
    have hx : (ws.map V.str)[(ws.map V.str).length - 1]? = some (.str x) := by
      rw [List.length_map, List.getElem?_map, ← List.getLast?_eq_getElem?, hlast]
      rfl
    refine ⟨fun σ' H' => (∃ o, σ' = [some u, some (.ref d), some (.ref l), some (.ref sd), o]) ∧ Same H H' ∧ n ≤ 100 ∧ ∃ ws f, H' l = some (.lst (ws.map V.str)) ∧ H' sd = some (.dK (foundK f)) ∧ KM.meas rows ws f ≤ n ∧ f.length + KM.missing rows f ≤ 8 ∧ KM.ui rows r.1 n ws f = R, fun σ' H' p => ⟨n, Nat.lt_succ_self _, p⟩, ?_⟩
    refine ⟨_, rfl, .inl ⟨rfl, _, SqL.of hw1⟩, l, _, .str x, rfl, rfl, hw1, hx, ?_⟩
    have S3 : Same H (upd H2 l (.lst (ws.map V.str).dropLast)) := same_updS hl S1
    have hw3 : upd H2 l (.lst (ws.map V.str).dropLast) l = some (.lst (ws.dropLast.map V.str)) := by rw [upd_same, List.map_dropLast]
    have hs3 : upd H2 l (.lst (ws.map V.str).dropLast) sd = some (.dK (foundK f)) := by rw [upd_ne lsd]; exact hs1
    generalize upd H2 l (.lst (ws.map V.str).dropLast) = H3 at hw3 hs3 S3
    obtain ⟨an, dn, pn, vn, en, n1, n2, n3, n4⟩ := rdName T (hu.same S3)
    refine ⟨_, rfl, _, rfl, an, U, dn, pn, vn, 1, _, en, n1, n2, n3, n4, rfl, _, rfl, ?_⟩
    unfold KM.ui at hui
    rw [hlast] at hui
    dsimp only at hui
    by_cases hxr : x = r.1
    · rw [if_pos hxr] at hui
      rw [decide_eq_true (show V.str x = V.str r.1 by rw [hxr]), if_pos rfl]
      show Q (.bl true) H3
      rw [hui]
      exact q _ S3
    · rw [if_neg hxr] at hui
      rw [decide_eq_false (show ¬ V.str x = V.str r.1 from fun z => hxr (V.str.inj z)), if_neg Bool.false_ne_true]
      obtain ⟨kvs, k1, k2, k3⟩ := hk.same S3
      have hdl : ws.dropLast.length + 1 = ws.length := by rw [List.length_dropLast]; omega
      refine ⟨_, rfl, _, rfl, d, _, rfl, DGet.k (k := Sum.inr x) k1, _, rfl, ?_⟩
      cases eu : KM.usesOf rows x with
      | none =>
        rw [eu] at hui
        rw [(k3 x).1 eu]
        refine iteF ?_
        refine iteF ?_
        exact ⟨⟨_, rfl⟩, S3, by omega, ws.dropLast, f, hw3, hs3, by unfold KM.meas at hme ⊢; omega, hfl, hui⟩
      | some us =>
        rw [eu] at hui
        dsimp only at hui
        obtain ⟨ux, g1, g2⟩ := (k3 x).2 us eu
        rw [g1]
        refine iteT ⟨_, rfl, _, rfl, sd, _, rfl, DGet.k (k := Sum.inr x) hs3, _, rfl, ?_⟩
        rw [foundK_in]
        by_cases hf : x ∈ f
        · rw [if_pos hf] at hui
          rw [decide_eq_true hf]
          refine iteF ?_
          exact ⟨⟨_, rfl⟩, S3, by omega, ws.dropLast, f, hw3, hs3, by unfold KM.meas at hme ⊢; omega, hfl, hui⟩
        · rw [if_neg hf] at hui
          rw [decide_eq_false hf]
          refine iteT ?_
          have us7 := hsh.of eu
          have hmiss := KM.missing_less eu hf
          have fl : (foundK f).length < sizeLine := by
            unfold foundK
            rw [List.length_map]
            exact Nat.lt_of_le_of_lt (show _ ≤ 8 by omega) (by decide)
          refine ⟨_, rfl, _, rfl, sd, _, rfl, DPut.k (k := Sum.inr x) hs3 fl, ?_⟩
          rw [foundK_put hf]
          have hw4 : upd H3 sd (.dK (foundK (f ++ [x]))) l = some (.lst (ws.dropLast.map V.str)) := by rw [upd_ne lsd.symm]; exact hw3
          have hs4 : upd H3 sd (.dK (foundK (f ++ [x]))) sd = some (.dK (foundK (f ++ [x]))) := upd_same
          have S4 : Same H (upd H3 sd (.dK (foundK (f ++ [x])))) := same_updS hsdH S3
          generalize upd H3 sd (.dK (foundK (f ++ [x]))) = H4 at hw4 hs4 S4
          obtain ⟨kvs', k1', k2', k3'⟩ := hk.same S4
          obtain ⟨ux', g1', g2'⟩ := (k3' x).2 us eu
          obtain ⟨a5, d5, p5, v5, t5, e5, q1, q2, q3, q4, q5⟩ := rdUses T g2'
          refine ⟨_, rfl, .inl ⟨rfl, _, SqL.of hw4⟩, _, rfl, _, rfl, d, _, rfl, ?_, a5, U, d5, p5, v5, 4, _, e5, q1, q2, q3, q4, t5, _, rfl, .inr (SqT.of q5), fun y hy => ?_⟩
          · rw [← g1']
            exact DGet.k (k := Sum.inr x) k1'
          · refine ⟨l, y, _, _, rfl, rfl, by rw [upd_ne (ne_of_none hw4 hy)]; exact hw4, upd_same, ?_, ?_⟩
            · simp only [List.length_map]
              exact Nat.le_trans (show _ ≤ 200 by omega) (by decide)
            · have yl : l ≠ y := ne_of_none hw4 hy
              refine ⟨⟨_, rfl⟩, same_updS hl (S4.trans (same_upd hy)), by omega, ws.dropLast ++ us, f ++ [x], by rw [upd_same, List.map_append], by rw [upd_ne lsd, upd_ne (ne_of_none hs4 hy)]; exact hs4, ?_, by rw [List.length_append, List.length_singleton]; omega, hui⟩
              unfold KM.meas at hme ⊢
              rw [List.length_append]
              omega
end
end R13

namespace R14
open PySem PySem.Spec PyProof.Rows L2 R9 R10 R11 R12 R13
/-- the law's table: names and the tuples of their uses -/
def Table (H : Hp) (d : Addr) (rows : List URow) : Prop := ∃ kvs, H d = some (.dK kvs) ∧
  ∀ n : Str, (KM.usesOf rows n = none → valV kvs (.inr n) = none) ∧ ∀ ws, KM.usesOf rows n = some ws → ∃ t, valV kvs (.inr n) = some (.ref t) ∧ H t = some (.tup (ws.map V.str))
theorem Table.same {d : Addr} {H H' : Hp} {rows : List URow} (S : Same H H') (k : Table H d rows) : Table H' d rows := by
  obtain ⟨kvs, h1, h3⟩ := k
  refine ⟨kvs, S _ _ h1, fun n => ⟨(h3 n).1, fun ws e => ?_⟩⟩
  obtain ⟨u, q, r⟩ := (h3 n).2 ws e
  exact ⟨u, q, S _ _ r⟩
section
variable {P : Program} {w : World} {K : PySem.W.Frag} {mg : Str → Option Value} {base : Heap} {U : Addr}
def spComes : Sp := fun vs H Q _ => ∃ (d : Addr) (n : Str) (us0 : List Str) (rows : List URow), vs = [.ref d, .str n] ∧ Table H d rows ∧ KM.Short rows ∧ rows.length ≤ 8 ∧ KM.usesOf rows n = some us0 ∧
  ∀ H', Same H H' → Q (.bl (decide (n ∈ KM.cb rows (KM.meas rows us0 []) us0 []))) H'
abbrev sComes : Stmt := K86.top 84
theorem scComes : FnScope ["_law_table", "_law_name", "_law_found", "_law_waiting", "_law_one"] ["_law_table", "_law_name"] (defScope sComes) := ⟨rfl, rfl, rfl, by decide +kernel, rfl, by decide +kernel, by decide +kernel⟩
theorem cal_comes (T : T86 K mg U) : Cal L2.CX0 P w K mg base 1 "_law_comes_back" spComes := by
  refine cal_of (k := 0) T.comes scComes (fun vs H Q E ⟨_, _, _, _, h, _⟩ => by rw [h]; rfl) (fun _ _ _ _ _ _ us hl => match us, hl with | [_, _], _ => rfl) fun f cdv A outer s H vs Q E hr h => ?_
  obtain ⟨d, nm, us0, rows, rfl, hk, hsh, h8, h0, q⟩ := h
  refine ⟨_, pss_cons (ps_par (i := 2) (j := 3) rfl scComes.nd rfl rfl (by decide) rfl rfl (pa_cons (pe_lst pa_nil) (pa_cons (pe_callTy call_list_of (by rfl) T.list (by decide +kernel) (pa_cons (pe_dget (hu_of hr) (pv 0) (pv 1) (fun _ _ => rfl)) pa_nil)) pa_nil)) (by rfl))
    (pss_cons (ps_while PassesOwn.never (pt_cmpR (op_ne_nil hr.units) (pv 3) (pe_lst pa_nil) (nomark _))
      (pss_cons (ps_set (i := 4) scComes.nd rfl (Or.inl rfl) (pe_bm0 PySem.F.plainAttrs_list PySem.F.slot_list_pop PySem.F.type_list_pop mt_pop (pv 3)))
      (pss_one (ps_if (PW.pt (pw_and (pt_cmp (pc_din (hu_of hr) (pv 4) (pv 0))) (pw_and1 (pt_cmpR op_notIn_seq (pv 4) (pv 2) (by rfl)))))
        (pss_cons (ps_expr (pe_bm PySem.F.plainAttrs_list PySem.F.slot_list_append PySem.F.type_list_append mt_append (pv 2) (pa_cons (pv 4) pa_nil)))
        (pss_one (ps_expr (pe_bm PySem.F.plainAttrs_list PySem.F.slot_list_extend PySem.F.type_list_extend mt_extend (pv 3)
          (pa_cons (pe_callTy call_list_of (by rfl) T.list (by decide +kernel) (pa_cons (pe_dget (hu_of hr) (pv 0) (pv 4) (fun _ _ => rfl)) pa_nil)) pa_nil))))) pss_nil))))
    (pss_one (ps_ret (pe_cmpR op_in_seq (pv 1) (pv 2) (by rfl))))), ?_⟩
  refine ⟨by decide, fun sd hsdH => ?_⟩
  obtain ⟨kvs0, j1, j3⟩ := hk.same (same_upd (o := HO.lst []) hsdH)
  obtain ⟨t0, j4, j5⟩ := (j3 nm).2 us0 h0
  refine ⟨_, rfl, _, rfl, d, .ref t0, rfl, ?_, ?_⟩
  · rw [← j4]
    exact DGet.k (k := Sum.inr nm) j1
  refine ⟨t0, _, rfl, .inr (SqT.of j5), fun l hl0 => ⟨_, _, rfl, ?_⟩⟩
  have lsd : sd ≠ l := ne_of_none upd_same hl0
  have hl : H l = none := by
    rw [upd_ne lsd.symm] at hl0
    exact hl0
  have hM : KM.meas rows us0 [] ≤ 100 := by
    unfold KM.meas
    have := missing_le (rows := rows) (f := [])
    have := hsh.of h0
    omega
  generalize hR : KM.cb rows (KM.meas rows us0 []) us0 [] = R at q
  refine ⟨fun m σ H1 => (∃ o, σ = [some (.ref d), some (.str nm), some (.ref sd), some (.ref l), o]) ∧ Same H H1 ∧ m ≤ 100 ∧ ∃ ws f, H1 l = some (.lst (ws.map V.str)) ∧ H1 sd = some (.lst (f.map V.str)) ∧ KM.meas rows ws f ≤ m ∧ f.length + KM.missing rows f ≤ 8 ∧
      KM.cb rows m ws f = R, ⟨KM.meas rows us0 [], ⟨_, rfl⟩, same_updS hl (same_upd hsdH), hM, us0, [], upd_same, by rw [upd_ne lsd]; exact upd_same, Nat.le_refl _, by have := missing_le (rows := rows) (f := []); rw [List.length_nil]; omega, hR⟩, fun m σ H1 p => ?_⟩
  obtain ⟨⟨o, rfl⟩, S, hm, ws, f, hw, hs, hme, hfl, hui⟩ := p
  refine ⟨_, rfl, by decide, fun z hz => ⟨l, z, ws.map V.str, rfl, rfl, SqL.of (by rw [upd_ne (ne_of_none hw hz)]; exact hw), SqL.of upd_same, _, rfl, ?_⟩⟩
  have hw1 : upd H1 z (.lst []) l = some (.lst (ws.map V.str)) := by rw [upd_ne (ne_of_none hw hz)]; exact hw
  have hs1 : upd H1 z (.lst []) sd = some (.lst (f.map V.str)) := by rw [upd_ne (ne_of_none hs hz)]; exact hs
  have S1 : Same H (upd H1 z (.lst [])) := S.trans (same_upd hz)
  generalize upd H1 z (.lst []) = H2 at hw1 hs1 S1
  have hwl : ws.length ≤ m := Nat.le_trans (by unfold KM.meas; omega) hme
  show (if (if true = true then !(ws.map V.str).isEmpty else (ws.map V.str).isEmpty) = true then _ else _)
  rw [if_pos rfl]
  cases hlast : ws.getLast? with
  | none =>
    have e : ws = [] := List.getLast?_eq_none_iff.mp hlast
    subst e
    refine iteF ?_
    have e2 : KM.cb rows m [] f = f := by cases m <;> rfl
    rw [e2] at hui
    subst hui
    refine ⟨_, rfl, _, rfl, sd, _, rfl, .inl (SqL.of hs1), rfl, flat_strs, ?_⟩
    rw [inV_str]
    exact q _ S1
  | some x =>
    have hne : ws ≠ [] := fun z => by rw [z] at hlast; cases hlast
    have hemp : (!(ws.map V.str).isEmpty) = true := by
      cases ws with
      | nil => exact absurd rfl hne
      | cons a l => rfl
    rw [if_pos hemp]
    have hpos : 0 < ws.length := List.length_pos_iff.mpr hne
    obtain ⟨n, rfl⟩ : ∃ n, m = n + 1 := ⟨m - 1, by omega⟩
    have hx : (ws.map V.str)[(ws.map V.str).length - 1]? = some (.str x) := by
      rw [List.length_map, List.getElem?_map, ← List.getLast?_eq_getElem?, hlast]
      rfl
    refine ⟨fun σ' H' => (∃ o, σ' = [some (.ref d), some (.str nm), some (.ref sd), some (.ref l), o]) ∧ Same H H' ∧ n ≤ 100 ∧ ∃ ws f, H' l = some (.lst (ws.map V.str)) ∧ H' sd = some (.lst (f.map V.str)) ∧ KM.meas rows ws f ≤ n ∧ f.length + KM.missing rows f ≤ 8 ∧
      KM.cb rows n ws f = R, fun σ' H' p => ⟨n, Nat.lt_succ_self _, p⟩, ?_⟩
    refine ⟨_, rfl, .inl ⟨rfl, _, SqL.of hw1⟩, l, _, .str x, rfl, rfl, hw1, hx, ?_⟩
    have S3 : Same H (upd H2 l (.lst (ws.map V.str).dropLast)) := same_updS hl S1
    have hw3 : upd H2 l (.lst (ws.map V.str).dropLast) l = some (.lst (ws.dropLast.map V.str)) := by rw [upd_same, List.map_dropLast]
    have hs3 : upd H2 l (.lst (ws.map V.str).dropLast) sd = some (.lst (f.map V.str)) := by rw [upd_ne lsd]; exact hs1
    generalize upd H2 l (.lst (ws.map V.str).dropLast) = H3 at hw3 hs3 S3
    unfold KM.cb at hui
    rw [hlast] at hui
    dsimp only at hui
    obtain ⟨kvs, k1, k3⟩ := hk.same S3
    have hdl : ws.dropLast.length + 1 = ws.length := by rw [List.length_dropLast]; omega
    refine ⟨_, rfl, _, rfl, d, _, rfl, DGet.k (k := Sum.inr x) k1, _, rfl, ?_⟩
    cases eu : KM.usesOf rows x with
    | none =>
      rw [eu] at hui
      rw [(k3 x).1 eu]
      refine iteF ?_
      refine iteF ?_
      exact ⟨⟨_, rfl⟩, S3, by omega, ws.dropLast, f, hw3, hs3, by unfold KM.meas at hme ⊢; omega, hfl, hui⟩
    | some us =>
      rw [eu] at hui
      dsimp only at hui
      obtain ⟨ux, g1, g2⟩ := (k3 x).2 us eu
      rw [g1]
      refine iteT ⟨_, rfl, _, rfl, sd, _, rfl, .inl (SqL.of hs3), rfl, flat_strs, _, rfl, ?_⟩
      rw [inV_str]
      by_cases hf : x ∈ f
      · rw [if_pos hf] at hui
        rw [decide_eq_true hf]
        refine iteF ?_
        exact ⟨⟨_, rfl⟩, S3, by omega, ws.dropLast, f, hw3, hs3, by unfold KM.meas at hme ⊢; omega, hfl, hui⟩
      · rw [if_neg hf] at hui
        rw [decide_eq_false hf]
        refine iteT ?_
        have us7 := hsh.of eu
        have hmiss := KM.missing_less eu hf
        refine ⟨_, rfl, .inl ⟨rfl, _, SqL.of hs3⟩, _, rfl, sd, _, .str x, rfl, rfl, hs3, ?_, ?_⟩
        · rw [List.length_map]
          exact Nat.lt_of_le_of_lt (show _ ≤ 8 by omega) (by decide)
        have hs4 : upd H3 sd (.lst (f.map V.str ++ [V.str x])) sd = some (.lst ((f ++ [x]).map V.str)) := by rw [upd_same, List.map_append]; rfl
        have hw4 : upd H3 sd (.lst (f.map V.str ++ [V.str x])) l = some (.lst (ws.dropLast.map V.str)) := by rw [upd_ne lsd.symm]; exact hw3
        have S4 : Same H (upd H3 sd (.lst (f.map V.str ++ [V.str x]))) := same_updS hsdH S3
        generalize upd H3 sd (.lst (f.map V.str ++ [V.str x])) = H4 at hw4 hs4 S4
        obtain ⟨kvs', k1', k3'⟩ := hk.same S4
        obtain ⟨tx, g1', g2'⟩ := (k3' x).2 us eu
        refine ⟨_, rfl, .inl ⟨rfl, _, SqL.of hw4⟩, _, rfl, _, rfl, d, .ref tx, rfl, ?_, tx, _, rfl, .inr (SqT.of g2'), fun y hy => ?_⟩
        · rw [← g1']
          exact DGet.k (k := Sum.inr x) k1'
        · refine ⟨l, y, _, _, rfl, rfl, by rw [upd_ne (ne_of_none hw4 hy)]; exact hw4, upd_same, ?_, ?_⟩
          · simp only [List.length_map]
            exact Nat.le_trans (show _ ≤ 200 by omega) (by decide)
          · have yl : l ≠ y := ne_of_none hw4 hy
            refine ⟨⟨_, rfl⟩, same_updS hl (S4.trans (same_upd hy)), by omega, ws.dropLast ++ us, f ++ [x], by rw [upd_same, List.map_append], by rw [upd_ne lsd, upd_ne (ne_of_none hs4 hy)]; exact hs4, ?_, by rw [List.length_append, List.length_singleton]; omega, hui⟩
            unfold KM.meas at hme ⊢
            rw [List.length_append]
            omega
end
end R14

namespace R15
open PySem PySem.Spec PyProof.Rows L2 R9 R10 R11 R12 R13
theorem pe_slK {X : Cx} {e : Expr} {f : Str} {pos : Pos} {ta : TE} (K : PySem.W.Frag) (hK : X.K = K) (he : PE X e ta) (hb : attributeBase e f X.env (eval e X.env) = eval e X.env := by rfl) : PE X (.Attribute e f pos) (SlX.tSl K ta f) := by
  subst hK
  exact SlX.pe_sl he hb
/-- the reason for which the row r, the i-th one, is refused -/
def reasonAt (rows : List URow) (i : Nat) (r : URow) : Option (List Str) :=
  if r.1 ∈ (rows.take i).map (·.1) then some ["twice", r.1]
  else match r.2.filter (fun o => (KM.usesOf rows o).isNone) with
    | g :: _ => some ["lacks", r.1, g]
    | [] => if r.1 ∈ KM.cb rows (KM.meas rows r.2 []) r.2 [] then some ["ring", r.1] else none
def reasonGo (rows : List URow) : Nat → List URow → Option (List Str)
  | _, [] => none
  | i, r :: rest => match reasonAt rows i r with
    | some x => some x
    | none => reasonGo rows (i + 1) rest
def reasonL (rows : List URow) : Option (List Str) := reasonGo rows 0 rows
/-- None, or a tuple of texts -/
def ResV (H : Hp) (v : V) : Option (List Str) → Prop
  | none => v = .non
  | some ws => ∃ p, v = .ref p ∧ H p = some (.tup (ws.map V.str))
theorem cut_take {us : List V} {i : Nat} (h : i ≤ us.length) : cutV us none (some (i : Int)) = us.take i := by
  unfold cutV
  rw [HT.sIx_none, HT.sIx_nat, List.drop_zero, Nat.min_eq_left h, Nat.sub_zero]
theorem usesOf_first {rows : List URow} {i : Nat} {r : URow} (h : rows[i]? = some r) (hn : r.1 ∉ (rows.take i).map (·.1)) : KM.usesOf rows r.1 = some r.2 := by
  unfold KM.usesOf
  induction rows generalizing i with
  | nil => simp at h
  | cons q qs ih =>
    obtain ⟨a, b⟩ := q
    rw [List.lookup_cons]
    cases i with
    | zero =>
      simp at h
      rw [← h]
      simp
    | succ i =>
      rw [List.take_succ_cons, List.map_cons, List.mem_cons, not_or] at hn
      have e : (r.1 == a) = false := by simpa using hn.1
      rw [e]
      exact ih (i := i) (by simpa using h) hn.2
section
variable {P : Program} {w : World} {K : PySem.W.Frag} {mg : Str → Option Value} {base : Heap} {U : Addr}
def spReasonO (U : Addr) : Sp := fun vs H Q _ => ∃ (t d : Addr) (i : Nat) (us : List V) (rows : List URow) (r : URow), vs = [.ref t, .int i, .ref d] ∧ H t = some (.tup us) ∧ UnitsAt U H us rows ∧ Known U H d rows ∧ KM.Short rows ∧ rows.length ≤ 8 ∧ rows[i]? = some r ∧
  ∀ H' v, Same H H' → ResV H' v (reasonAt rows i r) → Q v H'
abbrev sReasonO : Stmt := K86.top 74
abbrev nReasonO : List Str := ["units", "index", "known", "unit", "name", "lacking", "one"]
theorem scReasonO : FnScope nReasonO ["units", "index", "known"] (defScope sReasonO) := ⟨rfl, rfl, rfl, by decide +kernel, rfl, by decide +kernel, by decide +kernel⟩
theorem paired_any {U : Addr} {H : Hp} {n : Str} : ∀ {us : List V} {rows : List URow}, UnitsAt U H us rows → us.length = rows.length
  | _, _, h => h.length
theorem cal_reasonO (T : T86 K mg U) : Cal L2.CX0 P w K mg base 2 "reason_of" (spReasonO U) := by
  refine cal_of (k := 1) T.reasonO scReasonO (fun vs H Q E ⟨_, _, _, _, _, _, h, _⟩ => by rw [h]; rfl) (fun _ _ _ _ _ _ us hl => match us, hl with | [_, _, _], _ => rfl) fun f cdv A outer s H vs Q E hr h => ?_
  obtain ⟨t, d, i, us, rows, r, rfl, ht, hu, hk, hsh, h8, hri, q⟩ := h
  refine ⟨_, pss_cons (ps_set (i := 3) scReasonO.nd rfl (Or.inl rfl) (pe_ix ix_tup (pv 0) (pv 1) (fun _ _ => rfl)))
    (pss_cons (ps_set (i := 4) scReasonO.nd rfl (Or.inr rfl) (SlX.pe_sl (pv 3)))
    (pss_cons (ps_if (pt_val (pe_callB (cr_any rfl) (by rfl) T.any (by decide +kernel) (pa_cons (pe_lc (own := [("one", 6)]) (g := gName 6) (tt := tYes) rfl scReasonO.nd (pi_tup (pe_slice sl_tup (pv 0) po_none (po_some (pv 1))))
        (blkOk_by (N := nReasonO) (sc := defScope sReasonO) (by decide +kernel)) (fun _ _ _ _ _ => pg_name (i := 6) scReasonO.nd rfl (Or.inl rfl)) (fun _ _ _ _ _ => pts_nil)
        (fun _ _ _ _ _ => pe_cmpR op_eq (pe_slK K rfl (pv 6)) (pv 4) (nomark _))) pa_nil)))
      (pss_one (ps_ret (pe_tup (pa_cons pe_str (pa_cons (pv 4) pa_nil))))) pss_nil)
    (pss_cons (ps_setLc (i := 5) (own := [("one", 6)]) (g := gName 6) rfl scReasonO.nd rfl rfl (sw_true rfl rfl rfl (by decide +kernel)) (pi_tup (SlX.pe_sl (pv 3)))
        (blkOk_by (N := nReasonO) (sc := defScope sReasonO) (by decide +kernel)) (fun _ _ _ _ _ => pg_name (i := 6) scReasonO.nd rfl (Or.inl rfl)) (fun _ _ _ _ _ => pts_one (pt_cmp (pc_dnotin (hu_of hr) (pv 6) (pv 2))))
        (fun _ _ _ _ _ => pv 6))
    (pss_cons (ps_if (pt_cmpR (op_ne_nil hr.units) (pv 5) (pe_lst pa_nil) (nomark _)) (pss_one (ps_ret (pe_tup (pa_cons pe_str (pa_cons (pv 4) (pa_cons (pe_ix ix_list (pv 5) pe_int (fun _ _ => rfl)) pa_nil)))))) pss_nil)
    (pss_one (ps_ret (pe_ifExp (pt_val (pe_c (cal_usesI T) hr (by decide) (by rfl) (pa_cons (pv 3) (pa_cons (pv 2) pa_nil)))) (pe_tup (pa_cons pe_str (pa_cons (pv 4) pa_nil))) pe_non))))))), ?_⟩
  have lu : us.length = rows.length := hu.length
  have il : i < rows.length := (List.getElem?_eq_some_iff.mp hri).1
  obtain ⟨u, hui⟩ : ∃ u, us[i]? = some u := ⟨us[i], List.getElem?_eq_getElem (by omega)⟩
  obtain ⟨r', hr', hur⟩ := paired_at hu hui
  rw [hri] at hr'
  cases hr'
  refine ⟨_, rfl, _, rfl, t, us, i, u, rfl, rfl, SqT.of ht, atI_nat hui, ?_⟩
  obtain ⟨an, dn, pn, vn, en, n1, n2, n3, n4⟩ := rdName T hur
  refine ⟨_, rfl, an, U, dn, pn, vn, 1, _, en, n1, n2, n3, n4, ?_⟩
  have hut : ∀ {H' : Hp}, Same H H' → UnitsAt U H' us rows := fun S => hu.same S
  have any_eq : ((rows.take i).map fun q => decide (q.1 = r.1)).any id = decide (r.1 ∈ (rows.take i).map (·.1)) := by
    rw [List.any_map]
    by_cases hm : r.1 ∈ (rows.take i).map (·.1)
    · obtain ⟨q, hq, e⟩ := List.mem_map.mp hm
      rw [decide_eq_true hm]
      exact List.any_eq_true.mpr ⟨q, hq, decide_eq_true e⟩
    · rw [decide_eq_false hm, Bool.eq_false_iff]
      intro z
      obtain ⟨q, hq, e⟩ := List.any_eq_true.mp z
      exact hm (List.mem_map.mpr ⟨q, hq, of_decide_eq_true e⟩)
  refine ⟨_, rfl, _, rfl, i, rfl, t, us, rfl, SqT.of ht, fun z => ?_, fun p hp => ?_⟩
  · have z2 := z.2
    rw [HT.sIx_nat] at z2
    omega
  rw [cut_take (by omega)]
  have S1 : Same H (upd H p (.tup (us.take i))) := same_upd hp
  have hp1 : upd H p (.tup (us.take i)) p = some (.tup (us.take i)) := upd_same
  generalize upd H p (.tup (us.take i)) = H1 at S1 hp1
  refine ⟨p, rfl, ⟨_, SqT.of hp1⟩, fun D hD => lc_tup (xs := us.take i) (PvF H1 D (fm (rows.take i) (fun _ => true) fun q => .bl (decide (q.1 = r.1)))) (PvF.zero hD rfl) (fun j H2 _ p2 => SqT.of (p2.2 _ _ hp1)) (fun j x H2 hx p2 => ?_) fun H2 p2 => ?_⟩
  · rw [List.getElem?_take] at hx
    by_cases hj : j < i
    · rw [if_pos hj] at hx
      obtain ⟨r2, hr2, hur2⟩ := paired_at (hut (S1.trans p2.2)) hx
      obtain ⟨a2, d2, q2, v2, e2, m1, m2, m3, m4⟩ := rdName T hur2
      have hr2' : (rows.take i)[j]? = some r2 := by rw [List.getElem?_take, if_pos hj]; exact hr2
      refine ⟨rfl, tYes_go ⟨_, rfl, a2, U, d2, q2, v2, 1, _, e2, m1, m2, m3, m4, _, rfl, rfl, _, p2.1, ?_, p2.keep hD (Same.refl _) (by rw [fm_yes hr2' rfl]; congr 3; by_cases e : r2.1 = r.1
                                                                                                                                        · rw [decide_eq_true e, decide_eq_true (by rw [e])]
                                                                                                                                        · rw [decide_eq_false e, decide_eq_false (fun z => e (V.str.inj z))])⟩⟩
      exact Nat.lt_of_le_of_lt (m := 8) (Nat.le_trans fm_len (by rw [List.length_take]; omega)) (by decide)
    · rw [if_neg hj] at hx
      cases hx
  have S2 : Same H H2 := S1.trans p2.2
  have p3 := p2.1
  rw [fm_all (by rw [List.length_take, List.length_take]; omega), filt_true] at p3
  refine ⟨D, (rows.take i).map fun q => decide (q.1 = r.1), rfl, SqL.of (by rw [List.map_map]; exact p3), _, rfl, ?_⟩
  rw [any_eq]
  clear p3 p2
  by_cases hm : r.1 ∈ (rows.take i).map (·.1)
  · rw [decide_eq_true hm]
    refine iteT ⟨_, rfl, show 2 ≤ sizeLine by decide, fun p5 hp5 => q _ _ (S2.trans (same_upd hp5)) ?_⟩
    unfold reasonAt
    rw [if_pos hm]
    exact ⟨p5, rfl, upd_same⟩
  rw [decide_eq_false hm]
  refine iteF ?_
  have hfirst := usesOf_first hri hm
  obtain ⟨a5, d5, q5, v5, t5, e5, m1, m2, m3, m4, m5⟩ := rdUses T (hur.same S2)
  refine ⟨_, rfl, a5, U, d5, q5, v5, 4, _, e5, m1, m2, m3, m4, t5, rfl, ⟨_, SqT.of m5⟩, fun D2 hD2 => lc_tup (xs := r.2.map V.str) (PvF H2 D2 (fm r.2 (fun o => (KM.usesOf rows o).isNone) V.str)) (PvF.zero hD2 rfl) (fun j H3 _ p6 => SqT.of (p6.2 _ _ m5)) (fun j x H3 hx p6 => ?_) fun H3 p6 => ?_⟩
  · rw [List.getElem?_map] at hx
    obtain ⟨o, ho, rfl⟩ := Option.map_eq_some_iff.mp hx
    obtain ⟨kvs, k1, k2, k3⟩ := hk.same (S2.trans p6.2)
    refine ⟨rfl, _, rfl, _, rfl, d, _, rfl, DGet.k (k := Sum.inr o) k1, _, rfl, ?_⟩
    cases eo : KM.usesOf rows o with
    | none =>
      rw [(k3 o).1 eo]
      refine iteT ⟨_, rfl, _, p6.1, ?_, p6.keep hD2 (Same.refl _) (fm_yes ho (by rw [eo]; rfl))⟩
      exact Nat.lt_of_le_of_lt (m := 7) (Nat.le_trans fm_len (hsh.of hfirst)) (by decide)
    | some ws =>
      obtain ⟨u2, g1, _⟩ := (k3 o).2 ws eo
      rw [g1]
      exact iteF (p6.skip (Same.refl _) (fm_no ho (by rw [eo]; rfl)))
  have S3 : Same H H3 := S2.trans p6.2
  have p7 := p6.1
  rw [fm_all (by rw [List.length_map]; exact Nat.le_refl _)] at p7
  clear p6
  refine ⟨_, rfl, by decide, fun z hz => ⟨D2, z, _, rfl, rfl, SqL.of (by rw [upd_ne (ne_of_none p7 hz)]; exact p7), SqL.of upd_same, _, rfl, ?_⟩⟩
  have S4 : Same H (upd H3 z (.lst [])) := S3.trans (same_upd hz)
  have p8 : upd H3 z (.lst []) D2 = some (.lst ((r.2.filter fun o => (KM.usesOf rows o).isNone).map V.str)) := by rw [upd_ne (ne_of_none p7 hz)]; exact p7
  generalize upd H3 z (.lst []) = H4 at S4 p8
  show (if (if true = true then _ else _) = true then _ else _)
  rw [if_pos rfl]
  have hra : reasonAt rows i r = (match r.2.filter (fun o => (KM.usesOf rows o).isNone) with
    | g :: _ => some ["lacks", r.1, g]
    | [] => if r.1 ∈ KM.cb rows (KM.meas rows r.2 []) r.2 [] then some ["ring", r.1] else none) := by
    unfold reasonAt
    rw [if_neg hm]
  cases hf : r.2.filter (fun o => (KM.usesOf rows o).isNone) with
  | cons g gs =>
    rw [hf] at p8 hra
    refine iteT ⟨_, rfl, _, rfl, D2, _, 0, .str g, rfl, rfl, SqL.of p8, atI_nat (j := 0) rfl, show 3 ≤ sizeLine by decide, fun p5 hp5 => q _ _ (S4.trans (same_upd hp5)) ?_⟩
    rw [hra]
    exact ⟨p5, rfl, upd_same⟩
  | nil =>
    rw [hf] at hra
    dsimp only at hra
    refine iteF ⟨_, rfl, _, rfl, u, d, r, rows, rfl, hur.same S4, hk.same S4, hsh, h8, hsh.of hfirst, fun H5 S5 => ⟨_, rfl, ?_⟩⟩
    have hc := KM.ui_cb rows r.1 (by rw [hfirst]; rfl) (KM.meas rows r.2 []) r.2 [] (by simp)
    by_cases hb : r.1 ∈ KM.cb rows (KM.meas rows r.2 []) r.2 []
    · rw [hc.mpr hb]
      rw [if_pos hb] at hra
      refine iteT ⟨_, rfl, show 2 ≤ sizeLine by decide, fun p5 hp5 => q _ _ ((S4.trans S5).trans (same_upd hp5)) ?_⟩
      rw [hra]
      exact ⟨p5, rfl, upd_same⟩
    · rw [Bool.eq_false_iff.mpr (fun z => hb (hc.mp z))]
      rw [if_neg hb] at hra
      refine iteF (q _ _ (S4.trans S5) ?_)
      rw [hra]
      exact rfl
end
end R15

namespace R16
open PySem PySem.Spec PyProof.Rows L2 R9 R10 R11 R12 R13 R15
/-- what the top has left of class Refused -/
structure RefT (P : Program) (K : PySem.W.Frag) (mg : Str → Option Value) (C : Addr) : Prop where
  cls : ∃ (fI cda cc : Addr) (file : Str), R4.RefK K C fI cda cc file ∧ ((P.main.file : Str) == file) = true
  top : (P.main.scope.names.lookup ("super" : Str)).isSome = false
  mR : mg "Refused" = some (.ref C)
theorem reasonGo_drop {rows : List URow} {i : Nat} {r : URow} (h : rows[i]? = some r) : reasonGo rows i (rows.drop i) = match reasonAt rows i r with | some x => some x | none => reasonGo rows (i + 1) (rows.drop (i + 1)) := by
  have hl := (List.getElem?_eq_some_iff.mp h).1
  rw [List.drop_eq_getElem_cons hl, (List.getElem?_eq_some_iff.mp h).2]
  rfl
section
variable {P : Program} {w : World} {K : PySem.W.Frag} {mg : Str → Option Value} {base : Heap} {U C : Addr}
/-- the way out of a refusal: the class, its dict with the reason -/
def RefusedE (C : Addr) (H : Hp) (E : XK) (ws : List Str) : Prop := ∀ H' d p, Same H H' → H' d = some (.xd [("reason", .ref p)]) → H' p = some (.tup (ws.map V.str)) → E (.ref C) (some d) H'
def spReqL (U C : Addr) : Sp := fun vs H Q E => ∃ (t pl : Addr) (us : List V) (rows : List URow), vs = [.ref t, .ref pl] ∧ H t = some (.tup us) ∧ H pl = some (.lst (List.replicate rows.length V.non)) ∧ UnitsAt U H us rows ∧ KM.Short rows ∧ rows.length ≤ 8 ∧
  (reasonL rows = none → ∀ H', Same H H' → Q .non H') ∧ ∀ ws, reasonL rows = some ws → RefusedE C H E ws
abbrev sReqL : Stmt := K86.top 75
abbrev nReqL : List Str := ["units", "parts", "known", "faces", "unit", "part", "index", "reason", "stale", "name"]
theorem scReqL : FnScope nReqL ["units", "parts"] (defScope sReqL) := ⟨rfl, rfl, rfl, by decide +kernel, rfl, by decide +kernel, by decide +kernel⟩
theorem cal_reqL (T : T86 K mg U) (R : RefT P K mg C) : Cal (L2.CX P w) P w K mg base 3 "require_linkable" (spReqL U C) := by
  refine calX_of (k := 2) T.reqL scReqL (fun vs H Q E ⟨_, _, _, _, h, _⟩ => by rw [h]; rfl) (fun _ _ _ _ _ _ us hl => match us, hl with | [_, _], _ => rfl) fun f cdv A outer s H vs Q E hr h => ?_
  obtain ⟨t, pl, us, rows, rfl, ht, hpl, hu, hsh, h8, q1, q2⟩ := h
  obtain ⟨fI, cda, cc, file, hR, hfile⟩ := R.cls
  refine ⟨_, pss_cons (ps_asg (pe_tup (pa_cons (pe_c (cal_first T) hr (by decide) (by rfl) (pa_cons (pv 0) pa_nil)) (pa_cons pe_dnewK pa_nil))) (pg_tup rfl (pgs_cons (pg_name (i := 2) scReqL.nd rfl (Or.inl rfl)) (pgs_cons (pg_name (i := 3) scReqL.nd rfl (Or.inr rfl)) pgs_nil))))
    (pss_cons (ps_for (passes_of rfl) rfl (R7.pi_M (by rfl) T.zip (pa_cons (pv 0) (pa_cons (pv 1) pa_nil))) (pg_tup rfl (pgs_cons (pg_name (i := 4) scReqL.nd rfl (Or.inl rfl)) (pgs_cons (pg_name (i := 5) scReqL.nd rfl (Or.inr rfl)) pgs_nil)))
      (pss_one (ps_expr (pe_dsetd (pv 3) (SlX.pe_sl (pv 4)) (pe_ifExp (pt_cmpR op_isN (pv 5) pe_non (nomark _)) pe_non pe_never) ⟨rfl, rfl, rfl, rfl⟩))))
    (pss_one (ps_for (passes_of rfl) rfl (R7.pi_E (by rfl) T.enumerate (by rfl) T.zip (pa_cons (pv 0) (pa_cons (pv 1) pa_nil))) (pg_tup rfl (pgs_cons (pg_name (i := 6) scReqL.nd rfl (Or.inl rfl)) (pgs_cons (pg_tup rfl (pgs_cons (pg_name (i := 4) scReqL.nd rfl (Or.inl rfl)) (pgs_cons (pg_name (i := 5) scReqL.nd rfl (Or.inr rfl)) pgs_nil))) pgs_nil)))
      (pss_cons (ps_set (i := 7) scReqL.nd rfl (Or.inl rfl) (pe_c (cal_reasonO T) hr (by decide) (by rfl) (pa_cons (pv 0) (pa_cons (pv 6) (pa_cons (pv 2) pa_nil)))))
      (pss_cons (ps_if (PW.pt (pw_and (pt_cmpR op_isN (pv 7) pe_non (nomark _)) (pw_and1 (pt_cmpR op_notN (pv 5) pe_non (nomark _))))) pss_never pss_nil)
      (pss_one (ps_if (pt_cmpR op_notN (pv 7) pe_non (nomark _)) (pss_one (ps_raise rfl (takes_of rfl rfl rfl rfl) (R4.pmk_ref hR hr R.mR (by rfl) hfile R.top (pv 7)))) pss_nil))))))), ?_⟩
  refine ⟨_, rfl, t, us, rows, rfl, ht, hu, h8, fun H1 kn S1 hkn K1 => ?_⟩
  refine fun fc hfc => ⟨show 2 ≤ sizeLine by decide, fun tp htp => ?_⟩
  have hfc1 : H1 fc = none := hfc
  have S2 : Same H1 (upd (upd H1 fc (.dK [])) tp (.tup [.ref kn, .ref fc])) := (same_upd hfc).trans (same_upd htp)
  have htp1 : upd (upd H1 fc (.dK [])) tp (.tup [.ref kn, .ref fc]) tp = some (.tup [.ref kn, .ref fc]) := upd_same
  have hfc2 : upd (upd H1 fc (.dK [])) tp (.tup [.ref kn, .ref fc]) fc = some (.dK []) := by rw [upd_ne (ne_of_none upd_same htp)]; exact upd_same
  generalize upd (upd H1 fc (.dK [])) tp (.tup [.ref kn, .ref fc]) = H2 at S2 htp1 hfc2
  refine ⟨tp, _, rfl, SqT.of htp1, rfl, _, _, rfl, _, _, rfl, rfl, ?_⟩
  have lu : us.length = rows.length := hu.length
  have lrep : us.length = (List.replicate rows.length V.non).length := by rw [List.length_replicate]; exact lu
  refine ⟨_, rfl, _, rfl, t, pl, us, List.replicate rows.length V.non, rfl, SqT.of (S2 _ _ (S1 _ _ ht)), SqL.of (S2 _ _ (S1 _ _ hpl)), ?_⟩
  refine R7.for_M (xs := us) (ys := List.replicate rows.length V.non) lrep (fun i σ H3 => (∃ o4 o5, σ = [some (.ref t), some (.ref pl), some (.ref kn), some (.ref fc), o4, o5, none, none, none, none]) ∧ Same H1 H3 ∧ ∃ kvs, H3 fc = some (.dK kvs) ∧ kvs.length ≤ i) ⟨⟨_, _, rfl⟩, S2, [], hfc2, Nat.le_refl _⟩
    (fun i σ H3 p => ⟨SqT.of (p.2.1 _ _ (S1 _ _ ht)), SqL.of (p.2.1 _ _ (S1 _ _ hpl))⟩) (fun i x y Tp σ H3 hx hy p hTp => ?_) fun σ H3 p => ?_
  · obtain ⟨⟨o4, o5, rfl⟩, S3, kvs, hk3, hkl⟩ := p
    have hyn : y = .non := by
      rw [List.getElem?_replicate] at hy
      split at hy
      · exact (Option.some.inj hy).symm
      · cases hy
    subst hyn
    obtain ⟨r, hri, hur⟩ := paired_at ((hu.same S1).same S3) hx
    have il := (List.getElem?_eq_some_iff.mp hri).1
    have S4 : Same H3 (upd H3 Tp (.tup [x, .non])) := same_upd hTp
    refine ⟨Tp, _, rfl, SqT.of upd_same, rfl, _, _, rfl, _, _, rfl, rfl, ?_⟩
    have hk4 := S4 _ _ hk3
    have hur4 := hur.same S4
    have S5 := S3.trans S4
    generalize upd H3 Tp (.tup [x, .non]) = H4 at hk4 hur4 S5
    obtain ⟨an, dn, pn, vn, en, n1, n2, n3, n4⟩ := rdName T hur4
    refine ⟨_, rfl, fc, rfl, .inl ⟨kvs, Rd.of hk4⟩, _, rfl, an, U, dn, pn, vn, 1, _, en, n1, n2, n3, n4, ?_⟩
    refine ⟨_, rfl, rfl, _, rfl, iteT ⟨kvs, .inr r.1, hk4, rfl, Nat.lt_of_le_of_lt (show _ ≤ 8 by omega) (by decide), fun v hv => ?_, fun hv => ?_⟩⟩
    · exact ⟨⟨_, _, rfl⟩, S5, kvs, hk4, by omega⟩
    · exact ⟨⟨_, _, rfl⟩, same_updS hfc1 S5, _, upd_same, Nat.le_trans (length_putK _ _ _) (Nat.succ_le_succ hkl)⟩
  obtain ⟨⟨o4, o5, rfl⟩, S3, _⟩ := p
  have S03 := S1.trans S3
  refine ⟨_, rfl, _, rfl, t, pl, us, List.replicate rows.length V.non, rfl, SqT.of (S03 _ _ ht), SqL.of (S03 _ _ hpl), ?_⟩
  refine R7.for_E (xs := us) (ys := List.replicate rows.length V.non) lrep (fun i σ H4 => (∃ o4 o5 o6 o7, σ = [some (.ref t), some (.ref pl), some (.ref kn), some (.ref fc), o4, o5, o6, o7, none, none]) ∧ Same H1 H4 ∧ reasonGo rows i (rows.drop i) = reasonL rows) ⟨⟨_, _, _, _, rfl⟩, S3, rfl⟩
    (fun i σ H4 p => ⟨SqT.of (p.2.1 _ _ (S1 _ _ ht)), SqL.of (p.2.1 _ _ (S1 _ _ hpl))⟩) (fun i x y Tp Up σ H4 hx hy p hTp hUp nUT => ?_) fun σ H4 p => ?_
  · obtain ⟨⟨o4, o5, o6, o7, rfl⟩, S4, hgo⟩ := p
    have hyn : y = .non := by
      rw [List.getElem?_replicate] at hy
      split at hy
      · exact (Option.some.inj hy).symm
      · cases hy
    subst hyn
    obtain ⟨r, hri, hur⟩ := paired_at ((hu.same S1).same S4) hx
    rw [reasonGo_drop hri] at hgo
    have hU2 : upd H4 Tp (.tup [x, .non]) Up = none := by rw [upd_ne nUT]; exact hUp
    have S5 : Same H1 (upd (upd H4 Tp (.tup [x, .non])) Up (.tup [.int (i : Nat), .ref Tp])) := (S4.trans (same_upd hTp)).trans (same_upd hU2)
    refine ⟨Up, _, rfl, SqT.of upd_same, rfl, _, _, rfl, _, _, rfl, ⟨Tp, _, rfl, SqT.of (by rw [upd_ne nUT.symm]; exact upd_same), rfl, _, _, rfl, _, _, rfl, rfl, rfl, ?_⟩⟩
    have S05 := S1.trans S5
    generalize upd (upd H4 Tp (.tup [x, .non])) Up (.tup [.int (i : Nat), .ref Tp]) = H5 at S5 S05
    refine ⟨_, rfl, _, rfl, _, rfl, t, kn, i, us, rows, r, rfl, S05 _ _ ht, hu.same S05, K1.same S5, hsh, h8, hri, fun H6 v S6 hv => ?_⟩
    cases hre : reasonAt rows i r with
    | none =>
      rw [hre] at hv hgo
      have hv' : v = .non := hv
      subst hv'
      refine ⟨_, rfl, rfl, _, rfl, iteT ⟨_, rfl, rfl, _, rfl, iteF ?_⟩⟩
      exact ⟨_, rfl, rfl, _, rfl, iteF ⟨⟨_, _, _, _, rfl⟩, S5.trans S6, hgo⟩⟩
    | some ws =>
      rw [hre] at hv hgo
      obtain ⟨p, rfl, hp⟩ := hv
      refine ⟨_, rfl, rfl, _, rfl, iteF (iteF ?_)⟩
      refine ⟨_, rfl, rfl, _, rfl, iteT ⟨_, rfl, fun d hd => ?_⟩⟩
      exact q2 ws hgo.symm _ d p ((S05.trans S6).trans (same_upd hd)) upd_same (by rw [upd_ne (ne_of_none hp hd)]; exact hp)
  · obtain ⟨⟨o4, o5, o6, o7, rfl⟩, S4, hgo⟩ := p
    refine q1 ?_ _ (S1.trans S4)
    rw [← hgo, List.drop_of_length_le (by omega)]
    rfl
end
end R16

namespace R17
open PySem PySem.Spec PyProof.Rows L2 R9 R10 R11 R12 R13 R15
/-! ### the order, name by name -/
def rdy (st : List Str) (r : URow) : Bool := r.2.all fun o => decide (o ∈ st)
inductive Ord : List URow → List Str → List Str → Prop
  | nil {st : List Str} : Ord [] st st
  | step {left : List URow} {st out : List Str} {r : URow} : r ∈ left → rdy st r = true → (∀ r' ∈ left, rdy st r' = true → R1.ltS r'.1 r.1 = false) → Ord (left.filter fun q => decide (q.1 ≠ r.1)) (st ++ [r.1]) out → Ord left st out
theorem Ord.perm {left left' : List URow} {st out : List Str} (h : Ord left st out) (p : left.Perm left') : Ord left' st out := by
  induction h generalizing left' with
  | nil =>
    rw [← p.nil_eq]
    exact .nil
  | step h1 h2 h3 h4 ih => exact .step (p.mem_iff.mp h1) h2 (fun r' hr' => h3 r' (p.mem_iff.mpr hr')) (ih (p.filter _))
/-! ### a dict that is not empty -/
def rNeD0 : R2 := fun x y H Q => ∃ a b ks, x = .ref a ∧ y = .ref b ∧ H a = some (.dK ks) ∧ H b = some (.dK []) ∧ Q (.bl (!ks.isEmpty)) H
theorem op_ne_d0 {X : Cx} (hu : X.A.units < cLine) : OpR X (compareOp .NotEq) rNeD0 := by
  intro pins s σ H x y v u Q I rx ry h
  obtain ⟨a, b, ks, rfl, rfl, ea, eb, q⟩ := h
  obtain rfl : v = Value.ref a := rx
  obtain rfl : u = Value.ref b := ry
  obtain ⟨_, ya, va, ra, da⟩ := (show ObjOk X.prog X.w H s.heap a (.dK ks) from I.hok a _ ea)
  obtain ⟨_, yb, vb, rb, db⟩ := (show ObjOk X.prog X.w H s.heap b (.dK []) from I.hok b _ eb)
  have lb : vb.length = 0 := by rw [← rb.length]; rfl
  have la : va.length = ks.length := ra.length.symm
  refine PySem.W.keq_ne (knd := mixKind X.prog X.w) (r := true) ya yb da db hu (fun hl => hits_all rb ra fun p hp => ?_) (fin_bl I q ?_)
  · have e : ks.length = 0 := by omega
    rw [List.length_eq_zero_iff.mp e] at hp
    cases hp
  · rw [lb, la]
    cases ks with
    | nil => rfl
    | cons z zs => simp
/-- a comprehension over the keys of a dict that is held -/
theorem lc_keys {d : Addr} {o : Obj} {kvs : List (Key × V)} {g : TG} {tt : TT} {te : TE} {vs : List Nat} {σ : L2.St} {H1 : Hp} {D : Addr} {Qd : Hp → Prop} (Pv : Nat → Hp → Prop) (h0 : Pv 0 (upd H1 D (.lst []))) (hl : ∀ i H, Pv i H → H d = some (.frz o (.dK kvs)))
    (hs : ∀ i k v H, kvs[i]? = some (k, v) → Pv i H → g (kV k) (wipe σ vs) H fun σ2 H2 => wipe σ2 vs = wipe σ vs ∧ tt σ2 H2 fun b H3 =>
      if b = true then te σ2 H3 fun y H4 => ∃ acc, H4 D = some (.lst acc) ∧ acc.length < sizeLine ∧ Pv (i + 1) (upd H4 D (.lst (acc ++ [y]))) else Pv (i + 1) H3) (hd : ∀ H, Pv kvs.length H → Qd H) :
    ∃ W : Nat → Nat → Hp → Prop, (∃ m, W 0 m (upd H1 D (.lst []))) ∧ ∀ i m H, W i m H →
      ((Itk d o kvs).stop i H ∧ Qd H) ∨ ((Itk d o kvs).go i H ∧ ∃ Nx : Hp → Prop, (∀ H', Nx H' → ∃ m', m' < m ∧ W (i + 1) m' H') ∧ ∀ x H', (Itk d o kvs).yld i H x H' → g x (wipe σ vs) H' fun σ2 H2 => wipe σ2 vs = wipe σ vs ∧ tt σ2 H2 fun b H3 =>
        if b = true then te σ2 H3 fun y H4 => ∃ acc, H4 D = some (.lst acc) ∧ acc.length < sizeLine ∧ Nx (upd H4 D (.lst (acc ++ [y]))) else Nx H3) := by
  refine ⟨fun i m H => m = kvs.length - i ∧ i ≤ kvs.length ∧ Pv i H, ⟨kvs.length, rfl, Nat.zero_le _, h0⟩, ?_⟩
  rintro i m H ⟨rfl, hi, p⟩
  have q := hl i H p
  by_cases hlt : i < kvs.length
  · refine .inr ⟨⟨q, hlt⟩, Pv (i + 1), fun H' p' => ⟨kvs.length - (i + 1), by omega, rfl, hlt, p'⟩, fun x H' y => ?_⟩
    obtain ⟨rfl, k, v, hk, rfl⟩ := y
    exact hs i k v _ hk p
  · have e : i = kvs.length := by omega
    subst e
    exact .inl ⟨⟨q, Nat.le_refl _⟩, hd H p⟩
theorem cr_allK {X : Cx} (K : PySem.W.Frag) (hc : X.calm = true) (hK : X.K = K) : CallR X (.builtin "all") (rAll K) := by
  subst hK
  exact cr_all hc
theorem pi_tupK {X : Cx} (K : PySem.W.Frag) (hK : X.K = K) {e tg : Expr} {t : TE} (h : PE X e t) : PI X tg e (iTup K t) := by
  subst hK
  exact pi_tup h
/-- units with such names -/
def Named (U : Addr) (H : Hp) : List V → List Str → Prop := Paired fun u n => ∃ r, UnitAt U H u r ∧ r.1 = n
theorem unitAt_upd {U d : Addr} {H : Hp} {kvs : List (Key × V)} {o : HO} {u : V} {r : URow} (hd : H d = some (.dK kvs)) (h : UnitAt U H u r) : UnitAt U (upd H d o) u r := by
  obtain ⟨a, dx, t', vs, e, hs, h1, h4, ht'⟩ := h
  have hn : ∀ {b : Addr} {o' : HO}, H b = some o' → (∀ k, o' ≠ .dK k) → upd H d o b = some o' := fun {b o'} e1 e2 => by
    rw [upd_ne (fun z => by rw [z, hd] at e1; exact e2 kvs (Option.some.inj e1).symm)]
    exact e1
  refine ⟨a, dx, t', vs, e, ?_, h1, h4, hn ht' (fun _ z => by cases z)⟩
  rcases hs with ⟨q1, q2⟩ | ⟨q1, q2⟩
  · exact .inl ⟨hn q1 (fun _ z => by cases z), q2⟩
  · exact .inr ⟨hn q1 (fun _ z => by unfold SlX.SlO at z; cases z), hn q2 (fun _ z => by cases z)⟩
def keyU (p : V × URow) : Key × V := (Sum.inr p.2.1, p.1)
theorem valV_keyU {L : List (V × URow)} {p : V × URow} (hp : p ∈ L) (hn : (L.map (·.2.1)).Nodup) : valV (L.map keyU) (.inr p.2.1) = some p.1 := by
  induction L with
  | nil => cases hp
  | cons q L ih =>
    rw [List.map_cons, List.nodup_cons] at hn
    rw [List.map_cons]
    by_cases e : q.2.1 = p.2.1
    · rw [valV_pos (p := keyU q) (by show Sum.inr q.2.1 = _; rw [e])]
      rcases List.mem_cons.mp hp with z | z
      · rw [z]; rfl
      · exact absurd (List.mem_map.mpr ⟨p, z, e.symm⟩) hn.1
    · rw [valV_neg (p := keyU q) (fun z => e (Sum.inr.inj z))]
      rcases List.mem_cons.mp hp with z | z
      · exact absurd (by rw [z]) e
      · exact ih z hn.2
theorem filter_ne_none {L : List (V × URow)} {n : Str} (h : n ∉ L.map (·.2.1)) : (L.filter fun p => decide (p.2.1 ≠ n)) = L :=
  List.filter_eq_self.mpr fun p hp => decide_eq_true fun z => h (z ▸ List.mem_map.mpr ⟨p, hp, rfl⟩)
theorem filter_ne_len {L : List (V × URow)} {p : V × URow} (hp : p ∈ L) (hn : (L.map (·.2.1)).Nodup) : (L.filter fun q => decide (q.2.1 ≠ p.2.1)).length + 1 = L.length := by
  induction L with
  | nil => cases hp
  | cons q L ih =>
    rw [List.map_cons, List.nodup_cons] at hn
    rw [List.filter_cons]
    rcases List.mem_cons.mp hp with z | z
    · subst z
      rw [if_neg (by simp), filter_ne_none hn.1]
      rfl
    · have hne : q.2.1 ≠ p.2.1 := fun e => hn.1 (e ▸ List.mem_map.mpr ⟨p, z, rfl⟩)
      rw [if_pos (by simp [hne]), List.length_cons, List.length_cons, ih z hn.2]
theorem drop_keyU {L : List (V × URow)} {n : Str} : dropK (L.map keyU) (.inr n) = (L.filter fun p => decide (p.2.1 ≠ n)).map keyU := by
  unfold dropK
  rw [List.filter_map]
  congr 1
  apply List.filter_congr
  intro p _
  show decide ((Sum.inr p.2.1 : Key) ≠ Sum.inr n) = decide (p.2.1 ≠ n)
  by_cases e : p.2.1 = n
  · simp [e]
  · simp [e]
theorem valV_keyU_none {L : List (V × URow)} {n : Str} (h : n ∉ L.map (·.2.1)) : valV (L.map keyU) (.inr n) = none := by
  induction L with
  | nil => rfl
  | cons q L ih =>
    rw [List.map_cons, List.mem_cons, not_or] at h
    rw [List.map_cons, valV_neg (p := keyU q) (fun z => h.1 (Sum.inr.inj z).symm)]
    exact ih h.2
theorem put_keyU {L : List (V × URow)} {i : Nat} {p : V × URow} (h : L[i]? = some p) (hn : (L.map (·.2.1)).Nodup) : putK ((L.take i).map keyU) (.inr p.2.1) p.1 = (L.take (i + 1)).map keyU := by
  have hm : p.2.1 ∉ (L.take i).map (·.2.1) := by
    intro hc
    obtain ⟨q, hq, e⟩ := List.mem_map.mp hc
    obtain ⟨j, hj, ej⟩ := List.mem_iff_getElem.mp hq
    have hj' := hj
    rw [List.length_take] at hj'
    rw [List.getElem_take] at ej
    obtain ⟨hi, ei⟩ := List.getElem?_eq_some_iff.mp h
    have := (List.getElem_inj (i := j) (j := i) (h₀ := by rw [List.length_map]; omega) (h₁ := by rw [List.length_map]; omega) hn).mp (by rw [List.getElem_map, List.getElem_map, ej, ei, e])
    omega
  rw [putK_new p.1 (valV_keyU_none hm), List.take_add_one, h, List.map_append]
  rfl
theorem Named.same {U : Addr} {H H' : Hp} (S : Same H H') : ∀ {us : List V} {ns : List Str}, Named U H us ns → Named U H' us ns
  | _, _, .nil => .nil
  | _, _, .cons ⟨r, h, e⟩ t => .cons ⟨r, h.same S, e⟩ (Named.same S t)
theorem same_none {H H' : Hp} {a : Addr} (S : Same H H') (h : H' a = none) : H a = none := by
  cases z : H a with
  | none => rfl
  | some u => rw [S _ _ z] at h; cases h
theorem upd_keep {H : Hp} {a p : Addr} {u v : HO} (h : H a = some u) (hp : H p = none) : upd H p v a = some u := by
  rw [upd_ne (ne_of_none h hp)]
  exact h
theorem paired_snoc {α β : Type} {F : α → β → Prop} {a : α} {b : β} (h : F a b) : ∀ {l : List α} {m : List β}, Paired F l m → Paired F (l ++ [a]) (m ++ [b])
  | _, _, .nil => .cons h .nil
  | _, _, .cons q t => .cons q (paired_snoc h t)
theorem zip_units {U : Addr} {H : Hp} {us : List V} {rows : List URow} (h : UnitsAt U H us rows) : us.length = rows.length ∧ ((us.zip rows).map (·.1) = us ∧ (us.zip rows).map (·.2) = rows) ∧ ∀ p ∈ us.zip rows, UnitAt U H p.1 p.2 := by
  induction h with
  | nil => exact ⟨rfl, ⟨rfl, rfl⟩, fun p hp => by cases hp⟩
  | @cons a b l m h t ih =>
    obtain ⟨i1, ⟨i2, i3⟩, i4⟩ := ih
    refine ⟨by rw [List.length_cons, List.length_cons, i1], ⟨by rw [List.zip_cons_cons, List.map_cons, i2], by rw [List.zip_cons_cons, List.map_cons, i3]⟩, fun p hp => ?_⟩
    rcases List.mem_cons.mp hp with z | z
    · rw [z]; exact h
    · exact i4 p z
section
variable {P : Program} {w : World} {K : PySem.W.Frag} {mg : Str → Option Value} {base : Heap} {U : Addr}
def spInO (U : Addr) : Sp := fun vs H Q _ => ∃ (t : Addr) (us : List V) (rows : List URow) (out : List Str), vs = [.ref t] ∧ H t = some (.tup us) ∧ UnitsAt U H us rows ∧ (rows.map (·.1)).Nodup ∧ KM.Short rows ∧ rows.length ≤ 8 ∧ Ord rows [] out ∧
  ∀ H' p fs, Same H H' → H' p = some (.lst fs) → Named U H' fs out → Q (.ref p) H'
abbrev sInO : Stmt := K86.top 76
abbrev nInO : List Str := ["units", "unit", "left", "found", "stands", "ready", "name", "one"]
theorem scInO : FnScope nInO ["units"] (defScope sInO) := ⟨rfl, rfl, rfl, by decide +kernel, rfl, by decide +kernel, by decide +kernel⟩
theorem cal_inO (T : T86 K mg U) : Cal L2.CX0 P w K mg base 1 "in_order" (spInO U) := by
  refine cal_of (k := 0) T.inO scInO (fun vs H Q E ⟨_, _, _, _, h, _⟩ => by rw [h]; rfl) (fun _ _ _ _ _ _ us hl => match us, hl with | [_], _ => rfl) fun f cdv A outer s H vs Q E hr h => ?_
  obtain ⟨t, us, rows, out, rfl, ht, hu, hnd, hsh, h8, ho, q⟩ := h
  refine ⟨_, pss_cons (ps_asg (pe_tup (pa_cons (pe_dc (own := [("unit", 1)]) (g := gName 1) (tt := tYes) rfl scInO.nd (pi_tup (pv 0)) (blkOk_by (N := nInO) (sc := defScope sInO) (by decide +kernel))
          (fun _ _ _ _ _ => pg_name (i := 1) scInO.nd rfl (Or.inl rfl)) (fun _ _ _ _ _ => pts_nil) (fun _ _ _ _ _ => pe_slK K (by rfl) (pv 1)) (fun _ _ _ _ _ => pv 1)) (pa_cons (pe_lst pa_nil) (pa_cons pe_dnewK pa_nil))))
        (pg_tup rfl (pgs_cons (pg_name (i := 2) scInO.nd rfl (Or.inr rfl)) (pgs_cons (pg_name (i := 3) scInO.nd rfl (Or.inl rfl)) (pgs_cons (pg_name (i := 4) scInO.nd rfl (Or.inr rfl)) pgs_nil)))))
    (pss_cons (ps_while PassesOwn.never (pt_cmpR (op_ne_d0 hr.units0) (pv 2) pe_dnewK (nomark _))
      (pss_cons (ps_lock (ps_setLc (i := 5) (own := [("name", 6)]) (g := gName 6) rfl scInO.nd rfl rfl (sw_true rfl rfl rfl (by decide +kernel)) (pi_keys (pv 2))
          (blkOk_by (N := nInO) (sc := defScope sInO) (by decide +kernel)) (fun _ _ _ _ _ => pg_name (i := 6) scInO.nd rfl (Or.inl rfl))
          (fun _ _ _ _ _ => pts_one (pt_val (pe_callB (cr_allK K (by rfl) (by rfl)) (by rfl) T.all (by decide +kernel) (pa_cons (pe_lc (own := [("one", 7)]) (g := gName 7) (tt := tYes) rfl scInO.nd (pi_tupK K (by rfl) (pe_slK K (by rfl) (pe_dget (hu_of hr) (pv 2) (pv 6) (fun _ _ => rfl))))
            (blkOk_by (N := nInO) (by rfl)) (fun _ _ _ _ _ => pg_name (i := 7) scInO.nd rfl (Or.inl rfl)) (fun _ _ _ _ _ => pts_nil) (fun _ _ _ _ _ => pe_cmp (pc_din (hu_of hr) (pv 7) (pv 4)) rfl)) pa_nil))))
          (fun _ _ _ _ _ => pv 6)))
      (pss_cons (ps_set (i := 1) scInO.nd rfl (Or.inl rfl) (pe_dpop1 (pv 2) (pe_callB (R1.cr_minS rfl) (by rfl) T.min (by decide +kernel) (pa_cons (pv 5) pa_nil)) ⟨rfl, rfl, rfl, rfl⟩))
      (pss_cons (ps_dput (hu_of hr) (pv 4) (SlX.pe_sl (pv 1)) pe_bl rfl)
      (pss_one (ps_expr (pe_bm PySem.F.plainAttrs_list PySem.F.slot_list_append PySem.F.type_list_append mt_append (pv 3) (pa_cons (pv 1) pa_nil)))))))) 
    (pss_one (ps_ret (pv 3)))), ?_⟩
  obtain ⟨zl, ⟨zf, zs⟩, zu⟩ := zip_units hu
  have hnd' : ((us.zip rows).map (·.2.1)).Nodup := by
    have : (us.zip rows).map (·.2.1) = ((us.zip rows).map (·.2)).map (·.1) := by rw [List.map_map]; rfl
    rw [this, zs]
    exact hnd
  have hlz : (us.zip rows).length = rows.length := by rw [← zs, List.length_map, zs]
  generalize hL0 : us.zip rows = L0 at zf zs zu hnd' hlz
  have ul : us.length = L0.length := by rw [← zf, List.length_map]
  refine ⟨_, rfl, t, rfl, ⟨_, SqT.of ht⟩, fun D hD => dc_tup (K := K) (xs := us) (fun i H2 => H2 D = some (.dK ((L0.take i).map keyU)) ∧ Same H H2) ⟨by rw [upd_same]; rfl, same_upd hD⟩ (fun i H2 _ p => SqT.of (p.2 _ _ ht)) (fun i x H2 hx p => ?_) (fun H2 p => ?_)⟩
  · obtain ⟨pr, hpr, hpx⟩ : ∃ pr, L0[i]? = some pr ∧ pr.1 = x := by
      rw [← zf, List.getElem?_map] at hx
      cases hz : L0[i]? with
      | none => rw [hz] at hx; cases hx
      | some pr => rw [hz] at hx; exact ⟨pr, rfl, Option.some.inj hx⟩
    subst hpx
    obtain ⟨p1, p2⟩ := p
    obtain ⟨an, dn, pn, vn, en, n1, n2, n3, n4⟩ := rdName T ((zu pr (List.mem_of_getElem? hpr)).same p2)
    refine ⟨rfl, tYes_go ⟨_, rfl, an, U, dn, pn, vn, 1, _, en, n1, n2, n3, n4, ⟨_, rfl, _, .inr pr.2.1, rfl, p1, ?_, ?_⟩⟩⟩
    · rw [List.length_map, List.length_take]
      exact Nat.lt_of_le_of_lt (show _ ≤ 8 by omega) (by decide)
    · rw [put_keyU hpr hnd']
      exact ⟨upd_same, same_updS hD p2⟩
  obtain ⟨p1, p2⟩ := p
  have hFD : H2 D = some (.dK (L0.map keyU)) := by rw [p1, List.take_of_length_le (by omega)]
  refine ⟨by decide, fun fa hfa sa hsa => ⟨(show 3 ≤ sizeLine by decide), fun tp htp => ⟨tp, _, rfl, SqT.of upd_same, rfl, _, _, rfl, _, _, rfl, _, _, rfl, rfl, ?_⟩⟩⟩
  have hfaH : H fa = none := same_none p2 hfa
  have hsaH : H sa = none := same_none (same_updS hfaH p2) hsa
  have e1 := upd_keep (v := .tup [V.ref D, V.ref fa, V.ref sa]) (upd_keep (v := .dK []) (upd_keep (v := .lst []) hFD hfa) hsa) htp
  have e2 := upd_keep (v := .tup [V.ref D, V.ref fa, V.ref sa]) (upd_keep (v := .dK []) (show upd H2 fa (.lst []) fa = _ from upd_same) hsa) htp
  have e3 := upd_keep (v := .tup [V.ref D, V.ref fa, V.ref sa]) (show upd (upd H2 fa (.lst [])) sa (.dK []) sa = _ from upd_same) htp
  have S3 : Same H (upd (upd (upd H2 fa (.lst [])) sa (.dK [])) tp (.tup [V.ref D, V.ref fa, V.ref sa])) := ((p2.trans (same_upd hfa)).trans (same_upd hsa)).trans (same_upd htp)
  generalize upd (upd (upd H2 fa (.lst [])) sa (.dK [])) tp (.tup [V.ref D, V.ref fa, V.ref sa]) = H3 at e1 e2 e3 S3
  have nfs : fa ≠ sa := fun z => by rw [← z, upd_same] at hsa; cases hsa
  have nDf : D ≠ fa := ne_of_none hFD hfa
  have nDs : D ≠ sa := ne_of_none (upd_keep (v := .lst []) hFD hfa) hsa
  refine ⟨fun m σ H1 => (∃ o1 o5 o6 o7, σ = [some (.ref t), o1, some (.ref D), some (.ref fa), some (.ref sa), o5, o6, o7]) ∧ Same H H1 ∧ ∃ (L : List (V × URow)) (fs : List V) (st : List Str), H1 D = some (.dK (L.map keyU)) ∧ H1 fa = some (.lst fs) ∧ H1 sa = some (.dK (foundK st)) ∧
    (∀ p ∈ L, UnitAt U H p.1 p.2 ∧ p.2 ∈ rows) ∧ (L.map (·.2.1)).Nodup ∧ Named U H fs st ∧ Ord (L.map (·.2)) st out ∧ L.length = m ∧ fs.length + L.length ≤ 8 ∧ (∀ p ∈ L, p.2.1 ∉ st),
    ⟨L0.length, ⟨_, _, _, _, rfl⟩, S3, L0, [], [], e1, e2, e3, fun p hp => ⟨zu p hp, ?_⟩, hnd', .nil, by rw [zs]; exact ho, rfl, by rw [List.length_nil]; omega, fun _ _ z => by cases z⟩, fun m σ H1 p => ?_⟩
  · rw [← zs]
    exact List.mem_map.mpr ⟨p, hp, rfl⟩
  obtain ⟨⟨o1, o5, o6, o7, rfl⟩, S4, L, fs, st, d1, d2, d3, d4, d5, d6, d7, d8, d9, d10⟩ := p
  refine ⟨_, rfl, fun z hz => ⟨D, z, L.map keyU, rfl, rfl, upd_keep d1 hz, upd_same, _, rfl, ?_⟩⟩
  have e1 := upd_keep (v := .dK []) d1 hz
  have e2 := upd_keep (v := .dK []) d2 hz
  have e3 := upd_keep (v := .dK []) d3 hz
  have S5 := S4.trans (same_upd (o := .dK []) hz)
  generalize upd H1 z (.dK []) = H4 at e1 e2 e3 S5
  generalize hLr : L.map (·.2) = rs at d7
  cases d7 with
  | nil =>
    have eL : L = [] := List.map_eq_nil_iff.mp hLr
    subst eL
    refine iteF ⟨_, rfl, q _ fa fs S5 e2 (d6.same S5)⟩
  | @step _ _ _ r h1 h2 h3 h4 => 
    subst hLr
    obtain ⟨pm, hpm, epm⟩ := List.mem_map.mp h1
    subst epm
    have hne : L ≠ [] := fun z => by rw [z] at hpm; cases hpm
    obtain ⟨n, rfl⟩ : ∃ n, m = n + 1 := ⟨m - 1, by have := List.length_pos_iff.mpr hne; omega⟩
    have hemp : (!(L.map keyU).isEmpty) = true := by
      cases L with
      | nil => exact absurd rfl hne
      | cons a l => rfl
    show (if (!(L.map keyU).isEmpty) = true then _ else _)
    rw [if_pos hemp]
    refine ⟨fun σ' H' => (∃ o1 o5 o6 o7, σ' = [some (.ref t), o1, some (.ref D), some (.ref fa), some (.ref sa), o5, o6, o7]) ∧ Same H H' ∧ ∃ (L : List (V × URow)) (fs : List V) (st : List Str), H' D = some (.dK (L.map keyU)) ∧ H' fa = some (.lst fs) ∧ H' sa = some (.dK (foundK st)) ∧
      (∀ p ∈ L, UnitAt U H p.1 p.2 ∧ p.2 ∈ rows) ∧ (L.map (·.2.1)).Nodup ∧ Named U H fs st ∧ Ord (L.map (·.2)) st out ∧ L.length = n ∧ fs.length + L.length ≤ 8 ∧ (∀ p ∈ L, p.2.1 ∉ st), fun σ' H' p => ⟨n, Nat.lt_succ_self _, p⟩, ?_⟩
    refine ⟨D, _, e1, True.intro, fun od => ?_⟩
    have g1 : upd H4 D (.frz od (.dK (L.map keyU))) D = _ := upd_same
    have g2 : upd H4 D (.frz od (.dK (L.map keyU))) fa = _ := (upd_ne nDf.symm).trans e2
    have g3 : upd H4 D (.frz od (.dK (L.map keyU))) sa = _ := (upd_ne nDs.symm).trans e3
    have S6 : Same H (upd H4 D (.frz od (.dK (L.map keyU)))) := same_updS hD S5
    generalize upd H4 D (.frz od (.dK (L.map keyU))) = H5 at g1 g2 g3 S6
    refine ⟨_, rfl, D, od, rfl, .inl ⟨L.map keyU, g1, fun Dr hDr => lc_keys (fun i H' => PvF H5 Dr (fm L (fun p => rdy st p.2) (fun p => V.str p.2.1)) i H') (PvF.zero hDr rfl) (fun i H' p => p.2 _ _ g1) (fun i k v H6 hi p => ?_) (fun H6 p => ?_)⟩⟩
    · obtain ⟨pr, hpr, hk⟩ : ∃ pr, L[i]? = some pr ∧ keyU pr = (k, v) := by
        rw [List.getElem?_map] at hi
        cases hz : L[i]? with
        | none => rw [hz] at hi; cases hi
        | some pr => rw [hz] at hi; exact ⟨pr, rfl, Option.some.inj hi⟩
      obtain ⟨rfl, rfl⟩ : Sum.inr pr.2.1 = k ∧ pr.1 = v := by cases hk; exact ⟨rfl, rfl⟩
      obtain ⟨p1, p2⟩ := p
      have k1 := p2 _ _ g1
      have k3 := p2 _ _ g3
      have hpL := List.mem_of_getElem? hpr
      obtain ⟨ax, dx, px, vx, tx, ex, n1, n2, n3, n4, n5⟩ := rdUses T (((d4 pr hpL).1).same (S6.trans p2))
      refine ⟨rfl, _, rfl, _, rfl, D, _, rfl, .inl ⟨L.map keyU, _, .inr ⟨od, k1⟩, rfl, (valV_keyU hpL d5).symm⟩, ax, U, dx, px, vx, 4, _, ex, n1, n2, n3, n4, tx, rfl, ⟨_, SqT.of n5⟩, fun D7 hD7 => lc_tup (K := K) (xs := pr.2.2.map V.str) (fun i H' => PvF H6 D7 (fm pr.2.2 (fun _ => true) (fun o => V.bl (decide (o ∈ st)))) i H') (PvF.zero hD7 rfl) (fun i H' _ p => SqT.of (p.2 _ _ n5)) (fun j y H7 hy p => ?_) (fun H7 p => ?_)⟩
      · obtain ⟨o, ho, eo⟩ : ∃ o, pr.2.2[j]? = some o ∧ V.str o = y := by
          rw [List.getElem?_map] at hy
          cases hz : pr.2.2[j]? with
          | none => rw [hz] at hy; cases hy
          | some o => rw [hz] at hy; exact ⟨o, rfl, Option.some.inj hy⟩
        subst eo
        have k3' := p.2 _ _ k3
        refine ⟨rfl, tYes_go ⟨_, rfl, _, rfl, sa, _, rfl, .inl ⟨foundK st, .inr o, .inl k3', rfl, rfl⟩, _, p.1, ?_, ?_⟩⟩
        · exact Nat.lt_of_le_of_lt fm_len (Nat.lt_of_le_of_lt (hsh _ (d4 pr hpL).2) (by decide))
        · rw [foundK_in]
          exact p.keep hD7 (Same.refl _) (fm_yes ho rfl)
      · refine ⟨D7, pr.2.2.map fun o => decide (o ∈ st), rfl, SqL.of ?_, _, rfl, ?_⟩
        · rw [p.1, fm_all (by simp), filt_true, List.map_map]
          rfl
        · have hrd : (pr.2.2.map fun o => decide (o ∈ st)).all id = rdy st pr.2 := by
            unfold rdy
            rw [List.all_map]
            rfl
          rw [hrd]
          have pS : PvF H5 Dr (fm L (fun p => rdy st p.2) (fun p => V.str p.2.1)) i H7 := ⟨p.2 _ _ p1, p2.trans p.2⟩
          cases hb : rdy st pr.2 with
          | true =>
            exact iteT ⟨_, rfl, _, pS.1, Nat.lt_of_le_of_lt (Nat.le_trans fm_len (show L.length ≤ 8 by omega)) (by decide), pS.keep hDr (Same.refl _) (fm_yes hpr hb)⟩
          | false =>
            exact iteF (pS.skip (Same.refl _) (fm_no hpr hb))
    · obtain ⟨p1, p2⟩ := p
      rw [fm_all (by simp)] at p1
      refine ⟨p2 _ _ g1, ?_⟩
      have nDr : D ≠ Dr := ne_of_none g1 hDr
      have nsr : sa ≠ Dr := ne_of_none g3 hDr
      have nfr : fa ≠ Dr := ne_of_none g2 hDr
      have f1 : upd H6 D (.dK (L.map keyU)) D = _ := upd_same
      have f2 : upd H6 D (.dK (L.map keyU)) fa = _ := (upd_ne nDf.symm).trans (p2 _ _ g2)
      have f3 : upd H6 D (.dK (L.map keyU)) sa = _ := (upd_ne nDs.symm).trans (p2 _ _ g3)
      have f4 : upd H6 D (.dK (L.map keyU)) Dr = _ := (upd_ne nDr.symm).trans p1
      have S7 : Same H (upd H6 D (.dK (L.map keyU))) := same_updS hD (S6.trans p2)
      generalize upd H6 D (.dK (L.map keyU)) = H7 at f1 f2 f3 f4 S7
      have hmr : ∀ y, y ∈ (L.filter fun p => rdy st p.2).map (·.2.1) ↔ ∃ p ∈ L, rdy st p.2 = true ∧ p.2.1 = y := fun y => by
        simp only [List.mem_map, List.mem_filter]
        exact ⟨fun ⟨p, ⟨h1, h2⟩, h3⟩ => ⟨p, h1, h2, h3⟩, fun ⟨p, h1, h2, h3⟩ => ⟨p, ⟨h1, h2⟩, h3⟩⟩
      refine ⟨_, rfl, D, rfl, .inl ⟨_, .inl f1⟩, _, rfl, Dr, (L.filter fun p => rdy st p.2).map (·.2.1), rfl, SqL.of (by rw [f4, List.map_map]; rfl), ?_, fun mn hmn hle => ?_⟩
      · intro z
        have := (hmr pm.2.1).mpr ⟨pm, hpm, h2, rfl⟩
        rw [z] at this
        cases this
      obtain ⟨pn, hpn, hrn, enm⟩ := (hmr mn).mp hmn
      have emn : mn = pm.2.1 := by
        refine R1.lt_tot ?_ ?_
        · rw [← enm]
          exact h3 pn.2 (List.mem_map.mpr ⟨pn, hpn, rfl⟩) hrn
        · exact hle _ ((hmr pm.2.1).mpr ⟨pm, hpm, h2, rfl⟩)
      subst emn
      refine ⟨L.map keyU, .inr pm.2.1, pm.1, f1, rfl, valV_keyU hpm d5, ?_⟩
      rw [drop_keyU]
      have w1 : upd H7 D (.dK ((L.filter fun p => decide (p.2.1 ≠ pm.2.1)).map keyU)) D = _ := upd_same
      have w2 : upd H7 D (.dK ((L.filter fun p => decide (p.2.1 ≠ pm.2.1)).map keyU)) fa = _ := (upd_ne nDf.symm).trans f2
      have w3 : upd H7 D (.dK ((L.filter fun p => decide (p.2.1 ≠ pm.2.1)).map keyU)) sa = _ := (upd_ne nDs.symm).trans f3
      have S8 : Same H (upd H7 D (.dK ((L.filter fun p => decide (p.2.1 ≠ pm.2.1)).map keyU))) := same_updS hD S7
      generalize upd H7 D (.dK ((L.filter fun p => decide (p.2.1 ≠ pm.2.1)).map keyU)) = H8 at w1 w2 w3 S8
      obtain ⟨an, dn, pnn, vn, en, n1, n2, n3, n4⟩ := rdName T ((d4 pm hpm).1.same S8)
      have hst : st.length ≤ 8 := by have := d6.length; omega
      refine ⟨_, rfl, _, rfl, an, U, dn, pnn, vn, 1, _, en, n1, n2, n3, n4, sa, _, rfl, DPut.k (k := .inr pm.2.1) w3 (by unfold foundK; rw [List.length_map]; exact Nat.lt_of_le_of_lt hst (by decide)), ?_⟩
      rw [foundK_put (d10 pm hpm)]
      have x1 : upd H8 sa (.dK (foundK (st ++ [pm.2.1]))) D = _ := (upd_ne nDs).trans w1
      have x2 : upd H8 sa (.dK (foundK (st ++ [pm.2.1]))) fa = _ := (upd_ne nfs).trans w2
      have x3 : upd H8 sa (.dK (foundK (st ++ [pm.2.1]))) sa = _ := upd_same
      have S9 : Same H (upd H8 sa (.dK (foundK (st ++ [pm.2.1])))) := same_updS hsaH S8
      generalize upd H8 sa (.dK (foundK (st ++ [pm.2.1]))) = H9 at x1 x2 x3 S9
      refine ⟨_, rfl, .inl ⟨rfl, _, SqL.of x2⟩, _, rfl, fa, fs, pm.1, rfl, rfl, x2, Nat.lt_of_le_of_lt (show _ ≤ 8 by omega) (by decide), ?_⟩
      refine ⟨⟨_, _, _, _, rfl⟩, same_updS hfaH S9, L.filter fun p => decide (p.2.1 ≠ pm.2.1), fs ++ [pm.1], st ++ [pm.2.1], (upd_ne nDf).trans x1, upd_same, (upd_ne nfs.symm).trans x3, fun p hp => d4 p (List.mem_filter.mp hp).1, ?_, paired_snoc ⟨pm.2, (d4 pm hpm).1, rfl⟩ d6, ?_, ?_, ?_, fun p hp z => ?_⟩
      · exact (List.Sublist.map _ (List.filter_sublist)).nodup d5
      · rw [List.filter_map] at h4
        exact h4
      · have := filter_ne_len hpm d5
        omega
      · have := filter_ne_len hpm d5
        rw [List.length_append, List.length_singleton]
        omega
      · obtain ⟨hp1, hp2⟩ := List.mem_filter.mp hp
        rcases List.mem_append.mp z with z | z
        · exact d10 p hp1 z
        · exact of_decide_eq_true hp2 (List.mem_singleton.mp z)
end
end R17

namespace R18
open PySem PySem.Spec PyProof.Rows L2 R9 R10 R11 R12 R13 R15 R16 R17
theorem call_isiSlK {X : Cx} (K : PySem.W.Frag) (hK : X.K = K) (u : Value) : CallR X (.builtin "isinstance") (SlX.rIsiSl K u) := by
  subst hK
  exact SlX.call_isiSl u
theorem _root_.R17.Ord.len {left : List URow} {st out : List Str} (h : Ord left st out) : out.length ≤ st.length + left.length := by
  induction h with
  | nil => exact Nat.le_add_right _ _
  | @step left st out r h1 h2 h3 h4 ih =>
    rw [List.length_append, List.length_singleton] at ih
    have : (left.filter fun q => decide (q.1 ≠ r.1)).length < left.length := List.length_filter_lt_length_iff_exists.mpr ⟨r, h1, by simp⟩
    omega
section
variable {P : Program} {w : World} {K : PySem.W.Frag} {mg : Str → Option Value} {base : Heap} {U C : Addr}
def spReqU (U C : Addr) : Sp := fun vs H Q E => ∃ (t : Addr) (us : List V) (rows : List URow), vs = [.ref t] ∧ H t = some (.tup us) ∧ UnitsAt U H us rows ∧ KM.Short rows ∧ 1 ≤ rows.length ∧ rows.length ≤ 8 ∧
  (reasonL rows = none → ∀ H', Same H H' → Q .non H') ∧ ∀ ws, reasonL rows = some ws → RefusedE C H E ws
abbrev sReqU : Stmt := K86.top 77
theorem scReqU : FnScope ["units", "good", "one"] ["units"] (defScope sReqU) := ⟨rfl, rfl, rfl, by decide +kernel, rfl, by decide +kernel, by decide +kernel⟩
theorem cal_reqU (T : T86 K mg U) (R : RefT P K mg C) : Cal (L2.CX P w) P w K mg base 4 "require_units" (spReqU U C) := by
  refine calX_of (k := 3) T.reqU scReqU (fun vs H Q E ⟨_, _, _, h, _⟩ => by rw [h]; rfl) (fun _ _ _ _ _ _ us hl => match us, hl with | [_], _ => rfl) fun f cdv A outer s H vs Q E hr h => ?_
  obtain ⟨t, us, rows, rfl, ht, hu, hsh, h1, h8, q1, q2⟩ := h
  refine ⟨_, pss_cons (ps_set (i := 1) scReqU.nd rfl (Or.inl rfl) (pe_and (pe_callB call_isi (by rfl) T.isinstance (by decide +kernel) (pa_cons (pv 0) (pa_cons (pe_bltn (v := .ty "tuple") (by rfl) T.tuple (by decide +kernel) rfl) pa_nil)))
      (pe_one (pe_chain op_le op_le pe_int (pe_callB call_len_seq (by rfl) T.len PySem.boot_len (pa_cons (pv 0) pa_nil)) (pe_gi (by rfl) T.gU)))))
    (pss_cons (ps_if (PW.pt (pw_or (pt_not (pt_val (pv 1))) (pw_or1 (pt_not (pt_val (pe_callB (cr_all rfl) (by rfl) T.all (by decide +kernel) (pa_cons (pe_lc (own := [("one", 2)]) (g := gName 2) (tt := tYes) rfl scReqU.nd (pi_tup (pv 0)) (blkOk_by (N := ["units", "good", "one"]) (sc := defScope sReqU) (by decide +kernel))
          (fun _ _ _ _ _ => pg_name (i := 2) scReqU.nd rfl (Or.inl rfl)) (fun _ _ _ _ _ => pts_nil)
          (fun _ _ _ _ _ => pe_callB (call_isiSlK K (by rfl) (.ref U)) (by rfl) T.isinstance (by decide +kernel) (pa_cons (pv 2) (pa_cons (pe_glob (by rfl) T.mU (show RelV (V.ref U) (Value.ref U) from rfl)) pa_nil)))) pa_nil))))))) pss_never pss_nil)
    (pss_one (ps_expr (pe_cX (cal_reqL T R) hr (by decide) (by rfl) (passes_call (takes_of rfl rfl rfl rfl) fun _ _ _ _ h => h) (pa_cons (pv 0) (pa_cons (pe_op op_rep (pe_lst (pa_cons pe_non pa_nil)) (pe_callB call_len_seq (by rfl) T.len PySem.boot_len (pa_cons (pv 0) pa_nil))) pa_nil)))))), ?_⟩
  have lu : us.length = rows.length := hu.length
  refine ⟨_, rfl, _, _, _, _, true, rfl, ClsV.ty _, .base (.tup ht), kit_ty (by decide +kernel), _, rfl, iteT ?_⟩
  refine ⟨_, rfl, _, _, rfl, .inr (SqT.of ht), ?_⟩
  refine ⟨_, _, rfl, rfl, _, rfl, ?_⟩
  rw [show decide ((1 : Int) ≤ (us.length : Int)) = true from decide_eq_true (by omega)]
  refine iteT ⟨_, _, rfl, rfl, _, rfl, _, rfl, ?_⟩
  rw [show decide ((us.length : Int) ≤ 8) = true from decide_eq_true (by omega)]
  refine iteF ⟨_, rfl, t, rfl, ⟨_, SqT.of ht⟩, fun D hD => lc_tup (K := K) (xs := us) (PvF H D (fm us (fun _ => true) fun _ => .bl true)) (PvF.zero hD rfl) (fun i H1 _ p => SqT.of (p.2 _ _ ht)) (fun i x H1 hx p => ?_) fun H1 p => ?_⟩
  · obtain ⟨r, hri, hur⟩ := paired_at (hu.same p.2) hx
    obtain ⟨a, dx, t', vs, e, hs, _, _, _⟩ := hur
    refine ⟨rfl, tYes_go ⟨_, rfl, a, U, dx, vs, .ref U, true, by rw [e], rfl, fun w z => z, hs, T.sc, T.si, T.ki, ?_⟩⟩
    exact ⟨_, p.1, Nat.lt_of_le_of_lt fm_len (Nat.lt_of_le_of_lt (show _ ≤ 8 by omega) (by decide)), p.keep hD (Same.refl _) (fm_yes hx rfl)⟩
  · have p1 := p.1
    rw [fm_all (Nat.le_refl _), filt_true] at p1
    refine ⟨D, us.map fun _ => true, rfl, SqL.of (by rw [List.map_map]; exact p1), ?_⟩
    rw [show (us.map fun _ => true).all id = true from by rw [List.all_eq_true]; intro b hb; obtain ⟨c, _, e⟩ := List.mem_map.mp hb; rw [← e]; rfl]
    have ht1 := p.2 _ _ ht
    refine ⟨_, rfl, iteF ⟨_, rfl, by decide, fun l hl => ⟨_, rfl, _, _, rfl, .inr (SqT.of (same_upd hl _ _ ht1)), l, _, [.non], rfl, rfl, upd_same, by omega, by omega, ?_, fun pl hpl => ?_⟩⟩⟩
    · rw [Int.toNat_natCast, List.length_singleton]
      exact Nat.le_trans (show _ ≤ 8 by omega) (by decide)
    · have S1 : Same H (upd (upd H1 l (.lst [V.non])) pl (.lst (List.replicate ((us.length : Int).toNat) [V.non]).flatten)) := (p.2.trans (same_upd hl)).trans (same_upd hpl)
      refine ⟨t, pl, us, rows, rfl, S1 _ _ ht, ?_, hu.same S1, hsh, h8, fun hn H' S' => q1 hn H' (S1.trans S'), fun ws hw H' d p S' => q2 ws hw H' d p (S1.trans S')⟩
      rw [upd_same, Int.toNat_natCast, lu]
      congr 2
      rw [List.flatten_replicate_singleton]
def spOrderO (U C : Addr) : Sp := fun vs H Q E => ∃ (t : Addr) (us : List V) (rows : List URow), vs = [.ref t] ∧ H t = some (.tup us) ∧ UnitsAt U H us rows ∧ KM.Short rows ∧ 1 ≤ rows.length ∧ rows.length ≤ 8 ∧
  (∀ ws, reasonL rows = some ws → RefusedE C H E ws) ∧ (reasonL rows = none → ∃ out, (rows.map (·.1)).Nodup ∧ Ord rows [] out ∧ ∀ H' p, Same H H' → H' p = some (.tup (out.map V.str)) → Q (.ref p) H')
abbrev sOrderO : Stmt := K86.top 78
theorem scOrderO : FnScope ["units", "unit"] ["units"] (defScope sOrderO) := ⟨rfl, rfl, rfl, by decide +kernel, rfl, by decide +kernel, by decide +kernel⟩
theorem cal_orderO (T : T86 K mg U) (R : RefT P K mg C) : Cal (L2.CX P w) P w K mg base 5 "order_of" (spOrderO U C) := by
  refine calX_of (k := 4) T.orderO scOrderO (fun vs H Q E ⟨_, _, _, h, _⟩ => by rw [h]; rfl) (fun _ _ _ _ _ _ us hl => match us, hl with | [_], _ => rfl) fun f cdv A outer s H vs Q E hr h => ?_
  obtain ⟨t, us, rows, rfl, ht, hu, hsh, h1, h8, q1, q2⟩ := h
  refine ⟨_, pss_cons (ps_expr (pe_cX (cal_reqU T R) hr (by decide) (by rfl) (passes_call (takes_of rfl rfl rfl rfl) fun _ _ _ _ h => h) (pa_cons (pv 0) pa_nil)))
    (pss_one (ps_ret (pe_callTy call_tuple_of (by rfl) T.tuple (by decide +kernel) (pa_cons (pe_lc (own := [("unit", 1)]) (g := gName 1) (tt := tYes) rfl scOrderO.nd (pi_list (pe_c (cal_inO T) hr (by decide) (by rfl) (pa_cons (pv 0) pa_nil))) (blkOk_by (N := ["units", "unit"]) (sc := defScope sOrderO) (by decide +kernel))
          (fun _ _ _ _ _ => pg_name (i := 1) scOrderO.nd rfl (Or.inl rfl)) (fun _ _ _ _ _ => pts_nil)
          (fun _ _ _ _ _ => pe_slK K (by rfl) (pv 1))) pa_nil)))), ?_⟩
  refine ⟨_, rfl, t, us, rows, rfl, ht, hu, hsh, h1, h8, fun hn H1 S1 => ?_, q1⟩
  obtain ⟨out, hnd, ho, q⟩ := q2 hn
  refine ⟨_, rfl, t, us, rows, out, rfl, S1 _ _ ht, hu.same S1, hnd, hsh, h8, ho, fun H2 fa fs S2 hfs hN => ?_⟩
  have lo := ho.len
  have lf : fs.length = out.length := hN.length
  refine ⟨fa, rfl, ⟨_, SqL.of hfs⟩, fun D hD => lc_list (K := K) (xs := fs) (PvF H2 D (fm out (fun _ => true) V.str)) (PvF.zero hD rfl) (fun i H3 _ p => SqL.of (p.2 _ _ hfs)) (fun i x H3 hx p => ?_) fun H3 p => ?_⟩
  · obtain ⟨n, hn', r, hur, rfl⟩ := paired_at hN hx
    obtain ⟨an, dn, pn, vn, en, n1, n2, n3, n4⟩ := rdName T (hur.same p.2)
    refine ⟨rfl, tYes_go ⟨_, rfl, an, U, dn, pn, vn, 1, _, en, n1, n2, n3, n4, ?_⟩⟩
    exact ⟨_, p.1, Nat.lt_of_le_of_lt fm_len (Nat.lt_of_le_of_lt (show _ ≤ 8 by rw [List.length_nil] at lo; omega) (by decide)), p.keep hD (Same.refl _) (fm_yes hn' rfl)⟩
  · have p1 := p.1
    rw [fm_all (by omega), filt_true] at p1
    exact ⟨D, _, rfl, .inl ⟨SqL.of p1, fun l hl => q _ _ ((S1.trans S2).trans (p.2.trans (same_upd hl))) upd_same⟩⟩
end
end R18

namespace R19
open PySem PySem.Spec PyProof.Rows L2 R9 R10 R11 R12 R13 R15
/-! ### the draws -/
def Cup (H : Hp) (c : Addr) : Prop := ∃ i j k : Int, 0 ≤ i ∧ H c = some (.lst [.int i, .int j, .int k])
/-- but for the cup, all stays -/
def SameX (c : Addr) (H H' : Hp) : Prop := ∀ b u, b ≠ c → H b = some u → H' b = some u
theorem SameX.refl {c : Addr} (H : Hp) : SameX c H H := fun _ _ _ e => e
theorem SameX.of {c : Addr} {H H' : Hp} (S : Same H H') : SameX c H H' := fun b u _ e => S b u e
theorem SameX.trans {c : Addr} {H H1 H2 : Hp} (S : SameX c H H1) (T : SameX c H1 H2) : SameX c H H2 := fun b u n e => T b u n (S b u n e)
theorem Cup.same {c : Addr} {H H' : Hp} (S : Same H H') (h : Cup H c) : Cup H' c := by
  obtain ⟨i, j, k, h0, h⟩ := h
  exact ⟨i, j, k, h0, S _ _ h⟩
theorem max0 (j : Int) : (0 : Int) ≤ (if j > 0 then j else 0) := by
  split <;> omega
section
variable {P : Program} {w : World} {K : PySem.W.Frag} {mg : Str → Option Value} {base : Heap} {U C : Addr}
def spSip : Sp := fun vs H Q _ => ∃ (c : Addr) (n : Nat), vs = [.ref c, .int n] ∧ Cup H c ∧ 1 ≤ n ∧ n ≤ 1000 ∧ ∀ (r : Nat) H', r < n → SameX c H H' → Cup H' c → Q (.int (r : Nat)) H'
abbrev sSip : Stmt := K86.top 81
abbrev nSip : List Str := ["_law_cup_here", "_law_total", "_law_found", "_law_one", "_law_two"]
theorem scSip : FnScope nSip ["_law_cup_here", "_law_total"] (defScope sSip) := ⟨rfl, rfl, rfl, by decide +kernel, rfl, by decide +kernel, by decide +kernel⟩
theorem cal_sip (T : T86 K mg U) : Cal L2.CX0 P w K mg base 1 "_law_sip" spSip := by
  refine cal_of (k := 0) T.sip scSip (fun vs H Q E ⟨_, _, h, _⟩ => by rw [h]; rfl) (fun _ _ _ _ _ _ us hl => match us, hl with | [_, _], _ => rfl) fun f cdv A outer s H vs Q E hr h => ?_
  obtain ⟨c, n, rfl, ⟨i, j, k, hi0, hc⟩, h1, h2, q⟩ := h
  refine ⟨_, pss_cons (ps_if (pt_cmp (pc_gt (pe_ix ix_list (pv 0) pe_int (fun _ _ => rfl)) pe_int))
      (pss_cons (ps_set (i := 2) scSip.nd rfl (Or.inl rfl) (pe_op op_mod (pe_callTy call_int1 (by rfl) T.int (by decide +kernel) (pa_cons (pe_ix ix_list (pv 0) pe_int (fun _ _ => rfl)) pa_nil)) (pv 1)))
      (pss_cons (ps_asg (pe_op op_fdiv (pe_ix ix_list (pv 0) pe_int (fun _ _ => rfl)) (pv 1)) (pg_sub (pv 0) pe_int set_list))
      (pss_one (ps_ret (pv 2))))) pss_nil)
    (pss_cons (ps_asg (pe_op op_add (pe_ix ix_list (pv 0) pe_int (fun _ _ => rfl)) pe_int) (pg_sub (pv 0) pe_int set_list))
    (pss_cons (ps_set (i := 3) scSip.nd rfl (Or.inl rfl) (pe_op op_mod (pe_callTy call_int1 (by rfl) T.int (by decide +kernel) (pa_cons (pe_op op_add (pe_ix ix_list (pv 0) pe_int (fun _ _ => rfl)) (pe_op op_mul pe_int (pe_ix ix_list (pv 0) pe_int (fun _ _ => rfl)))) pa_nil)) pe_int))
    (pss_cons (ps_set (i := 4) scSip.nd rfl (Or.inl rfl) (pe_op op_add (pe_op op_mul (pe_op op_mod (pe_callTy call_int1 (by rfl) T.int (by decide +kernel) (pa_cons (pe_op op_add (pe_op op_mul (pv 3) (pv 3)) (pe_op op_mul pe_int (pe_ix ix_list (pv 0) pe_int (fun _ _ => rfl)))) pa_nil)) pe_int) pe_int) (pv 3)))
    (pss_one (ps_ret (pe_op op_mod (pe_callTy call_int1 (by rfl) T.int (by decide +kernel) (pa_cons (pe_op op_fdiv (pv 4) pe_int) pa_nil)) (pv 1))))))), ?_⟩
  refine ⟨_, rfl, c, _, 0, .int i, rfl, rfl, SqL.of hc, rfl, i, 0, rfl, rfl, decide (0 < i), rfl, ?_⟩
  by_cases hi : 0 < i
  · rw [decide_eq_true hi]
    refine iteT ⟨_, rfl, c, _, 0, .int i, rfl, rfl, SqL.of hc, rfl, .inl ⟨_, rfl, _, rfl, _, _, rfl, rfl, show (0 : Int) < (n : Int) by omega, ?_⟩⟩
    have hr1 : 0 ≤ i % (n : Int) := Int.emod_nonneg _ (by omega)
    have hr2 : i % (n : Int) < n := Int.emod_lt_of_pos _ (by omega)
    obtain ⟨r, hr⟩ := Int.eq_ofNat_of_zero_le hr1
    refine ⟨_, rfl, c, _, 0, .int i, rfl, rfl, SqL.of hc, rfl, _, rfl, _, _, rfl, rfl, show (0 : Int) < (n : Int) ∧ (n : Int) < 1073741824 from ⟨by omega, by omega⟩, ?_⟩
    refine ⟨_, rfl, c, _, 0, 0, rfl, rfl, hc, rfl, _, rfl, ?_⟩
    show Q (.int (i % (n : Int))) _
    rw [hr]
    exact q r _ (by omega) (fun b u hb e => by rw [upd_ne hb]; exact e) ⟨_, j, k, Int.ediv_nonneg hi0 (by omega), upd_same⟩
  · rw [decide_eq_false hi]
    refine iteF ?_
    refine ⟨_, rfl, c, _, 2, .int k, rfl, rfl, SqL.of hc, rfl, _, _, rfl, rfl, _, rfl, c, _, 2, 2, rfl, rfl, hc, rfl, ?_⟩
    have hc1 : upd H c (.lst ([V.int i, .int j, .int k].set 2 (.int (k + 1)))) c = some (.lst [.int i, .int j, .int (k + 1)]) := upd_same
    have S1 : SameX c H (upd H c (.lst ([V.int i, .int j, .int k].set 2 (.int (k + 1))))) := fun b u hb e => by rw [upd_ne hb]; exact e
    generalize upd H c (.lst ([V.int i, .int j, .int k].set 2 (.int (k + 1)))) = H1 at hc1 S1
    refine ⟨_, rfl, c, _, 1, .int j, rfl, rfl, SqL.of hc1, rfl, _, rfl, c, _, 2, _, rfl, rfl, SqL.of hc1, rfl, _, _, rfl, rfl, .inl ⟨by decide, by decide⟩, _, _, rfl, rfl, .inl ⟨_, rfl, _, _, rfl, rfl, show (0 : Int) < 2305843009213693921 by decide, ?_⟩⟩
    have ho1 : 0 ≤ (j + 7919 * (k + 1)) % 2305843009213693921 := Int.emod_nonneg _ (by decide)
    have ho2 : (j + 7919 * (k + 1)) % 2305843009213693921 < 2305843009213693921 := Int.emod_lt_of_pos _ (by decide)
    refine ⟨_, rfl, _, rfl, _, _, rfl, rfl, .inl ⟨by omega, by omega⟩, _, rfl, c, _, 2, _, rfl, rfl, SqL.of hc1, rfl, _, _, rfl, rfl, .inl ⟨by decide, by decide⟩, _, _, rfl, rfl, .inl ⟨_, rfl, _, _, rfl, rfl, show (0 : Int) < 2305843009213693951 by decide, _, _, rfl, rfl, .inr ⟨by decide, by decide⟩, _, rfl, _, _, rfl, rfl, ?_⟩⟩
    refine ⟨_, rfl, _, _, rfl, rfl, show (0 : Int) < 65536 ∧ (65536 : Int) < 1073741824 from ⟨by decide, by decide⟩, .inl ⟨_, rfl, _, rfl, _, _, rfl, rfl, show (0 : Int) < (n : Int) by omega, ?_⟩⟩
    have key : ∀ z : Int, Q (.int (z % (n : Int))) H1 := fun z => by
      have hr1 : 0 ≤ z % (n : Int) := Int.emod_nonneg _ (by omega)
      have hr2 : z % (n : Int) < n := Int.emod_lt_of_pos _ (by omega)
      obtain ⟨r, hr⟩ := Int.eq_ofNat_of_zero_le hr1
      rw [hr]
      exact q r _ (by omega) S1 ⟨_, _, _, hi0, hc1⟩
    exact key _
def spCup (K : PySem.W.Frag) : Sp := fun vs H Q _ => ∃ (a : Addr) (ns : List Int) (p : Nat), vs = [.ref a, .int (p : Nat)] ∧ SqL K H a (ns.map V.int) ∧ p ≤ 5 ∧ ∀ H' c, Same H H' → H c = none → Cup H' c → Q (.ref c) H'
abbrev sCup : Stmt := K86.top 80
abbrev nCup : List Str := ["_law_script", "_law_spot", "_law_cell", "_law_great"]
theorem scCup : FnScope nCup ["_law_script", "_law_spot"] (defScope sCup) := ⟨rfl, rfl, rfl, by decide +kernel, rfl, by decide +kernel, by decide +kernel⟩
theorem cal_cup (T : T86 K mg U) : Cal L2.CX0 P w K mg base 1 "_law_cup" (spCup K) := by
  refine cal_of (k := 0) T.cup scCup (fun vs H Q E ⟨_, _, _, h, _⟩ => by rw [h]; rfl) (fun _ _ _ _ _ _ us hl => match us, hl with | [_, _], _ => rfl) fun f cdv A outer s H vs Q E hr h => ?_
  obtain ⟨a, ns, p, rfl, ha, hp, q⟩ := h
  refine ⟨_, pss_cons (ps_set (i := 2) scCup.nd rfl (Or.inl rfl) (pe_ifExp (pt_cmp (pc_lt (pv 1) (pe_callB call_len_seq (by rfl) T.len PySem.boot_len (pa_cons (pv 0) pa_nil)))) (pe_ix ix_list (pv 0) (pv 1) (fun _ _ => rfl)) (pe_op op_add (pe_op op_mul pe_int (pv 1)) pe_int)))
    (pss_cons (ps_set (i := 3) scCup.nd rfl (Or.inl rfl) (pe_op op_mod (pe_callB call_abs (by rfl) T.abs (by decide +kernel) (pa_cons (pe_callTy call_int1 (by rfl) T.int (by decide +kernel) (pa_cons (pv 2) pa_nil)) pa_nil)) (pe_op R1.op_powB (pe_op R1.op_powB pe_int pe_int) pe_int)))
    (pss_one (ps_ret (pe_lst (pa_cons (pe_callB (call_max2 rfl) (by rfl) T.max (by decide +kernel) (pa_cons pe_int (pa_cons (pe_op op_sub (pv 3) (pe_op R1.op_powB pe_int pe_int)) pa_nil)))
      (pa_cons (pe_op op_add (pe_op op_add (pe_op op_add (pe_op op_mul (pe_op op_mod (pv 3) pe_int) pe_int) (pe_op op_mul pe_int (pv 1))) (pe_op op_mul pe_int (pe_callTy call_int1 (by rfl) T.int (by decide +kernel) (pa_cons (pe_cmp (pc_lt (pv 2) pe_int)) pa_nil)))) pe_int)
      (pa_cons pe_int pa_nil))))))), ?_⟩
  have hX : ∃ z : Int, (if p < ns.length then ns[p]? = some z else z = 59 * (p : Int) + 23) := by
    by_cases hp2 : p < ns.length
    · exact ⟨ns[p], by rw [if_pos hp2]; simp⟩
    · exact ⟨_, by rw [if_neg hp2]⟩
  obtain ⟨z, hz⟩ := hX
  refine ⟨_, rfl, _, rfl, a, _, rfl, .inl ha, _, _, rfl, rfl, decide ((p : Int) < ((ns.map V.int).length : Int)), rfl, ?_⟩
  by_cases hp2 : p < ns.length
  case' pos =>
    rw [if_pos hp2] at hz
    rw [show decide ((p : Int) < ((ns.map V.int).length : Int)) = true from decide_eq_true (by rw [List.length_map]; omega)]
    refine iteT ⟨_, rfl, _, rfl, a, _, p, .int z, rfl, rfl, ha, atI_nat (by rw [List.getElem?_map, hz]; rfl), ?_⟩
  case' neg =>
    rw [if_neg hp2] at hz
    rw [show decide ((p : Int) < ((ns.map V.int).length : Int)) = false from decide_eq_false (by rw [List.length_map]; omega)]
    refine iteF ⟨_, rfl, _, _, rfl, rfl, .inl ⟨by decide, by decide⟩, _, _, rfl, rfl, ?_⟩
  all_goals
    refine ⟨_, rfl, .inl ⟨_, rfl, _, rfl, _, _, rfl, rfl, by unfold R1.CPowB; decide +kernel, _, _, rfl, rfl, by unfold R1.CPowB; decide +kernel, _, _, rfl, rfl, show (0 : Int) < _ by decide +kernel, ?_⟩⟩
    refine ⟨_, rfl, _, _, rfl, rfl, by unfold R1.CPowB; decide +kernel, _, _, rfl, rfl, _, _, rfl, ?_⟩
    refine ⟨_, rfl, _, _, rfl, rfl, show (0 : Int) < _ by decide +kernel, _, _, rfl, rfl, .inr ⟨by decide, by decide⟩, _, rfl, _, _, rfl, rfl, .inl ⟨by decide, by decide⟩, _, _, rfl, rfl, _, rfl, _, _, rfl, rfl, .inr ⟨_, rfl, _, _, rfl, rfl, .inl ⟨by decide, by decide⟩, _, _, rfl, rfl, _, _, rfl, rfl, ?_⟩⟩
    refine ⟨show 3 ≤ sizeLine by decide, fun l hl => q _ l (same_upd hl) hl ⟨_, _, _, ?_, upd_same⟩⟩
    exact max0 _
end
end R19

namespace R20
open PySem PySem.Spec PyProof.Rows L2 R9 R10 R11 R12 R13 R15 R17 R19
/-! ### drawn rows -/
def names6 : List Str := ["Base", "Mid", "Top", "Able", "Zoo", "Key"]
structure Wf (rows : List URow) : Prop where
  pos : 1 ≤ rows.length
  len : rows.length ≤ 7
  name : ∀ r ∈ rows, r.1 ∈ names6
  uses : ∀ r ∈ rows, ∀ o ∈ r.2, o ∈ names6 ∨ o = "Gone"
  own : ∀ r ∈ rows, r.1 ∉ r.2
  nodup : ∀ r ∈ rows, r.2.Nodup
  short : ∀ r ∈ rows, r.2.length ≤ 7
  inj : ∀ r ∈ rows, ∀ r' ∈ rows, r.1 = r'.1 → r = r'
/-- a row: a name, and the tuple of its uses -/
def RowAt (H : Hp) (v : V) (r : URow) : Prop := ∃ a t, v = .ref a ∧ H a = some (.tup [.str r.1, .ref t]) ∧ H t = some (.tup (r.2.map V.str))
abbrev RowsAt (H : Hp) : List V → List URow → Prop := Paired (RowAt H)
/-- tuples stay -/
def KeepT (H H' : Hp) : Prop := ∀ b xs, H b = some (.tup xs) → H' b = some (.tup xs)
theorem KeepT.refl (H : Hp) : KeepT H H := fun _ _ e => e
theorem KeepT.trans {H H1 H2 : Hp} (S : KeepT H H1) (T : KeepT H1 H2) : KeepT H H2 := fun b u e => T b u (S b u e)
theorem KeepT.of {H H' : Hp} (S : Same H H') : KeepT H H' := fun b u e => S b _ e
theorem KeepT.ofX {c : Addr} {H H' : Hp} (S : SameX c H H') (h : Cup H c) : KeepT H H' := fun b u e => S b _ (fun z => by
  obtain ⟨i, j, k, _, h⟩ := h
  rw [z, h] at e
  cases e) e
theorem KeepT.lst {l : Addr} {H : Hp} {xs : List V} {o : HO} (h : H l = some (.lst xs)) : KeepT H (upd H l o) := fun b u e => by
  rw [upd_ne (fun z => by rw [z, h] at e; cases e)]
  exact e
theorem RowAt.keep {H H' : Hp} (S : KeepT H H') {v : V} {r : URow} (h : RowAt H v r) : RowAt H' v r := by
  obtain ⟨a, t, e, h1, h2⟩ := h
  exact ⟨a, t, e, S _ _ h1, S _ _ h2⟩
theorem RowsAt.keep {H H' : Hp} (S : KeepT H H') : ∀ {rs : List V} {rows : List URow}, RowsAt H rs rows → RowsAt H' rs rows
  | _, _, .nil => .nil
  | _, _, .cons h t => .cons (h.keep S) (RowsAt.keep S t)
theorem sameX_upd {c D : Addr} {H H1 : Hp} {o : HO} (hD : H D = none) (S : SameX c H H1) : SameX c H (upd H1 D o) := fun b u n e => by
  rw [upd_ne (ne_of_none e hD)]
  exact S b u n e
theorem paired_take {α β : Type} {F : α → β → Prop} : ∀ {l : List α} {m : List β} (i : Nat), Paired F l m → Paired F (l.take i) (m.take i)
  | _, _, 0, _ => .nil
  | _, _, i + 1, .nil => .nil
  | _, _, i + 1, .cons h t => .cons h (paired_take i t)
theorem paired_drop {α β : Type} {F : α → β → Prop} : ∀ {l : List α} {m : List β} (i : Nat), Paired F l m → Paired F (l.drop i) (m.drop i)
  | _, _, 0, h => h
  | _, _, i + 1, .nil => .nil
  | _, _, i + 1, .cons h t => paired_drop i t
theorem paired_app {α β : Type} {F : α → β → Prop} : ∀ {l l' : List α} {m m' : List β}, Paired F l m → Paired F l' m' → Paired F (l ++ l') (m ++ m')
  | _, _, _, _, .nil, h => h
  | _, _, _, _, .cons h t, q => .cons h (paired_app t q)
theorem sameX_none {c a : Addr} {H H1 : Hp} (S : SameX c H H1) (hc : Cup H1 c) (h : H1 a = none) : H a = none ∧ a ≠ c := by
  have n : a ≠ c := fun z => by obtain ⟨_, _, _, _, q⟩ := hc; rw [z, q] at h; cases h
  refine ⟨?_, n⟩
  cases e : H a with
  | none => rfl
  | some u => rw [S a u n e] at h; cases h
theorem _root_.R19.Cup.upd {c a : Addr} {H : Hp} {o : HO} (hc : Cup H c) (n : a ≠ c) : Cup (upd H a o) c := by
  obtain ⟨i, j, k, h0, h⟩ := hc
  exact ⟨i, j, k, h0, (upd_ne n.symm).trans h⟩
/-- what stays within a turn -/
structure Gr (c ln lr : Addr) (H0 : Hp) (ns : List Str) (rs : List V) (rows : List URow) (H : Hp) : Prop where
  sx : SameX c H0 H
  cup : Cup H c
  n : H ln = some (.lst (ns.map V.str))
  r : H lr = some (.lst rs)
  rr : RowsAt H rs rows
  nc : ln ≠ c
  rc : lr ≠ c
  nr : ln ≠ lr
section
variable {c ln lr : Addr} {H0 H H' : Hp} {ns : List Str} {rs : List V} {rows : List URow}
theorem Gr.sip (g : Gr c ln lr H0 ns rs rows H) (S : SameX c H H') (hc : Cup H' c) : Gr c ln lr H0 ns rs rows H' :=
  ⟨g.sx.trans S, hc, S _ _ g.nc g.n, S _ _ g.rc g.r, g.rr.keep (KeepT.ofX S g.cup), g.nc, g.rc, g.nr⟩
theorem Gr.new (g : Gr c ln lr H0 ns rs rows H) {p : Addr} {o : HO} (hp : H p = none) : Gr c ln lr H0 ns rs rows (upd H p o) :=
  have z := sameX_none g.sx g.cup hp
  ⟨sameX_upd z.1 g.sx, g.cup.upd z.2, upd_keep g.n hp, upd_keep g.r hp, g.rr.keep (KeepT.of (same_upd hp)), g.nc, g.rc, g.nr⟩
theorem Gr.mut (g : Gr c ln lr H0 ns rs rows H) {p : Addr} {o : HO} {xs : List V} (hp : H p = some (.lst xs)) (h0 : H0 p = none) (h1 : p ≠ c) (h2 : p ≠ ln) (h3 : p ≠ lr) : Gr c ln lr H0 ns rs rows (upd H p o) :=
  ⟨sameX_upd h0 g.sx, g.cup.upd h1, (upd_ne h2.symm).trans g.n, (upd_ne h3.symm).trans g.r, g.rr.keep (KeepT.lst hp), g.nc, g.rc, g.nr⟩
end
theorem cutS {a b : TS} {D : Ends} {σ : L2.St} {H : Hp} (Pv : L2.St → Hp → Prop) (hb : ∀ σ' H', Pv σ' H' → b D σ' H') (ha : (∀ σ' H', Pv σ' H' → b D σ' H') → tSeq a b D σ H) : tSeq a b D σ H := ha hb
def SomeOk (n : Str) (ss : List Str) : Prop := (∀ o ∈ ss, o ∈ names6 ∧ o ≠ n) ∧ ss.Nodup ∧ ss.length ≤ 6
def SomeOk2 (n : Str) (ss : List Str) : Prop := (∀ o ∈ ss, (o ∈ names6 ∨ o = "Gone") ∧ o ≠ n) ∧ ss.Nodup ∧ ss.length ≤ 7
theorem not_mem_take {α : Type} {l : List α} {i : Nat} {n : α} (h : l[i]? = some n) (hn : l.Nodup) : n ∉ l.take i := by
  intro hc
  obtain ⟨j, hj, ej⟩ := List.mem_iff_getElem.mp hc
  have hj' := hj
  rw [List.length_take] at hj'
  rw [List.getElem_take] at ej
  obtain ⟨hi, ei⟩ := List.getElem?_eq_some_iff.mp h
  have := (List.getElem_inj (i := j) (j := i) (h₀ := by omega) (h₁ := hi) hn).mp (by rw [ej, ei])
  omega
theorem str_ne {o n : Str} : (!decide (V.str o = V.str n)) = decide (o ≠ n) := by
  by_cases e : o = n
  · subst e; simp
  · rw [decide_eq_true e, decide_eq_false (fun z => e (V.str.inj z))]
    rfl
def RowOk (r : URow) : Prop := (∀ o ∈ r.2, o ∈ names6 ∨ o = "Gone") ∧ r.1 ∉ r.2 ∧ r.2.Nodup ∧ r.2.length ≤ 7
theorem inj_of {rows : List URow} (h : (rows.map (·.1)).Nodup) : ∀ r ∈ rows, ∀ r' ∈ rows, r.1 = r'.1 → r = r' := by
  induction rows with
  | nil => exact fun r hr => by cases hr
  | cons q rows ih =>
    rw [List.map_cons, List.nodup_cons] at h
    intro r hr r' hr' e
    rcases List.mem_cons.mp hr with z | z
    · rcases List.mem_cons.mp hr' with z' | z'
      · rw [z, z']
      · exact absurd (List.mem_map.mpr ⟨r', z', by rw [← e, z]⟩) h.1
    · rcases List.mem_cons.mp hr' with z' | z'
      · exact absurd (List.mem_map.mpr ⟨r, z, by rw [e, z']⟩) h.1
      · exact ih h.2 r z r' z' e
theorem wf_of {ns : List Str} {rows rows' : List URow} (hm : rows.map (·.1) = ns) (nnd : ns.Nodup) (nsub : ∀ n ∈ ns, n ∈ names6) (hok : ∀ r ∈ rows, RowOk r) (hs : ∀ r ∈ rows', r ∈ rows) (h1 : 1 ≤ rows'.length) (h7 : rows'.length ≤ 7) : Wf rows' :=
  ⟨h1, h7, fun r hr => nsub _ (hm ▸ List.mem_map.mpr ⟨r, hs r hr, rfl⟩), fun r hr => (hok r (hs r hr)).1, fun r hr => (hok r (hs r hr)).2.1, fun r hr => (hok r (hs r hr)).2.2.1, fun r hr => (hok r (hs r hr)).2.2.2,
    fun r hr r' hr' e => inj_of (hm ▸ nnd) r (hs r hr) r' (hs r' hr') e⟩
theorem cut_drop {us : List V} {i : Nat} (h : i ≤ us.length) : cutV us (some (i : Int)) none = us.drop i := by
  unfold cutV
  rw [HT.sIx_none, HT.sIx_nat, Nat.min_eq_left h, List.take_of_length_le (by rw [List.length_drop]; omega)]
section
variable {P : Program} {w : World} {K : PySem.W.Frag} {mg : Str → Option Value} {base : Heap} {U C : Addr}
def spGraph : Sp := fun vs H Q _ => ∃ c : Addr, vs = [.ref c] ∧ Cup H c ∧ ∀ H' l rs rows, SameX c H H' → Cup H' c → H l = none → H' l = some (.lst rs) → RowsAt H' rs rows → Wf rows → Q (.ref l) H'
abbrev sGraph : Stmt := K86.top 83
abbrev nGraph : List Str := ["_law_cup_here", "_law_names", "_law_rows", "_law_at", "_law_name", "_law_some", "_law_one", "_law_uses", "_law_left", "_law_found", "_law_spot"]
theorem scGraph : FnScope nGraph ["_law_cup_here"] (defScope sGraph) := ⟨rfl, rfl, rfl, by decide +kernel, rfl, by decide +kernel, by decide +kernel⟩
theorem cal_graph (T : T86 K mg U) : Cal L2.CX0 P w K mg base 2 "_law_graph" spGraph := by
  refine cal_of (k := 1) T.graph scGraph (fun vs H Q E ⟨_, h, _⟩ => by rw [h]; rfl) (fun _ _ _ _ _ _ us hl => match us, hl with | [_], _ => rfl) fun f cdv A outer s H vs Q E hr h => ?_
  obtain ⟨c, rfl, hc, q⟩ := h
  refine ⟨_, pss_cons (ps_set (i := 1) scGraph.nd rfl (Or.inl rfl) (pe_slice sl_list (pe_lst (pa_cons pe_str (pa_cons pe_str (pa_cons pe_str (pa_cons pe_str (pa_cons pe_str (pa_cons pe_str pa_nil))))))) po_none
      (po_some (pe_op op_add pe_int (pe_c (cal_sip T) hr (by decide) (by rfl) (pa_cons (pv 0) (pa_cons pe_int pa_nil)))))))
    (pss_cons (ps_set (i := 2) scGraph.nd rfl (Or.inl rfl) (pe_lst pa_nil))
    (pss_cons (ps_for PassesOwn.never rfl (pi_enum (by rfl) T.enumerate (pa_cons (pv 1) pa_nil)) (pg_tup rfl (pgs_cons (pg_name (i := 3) scGraph.nd rfl (Or.inl rfl)) (pgs_cons (pg_name (i := 4) scGraph.nd rfl (Or.inr rfl)) pgs_nil)))
      (pss_cons (ps_set (i := 5) scGraph.nd rfl (Or.inl rfl) (pe_ifExp (pt_cmp (pc_gt (pe_c (cal_sip T) hr (by decide) (by rfl) (pa_cons (pv 0) (pa_cons pe_int pa_nil))) pe_int))
          (pe_slice sl_list (pv 1) po_none (po_some (pv 3)))
          (pe_lc (own := [("_law_one", 6)]) (g := gName 6) rfl scGraph.nd (pi_list (pv 1)) (blkOk_by (N := nGraph) (sc := defScope sGraph) (by decide +kernel))
            (fun _ _ _ _ _ => pg_name (i := 6) scGraph.nd rfl (Or.inl rfl)) (fun _ _ _ _ _ => pts_one (pt_cmpR op_ne (pv 6) (pv 4) (nomark _))) (fun _ _ _ _ _ => pv 6))))
      (pss_cons (ps_set (i := 5) scGraph.nd rfl (Or.inl rfl) (pe_ifExp (pt_cmp (pc_eqI (pe_c (cal_sip T) hr (by decide) (by rfl) (pa_cons (pv 0) (pa_cons pe_int pa_nil))) pe_int))
          (pe_op op_cat (pv 5) (pe_lst (pa_cons pe_str pa_nil))) (pv 5)))
      (pss_cons (ps_set (i := 7) scGraph.nd rfl (Or.inl rfl) (pe_lst pa_nil))
      (pss_cons (ps_for PassesOwn.never rfl (pi_list (pv 5)) (pg_name (i := 6) scGraph.nd rfl (Or.inl rfl))
        (pss_one (ps_if (pt_cmp (pc_eqI (pe_c (cal_sip T) hr (by decide) (by rfl) (pa_cons (pv 0) (pa_cons pe_int pa_nil))) pe_int))
          (pss_one (ps_expr (pe_bm PySem.F.plainAttrs_list PySem.F.slot_list_append PySem.F.type_list_append mt_append (pv 7) (pa_cons (pv 6) pa_nil)))) pss_nil)))
      (pss_one (ps_expr (pe_bm PySem.F.plainAttrs_list PySem.F.slot_list_append PySem.F.type_list_append mt_append (pv 2) (pa_cons (pe_tup (pa_cons (pv 4) (pa_cons
          (pe_callTy call_tuple_of (by rfl) T.tuple (by decide +kernel) (pa_cons (pe_ifExp (pt_cmp (pc_eqI (pe_c (cal_sip T) hr (by decide) (by rfl) (pa_cons (pv 0) (pa_cons pe_int pa_nil))) pe_int)) (pe_revL (pv 7)) (pv 7)) pa_nil)) pa_nil))) pa_nil)))))))))
    (pss_cons (ps_par (i := 8) (j := 9) rfl scGraph.nd rfl rfl (by decide) rfl rfl (pa_cons (pv 2) (pa_cons (pe_lst pa_nil) pa_nil)) (by rfl))
    (pss_cons (ps_while PassesOwn.never (pt_cmpR (op_ne_nil hr.units) (pv 8) (pe_lst pa_nil) (nomark _))
      (pss_cons (ps_set (i := 10) scGraph.nd rfl (Or.inl rfl) (pe_c (cal_sip T) hr (by decide) (by rfl) (pa_cons (pv 0) (pa_cons (pe_callB call_len_seq (by rfl) T.len PySem.boot_len (pa_cons (pv 8) pa_nil)) pa_nil))))
      (pss_cons (ps_expr (pe_bm PySem.F.plainAttrs_list PySem.F.slot_list_append PySem.F.type_list_append mt_append (pv 9) (pa_cons (pe_ix ix_list (pv 8) (pv 10) (fun _ _ => rfl)) pa_nil)))
      (pss_one (ps_set (i := 8) scGraph.nd rfl (Or.inl rfl) (pe_op op_cat (pe_slice sl_list (pv 8) po_none (po_some (pv 10))) (pe_slice sl_list (pv 8) (po_some (pe_op op_add (pv 10) pe_int)) po_none)))))))
    (pss_one (ps_ret (pe_op op_cat (pv 9) (pe_op op_rep (pe_lst (pa_cons (pe_ix ix_list (pv 9) pe_int (fun _ _ => rfl)) pa_nil))
      (pe_callTy call_int1 (by rfl) T.int (by decide +kernel) (pa_cons (pe_and (pe_cmp (pc_eqI (pe_c (cal_sip T) hr (by decide) (by rfl) (pa_cons (pv 0) (pa_cons pe_int pa_nil))) pe_int))
        (pe_one (pe_cmp (pc_lt (pe_callB call_len_seq (by rfl) T.len PySem.boot_len (pa_cons (pv 9) pa_nil)) pe_int)))) pa_nil)))))))))), ?_⟩
  refine ⟨show 6 ≤ sizeLine by decide, fun l0 hl0 => ⟨_, rfl, c, 5, rfl, hc.same (same_upd hl0), by decide, by decide, fun r H1 hr5 S1 hc1 => ?_⟩⟩
  have hl1 : H1 l0 = some (.lst (names6.map V.str)) := S1 _ _ (fun z => by obtain ⟨_, _, _, _, h⟩ := hc; rw [← z, hl0] at h; cases h) upd_same
  refine ⟨_, _, rfl, rfl, _, rfl, l0, _, rfl, SqL.of hl1, fun ln hln => ?_⟩
  rw [show ((2 : Int) + ((r : Nat) : Int)) = ((2 + r : Nat) : Int) from by omega, cut_take (show 2 + r ≤ (names6.map V.str).length from by rw [List.length_map]; exact Nat.le_trans (show 2 + r ≤ 6 by omega) (by decide))]
  have hns : ∃ ns : List Str, ns = names6.take (2 + r) ∧ (names6.map V.str).take (2 + r) = ns.map V.str ∧ ns.Nodup ∧ (∀ n ∈ ns, n ∈ names6) ∧ 1 ≤ ns.length ∧ ns.length ≤ 6 :=
    ⟨_, rfl, List.map_take.symm, (List.take_sublist _ _).nodup (by decide +kernel), fun n h => (List.take_sublist _ _).subset h, by rw [List.length_take]; exact (show 1 ≤ min (2 + r) 6 by omega), by rw [List.length_take]; exact (show min (2 + r) 6 ≤ 6 by omega)⟩
  obtain ⟨ns, _, ens, nnd, nsub, n1, n6⟩ := hns
  rw [ens]
  replace S1 := (SameX.of (c := c) (same_upd hl0)).trans S1
  obtain ⟨hlnH, nlc⟩ := sameX_none S1 hc1 hln
  have S2 : SameX c H (upd H1 ln (.lst (ns.map V.str))) := sameX_upd hlnH S1
  have hc2 : Cup (upd H1 ln (.lst (ns.map V.str))) c := hc1.upd nlc
  have hn2 : upd H1 ln (.lst (ns.map V.str)) ln = some (.lst (ns.map V.str)) := upd_same
  clear hl1 hln
  generalize upd H1 ln (.lst (ns.map V.str)) = H2 at S2 hc2 hn2
  refine ⟨by decide, fun lr hlr => ?_⟩
  obtain ⟨hlrH, nrc⟩ := sameX_none S2 hc2 hlr
  have nnr : ln ≠ lr := ne_of_none hn2 hlr
  refine ⟨_, rfl, ln, _, rfl, SqL.of (upd_keep hn2 hlr), for_it (walk_enum (xs := ns.map V.str)) (fun i σ H' => (∃ o3 o4 o5 o6 o7, σ = [some (.ref c), some (.ref ln), some (.ref lr), o3, o4, o5, o6, o7, none, none, none]) ∧ SameX c H H' ∧ Cup H' c ∧ H' ln = some (.lst (ns.map V.str)) ∧
      ∃ rs rows, H' lr = some (.lst rs) ∧ RowsAt H' rs rows ∧ rows.map (·.1) = ns.take i ∧ ∀ r ∈ rows, RowOk r) ⟨⟨_, _, _, _, _, rfl⟩, sameX_upd hlrH S2, hc2.upd nrc, upd_keep hn2 hlr, [], [], upd_same, .nil, rfl, fun _ z => by cases z⟩
    (fun i σ H' _ p => SqL.of p.2.2.2.1) (fun i x σ H3 H3' hi p y => ?_) fun σ H3 p => ?_⟩
  · obtain ⟨⟨o3, o4, o5, o6, o7, rfl⟩, S3, hc3, hn3, rs, rows, hr3, hR3, hm3, hok⟩ := p
    obtain ⟨Tp, x1, x2, rfl, hT, rfl, e1, e2⟩ := y
    cases e1
    obtain ⟨n, hn, rfl⟩ := Option.map_eq_some_iff.mp ((List.getElem?_map (f := V.str) (l := ns) (i := i)).symm.trans e2)
    have il : i < ns.length := (List.getElem?_eq_some_iff.mp hn).1
    obtain ⟨hTH, nTc⟩ := sameX_none S3 hc3 hT
    refine ⟨Tp, _, rfl, SqT.of upd_same, rfl, _, _, rfl, _, _, rfl, rfl, ?_⟩
    have S4 := sameX_upd (o := HO.tup [.int (i : Nat), .str n]) hTH S3
    have hc4 := hc3.upd (o := HO.tup [.int (i : Nat), .str n]) nTc
    have hn4 := upd_keep (v := HO.tup [.int (i : Nat), .str n]) hn3 hT
    have hr4 := upd_keep (v := HO.tup [.int (i : Nat), .str n]) hr3 hT
    have hR4 := hR3.keep (KeepT.of (same_upd (o := HO.tup [.int (i : Nat), .str n]) hT))
    have g4 : Gr c ln lr H ns rs rows (upd H3 Tp (.tup [.int (i : Nat), .str n])) := ⟨S4, hc4, hn4, hr4, hR4, nlc, nrc, nnr⟩
    clear S4 hc4 hn4 hr4 hR4
    generalize upd H3 Tp (.tup [.int (i : Nat), .str n]) = H4 at g4
    refine cutS (fun σ' H' => ∃ ls ss, (∃ o6 o7, σ' = [some (.ref c), some (.ref ln), some (.ref lr), some (.int (i : Nat)), some (.str n), some (.ref ls), o6, o7, none, none, none]) ∧ Gr c ln lr H ns rs rows H' ∧ H' ls = some (.lst (ss.map V.str)) ∧ ls ≠ c ∧ SomeOk n ss) (fun σ' H' p => ?_) (fun rest => ?_)
    · clear g4
      obtain ⟨ls, ss, ⟨o6, o7, rfl⟩, g5, hls, nls, hss⟩ := p
      have hN : n ∈ names6 := nsub _ (List.mem_of_getElem? hn)
      have hGn : ("Gone" : Str) ≠ n := fun z => by rw [← z] at hN; revert hN; decide +kernel
      refine cutS (fun σ' H' => ∃ ls ss, (∃ o6 o7, σ' = [some (.ref c), some (.ref ln), some (.ref lr), some (.int (i : Nat)), some (.str n), some (.ref ls), o6, o7, none, none, none]) ∧ Gr c ln lr H ns rs rows H' ∧ H' ls = some (.lst (ss.map V.str)) ∧ ls ≠ c ∧ SomeOk2 n ss) (fun σ' H' p => ?_) (fun rest => ?_)
      · clear g5 hls nls hss ls ss
        obtain ⟨ls, ss, ⟨o6, o7, rfl⟩, g6, hls, nls, hss⟩ := p
        obtain ⟨s1, s2, s3⟩ := hss
        refine ⟨by decide, fun lu hlu => ?_⟩
        obtain ⟨luH, nuc⟩ := sameX_none g6.sx g6.cup hlu
        have nul : lu ≠ ls := (ne_of_none hls hlu).symm
        have nun : lu ≠ ln := (ne_of_none g6.n hlu).symm
        have nur : lu ≠ lr := (ne_of_none g6.r hlu).symm
        dsimp only [gName]
        refine cutS (fun σ' H' => (∃ o6, σ' = [some (.ref c), some (.ref ln), some (.ref lr), some (.int (i : Nat)), some (.str n), some (.ref ls), o6, some (.ref lu), none, none, none]) ∧ Gr c ln lr H ns rs rows H' ∧ ∃ us : List Str, H' lu = some (.lst (us.map V.str)) ∧ us.Sublist ss) (fun σ' H' p => ?_) (fun rest => ?_)
        · clear g6 hls
          obtain ⟨⟨ox, rfl⟩, g7, us, hu7, hus⟩ := p
          have ul : us.length ≤ 7 := Nat.le_trans hus.length_le s3
          have fin : ∀ (Hx : Hp) (l tp : Addr) (us' : List Str), Gr c ln lr H ns rs rows Hx → Hx l = some (.tup (us'.map V.str)) → Hx tp = none → us'.length ≤ 7 → us'.Nodup → (∀ o ∈ us', o ∈ us) →
              (∃ o3 o4 o5 o6 o7, ([some (.ref c), some (.ref ln), some (.ref lr), some (.int (i : Nat)), some (.str n), some (.ref ls), ox, some (.ref lu), none, none, none] : L2.St) = [some (.ref c), some (.ref ln), some (.ref lr), o3, o4, o5, o6, o7, none, none, none]) ∧
              SameX c H (upd (upd Hx tp (.tup [.str n, .ref l])) lr (.lst (rs ++ [.ref tp]))) ∧ Cup (upd (upd Hx tp (.tup [.str n, .ref l])) lr (.lst (rs ++ [.ref tp]))) c ∧ (upd (upd Hx tp (.tup [.str n, .ref l])) lr (.lst (rs ++ [.ref tp]))) ln = some (.lst (ns.map V.str)) ∧
              ∃ rs' rows', (upd (upd Hx tp (.tup [.str n, .ref l])) lr (.lst (rs ++ [.ref tp]))) lr = some (.lst rs') ∧ RowsAt (upd (upd Hx tp (.tup [.str n, .ref l])) lr (.lst (rs ++ [.ref tp]))) rs' rows' ∧ rows'.map (·.1) = ns.take (i + 1) ∧ ∀ r ∈ rows', RowOk r := by
            intro Hx l tp us' gx hl htp h7 hnd hsub
            have g8 := gx.new (o := HO.tup [.str n, .ref l]) htp
            have kt : KeepT (upd Hx tp (.tup [.str n, .ref l])) (upd (upd Hx tp (.tup [.str n, .ref l])) lr (.lst (rs ++ [.ref tp]))) := KeepT.lst g8.r
            refine ⟨⟨_, _, _, _, _, rfl⟩, sameX_upd hlrH g8.sx, g8.cup.upd nrc, (upd_ne nnr).trans g8.n, rs ++ [.ref tp], rows ++ [(n, us')], upd_same, paired_app (g8.rr.keep kt) (.cons ⟨tp, l, rfl, kt _ _ upd_same, kt _ _ (upd_keep hl htp)⟩ .nil), ?_, fun r' hr' => ?_⟩
            · rw [List.map_append, hm3, List.take_add_one, hn]
              rfl
            · rcases List.mem_append.mp hr' with z | z
              · exact hok r' z
              · rw [List.mem_singleton.mp z]
                exact ⟨fun o ho => (s1 o (hus.subset (hsub o ho))).1, fun z => (s1 n (hus.subset (hsub n z))).2 rfl, hnd, h7⟩
          refine ⟨_, rfl, .inl ⟨rfl, _, SqL.of g7.r⟩, _, rfl, _, rfl, c, 2, rfl, g7.cup, by decide, by decide, fun r5 H8 _ S8 hc8 => ⟨_, _, rfl, rfl, decide (((r5 : Nat) : Int) = 0), rfl, ?_⟩⟩
          have g8 := g7.sip S8 hc8
          have hu8 := S8 _ _ nuc hu7
          have lrs : rs.length < sizeLine := by
            have e1 : rs.length = rows.length := g8.rr.length
            have e2 : rows.length = min i ns.length := by rw [← List.length_map (f := (·.1)), hm3, List.length_take]
            exact Nat.lt_of_le_of_lt (show _ ≤ 6 by omega) (by decide)
          by_cases h0 : ((r5 : Nat) : Int) = 0
          · rw [decide_eq_true h0]
            refine iteT ⟨_, rfl, lu, _, rfl, SqL.of hu8, fun p hp => ⟨p, _, rfl, .inl ⟨SqL.of upd_same, fun l hl => ⟨show 2 ≤ sizeLine by decide, fun tp htp => ⟨lr, rs, _, rfl, rfl, ?_, lrs, ?_⟩⟩⟩⟩⟩
            · exact (((g8.new hp).new hl).new htp).r
            · exact fin _ l tp us.reverse ((g8.new hp).new hl) (by rw [upd_same, List.map_reverse]) htp (by rw [List.length_reverse]; exact ul) ((List.reverse_perm us).nodup_iff.mpr (hus.nodup s2)) fun o ho => List.mem_reverse.mp ho
          · rw [decide_eq_false h0]
            refine iteF ⟨_, rfl, lu, _, rfl, .inl ⟨SqL.of hu8, fun l hl => ⟨show 2 ≤ sizeLine by decide, fun tp htp => ⟨lr, rs, _, rfl, rfl, ?_, lrs, ?_⟩⟩⟩⟩
            · exact ((g8.new hl).new htp).r
            · exact fin _ l tp us (g8.new hl) upd_same htp ul (hus.nodup s2) fun o ho => ho
        · refine ⟨_, rfl, ls, rfl, ⟨_, SqL.of (upd_keep hls hlu)⟩, for_list (K := K) (xs := ss.map V.str) (fun j σ' H' => (∃ o6, σ' = [some (.ref c), some (.ref ln), some (.ref lr), some (.int (i : Nat)), some (.str n), some (.ref ls), o6, some (.ref lu), none, none, none]) ∧ Gr c ln lr H ns rs rows H' ∧ H' ls = some (.lst (ss.map V.str)) ∧ ∃ us : List Str, H' lu = some (.lst (us.map V.str)) ∧ us.Sublist (ss.take j))
            ⟨⟨_, rfl⟩, g6.new hlu, upd_keep hls hlu, [], upd_same, List.nil_sublist _⟩ (fun j σ' H' _ p => SqL.of p.2.2.1) (fun j x σ' H' hx p => ?_) (fun σ' H' p => ?_)⟩
          · obtain ⟨⟨o6, rfl⟩, g7, hls7, us, hu7, hus⟩ := p
            obtain ⟨o, ho, rfl⟩ := Option.map_eq_some_iff.mp ((List.getElem?_map (f := V.str) (l := ss) (i := j)).symm.trans hx)
            refine ⟨_, rfl, c, 2, rfl, g7.cup, by decide, by decide, fun r4 H8 _ S8 hc8 => ⟨_, _, rfl, rfl, decide (((r4 : Nat) : Int) = 0), rfl, ?_⟩⟩
            have g8 := g7.sip S8 hc8
            have hls8 := S8 _ _ nls hls7
            have hu8 := S8 _ _ nuc hu7
            have tk : ss.take (j + 1) = ss.take j ++ [o] := by rw [List.take_add_one, ho]; rfl
            by_cases h0 : ((r4 : Nat) : Int) = 0
            · rw [decide_eq_true h0]
              refine iteT ⟨_, rfl, .inl ⟨rfl, _, SqL.of hu8⟩, _, rfl, lu, _, _, rfl, rfl, hu8, ?_, ⟨_, rfl⟩, g8.mut hu8 luH nuc nun nur, (upd_ne nul.symm).trans hls8, us ++ [o], by rw [upd_same, List.map_append]; rfl, ?_⟩
              · rw [List.length_map]
                have := hus.length_le
                rw [List.length_take] at this
                exact Nat.lt_of_le_of_lt (show us.length ≤ 7 by omega) (by decide)
              · rw [tk]
                exact hus.append (List.Sublist.refl _)
            · rw [decide_eq_false h0]
              refine iteF ⟨⟨_, rfl⟩, g8, hls8, us, hu8, ?_⟩
              rw [tk]
              exact hus.trans (List.sublist_append_left _ _)
          · obtain ⟨e1, g7, _, us, hu7, hus⟩ := p
            exact rest _ _ ⟨e1, g7, us, hu7, hus.trans (List.take_sublist _ _)⟩
      · refine ⟨_, rfl, c, 20, rfl, g5.cup, by decide, by decide, fun r3 H6 hr6 S6 hc6 => ⟨_, _, rfl, rfl, decide (((r3 : Nat) : Int) = 0), rfl, ?_⟩⟩
        have g6 := g5.sip S6 hc6
        have hls6 := S6 _ _ nls hls
        obtain ⟨s1, s2, s3⟩ := hss
        by_cases h0 : ((r3 : Nat) : Int) = 0
        · rw [decide_eq_true h0]
          refine iteT ⟨_, rfl, show 1 ≤ sizeLine by decide, fun p hp => ⟨ls, p, _, _, rfl, rfl, upd_keep hls6 hp, upd_same, ?_, fun p2 hp2 => rest _ _ ⟨p2, ss ++ [("Gone" : Str)], ⟨_, _, rfl⟩, (g6.new hp).new hp2, ?_, (sameX_none (g6.new hp).sx (g6.new hp).cup hp2).2, ?_⟩⟩⟩
          · rw [List.length_map]
            exact Nat.le_trans (show ss.length + 1 ≤ 7 by omega) (by decide)
          · rw [upd_same, List.map_append]
            rfl
          · refine ⟨fun o ho => ?_, ?_, by rw [List.length_append]; exact (show ss.length + 1 ≤ 7 by omega)⟩
            · rcases List.mem_append.mp ho with z | z
              · exact ⟨.inl (s1 o z).1, (s1 o z).2⟩
              · rw [List.mem_singleton.mp z]
                exact ⟨.inr rfl, hGn⟩
            · refine List.nodup_append.mpr ⟨s2, List.pairwise_singleton _ _, fun a ha b hb z => ?_⟩
              rw [List.mem_singleton.mp hb] at z
              subst z
              have := (s1 _ ha).1
              revert this
              decide +kernel
        · rw [decide_eq_false h0]
          exact iteF ⟨_, rfl, rest _ _ ⟨ls, ss, ⟨_, _, rfl⟩, g6, hls6, nls, fun o ho => ⟨.inl (s1 o ho).1, (s1 o ho).2⟩, s2, by omega⟩⟩
    · refine ⟨_, rfl, c, 8, rfl, g4.cup, by decide, by decide, fun r2 H5 hr5 S5 hc5 => ⟨_, _, rfl, rfl, decide (0 < ((r2 : Nat) : Int)), rfl, ?_⟩⟩
      have g5 := g4.sip S5 hc5
      by_cases h0 : (0 : Int) < ((r2 : Nat) : Int)
      · rw [decide_eq_true h0]
        refine iteT ⟨_, rfl, _, rfl, _, rfl, ln, _, rfl, SqL.of g5.n, fun p hp => rest _ _ ⟨p, ns.take i, ⟨_, _, rfl⟩, g5.new hp, ?_, (sameX_none g5.sx g5.cup hp).2, ?_⟩⟩
        · rw [upd_same, cut_take (by rw [List.length_map]; omega), List.map_take]
        · refine ⟨fun o ho => ⟨nsub _ ((List.take_sublist _ _).subset ho), fun z => ?_⟩, (List.take_sublist _ _).nodup nnd, by rw [List.length_take]; omega⟩
          subst z
          exact not_mem_take hn nnd ho
      · rw [decide_eq_false h0]
        refine iteF ⟨_, rfl, ln, rfl, ⟨_, SqL.of g5.n⟩, fun D hD => lc_list (K := K) (xs := ns.map V.str) (PvF H5 D (fm ns (fun o => decide (o ≠ n)) V.str)) (PvF.zero hD rfl) (fun j H6 _ p => SqL.of (p.2 _ _ g5.n)) (fun j x H6 hx p => ?_) (fun H6 p => ?_)⟩
        · obtain ⟨o, ho, rfl⟩ := Option.map_eq_some_iff.mp ((List.getElem?_map (f := V.str) (l := ns) (i := j)).symm.trans hx)
          refine ⟨rfl, _, rfl, _, rfl, rfl, _, rfl, ?_⟩
          rw [str_ne]
          cases hb : decide (o ≠ n) with
          | true => exact iteT ⟨_, rfl, _, p.1, Nat.lt_of_le_of_lt (Nat.le_trans fm_len n6) (by decide), p.keep hD (Same.refl _) (fm_yes (p := fun o => decide (o ≠ n)) ho hb)⟩
          | false => exact iteF (p.skip (Same.refl _) (fm_no (p := fun o => decide (o ≠ n)) ho hb))
        · have p1 := p.1
          rw [fm_all (by simp)] at p1
          have zD := sameX_none g5.sx g5.cup hD
          have g6 : Gr c ln lr H ns rs rows H6 := ⟨g5.sx.trans (SameX.of p.2), g5.cup.same p.2, p.2 _ _ g5.n, p.2 _ _ g5.r, g5.rr.keep (KeepT.of p.2), g5.nc, g5.rc, g5.nr⟩
          refine rest _ _ ⟨D, _, ⟨_, _, rfl⟩, g6, p1, zD.2, fun o ho => ?_, nnd.filter _, Nat.le_trans (List.length_filter_le _ _) n6⟩
          obtain ⟨h1, h2⟩ := List.mem_filter.mp ho
          exact ⟨nsub _ h1, of_decide_eq_true h2⟩
  obtain ⟨⟨o3, o4, o5, o6, o7, rfl⟩, S3, hc3, _, rs, rows, hr3, hR3, hm3, hok⟩ := p
  rw [List.take_of_length_le (by simp)] at hm3
  have rl : rows.length = ns.length := by rw [← hm3, List.length_map]
  refine ⟨_, rfl, by decide, fun lf hlf => ⟨_, _, rfl, ?_⟩⟩
  obtain ⟨lfH, nfc⟩ := sameX_none S3 hc3 hlf
  have nlf : lr ≠ lf := ne_of_none hr3 hlf
  dsimp only [List.set]
  refine cutS (fun σ' H' => (∃ o3 o4 o5 o6 o7 o8 o10, σ' = [some (.ref c), some (.ref ln), some (.ref lr), o3, o4, o5, o6, o7, o8, some (.ref lf), o10]) ∧ SameX c H H' ∧ Cup H' c ∧ ∃ fs frows, H' lf = some (.lst fs) ∧ RowsAt H' fs frows ∧ (∀ r ∈ frows, r ∈ rows) ∧ frows.length = rows.length) (fun σ' H' p => ?_) (fun rest => ?_)
  · obtain ⟨⟨o3, o4, o5, o6, o7, o8, o10, rfl⟩, S4, hc4, fs, frows, hf4, hfR4, hfsub, hfl⟩ := p
    have lfs : fs.length = frows.length := hfR4.length
    obtain ⟨f0, hf0⟩ : ∃ f0, fs[0]? = some f0 := ⟨fs[0]'(by omega), List.getElem?_eq_getElem (by omega)⟩
    obtain ⟨r0, hr0, hfr0⟩ := paired_at hfR4 hf0
    refine ⟨_, rfl, _, rfl, lf, fs, 0, f0, rfl, rfl, SqL.of hf4, atI_nat (j := 0) hf0, show 1 ≤ sizeLine by decide, fun p1 hp1 => ?_⟩
    obtain ⟨hp1H, np1c⟩ := sameX_none S4 hc4 hp1
    refine ⟨_, rfl, c, 8, rfl, hc4.upd np1c, by decide, by decide, fun r8 H6 hr8 S6 hc6 => ⟨_, _, rfl, rfl, decide (((r8 : Nat) : Int) = 0), rfl, ?_⟩⟩
    have S05 : SameX c H H6 := (sameX_upd hp1H S4).trans S6
    have h61 := S6 _ _ np1c (show upd H' p1 (.lst [f0]) p1 = _ from upd_same)
    have hf6 := S6 _ _ nfc (upd_keep (v := .lst [f0]) hf4 hp1)
    have hfR6 := hfR4.keep ((KeepT.of (same_upd (o := .lst [f0]) hp1)).trans (KeepT.ofX S6 (hc4.upd np1c)))
    have fin : ∀ (k : Int), k = 0 ∨ (k = 1 ∧ frows.length < 7) → rRep (.ref p1) (.int k) H6 fun y H7 => rCat (.ref lf) y H7 fun v H8 => Q v H8 := by
      intro k hk
      refine ⟨p1, k, [f0], rfl, rfl, h61, by omega, by omega, ?_, fun p2 hp2 => ⟨lf, p2, fs, _, rfl, rfl, upd_keep hf6 hp2, upd_same, ?_, fun p3 hp3 => ?_⟩⟩
      · rw [List.length_singleton]
        exact Nat.le_trans (show _ ≤ 1 by omega) (by decide)
      · rw [List.flatten_replicate_singleton, List.length_replicate]
        exact Nat.le_trans (show _ ≤ 7 by omega) (by decide)
      · rw [List.flatten_replicate_singleton] at hp3 ⊢
        obtain ⟨hp2H, np2c⟩ := sameX_none S05 hc6 hp2
        have S06 := sameX_upd (o := .lst (List.replicate k.toNat f0)) hp2H S05
        have hc7 := hc6.upd (o := .lst (List.replicate k.toNat f0)) np2c
        obtain ⟨hp3H, np3c⟩ := sameX_none S06 hc7 hp3
        have kt : KeepT H6 (upd (upd H6 p2 (.lst (List.replicate k.toNat f0))) p3 (.lst (fs ++ List.replicate k.toNat f0))) := (KeepT.of (same_upd hp2)).trans (KeepT.of (same_upd hp3))
        rcases hk with rfl | ⟨rfl, h7⟩
        · refine q _ p3 (fs ++ []) frows (sameX_upd hp3H S06) (hc7.upd np3c) hp3H upd_same ?_ (wf_of hm3 nnd nsub hok hfsub (by omega) (by omega))
          rw [List.append_nil]
          exact hfR6.keep kt
        · refine q _ p3 (fs ++ [f0]) (frows ++ [r0]) (sameX_upd hp3H S06) (hc7.upd np3c) hp3H upd_same (paired_app (hfR6.keep kt) (.cons ((hfr0.keep ((KeepT.of (same_upd (o := .lst [f0]) hp1)).trans (KeepT.ofX S6 (hc4.upd np1c)))).keep kt) .nil)) (wf_of hm3 nnd nsub hok ?_ ?_ ?_)
          · intro r hr
            rcases List.mem_append.mp hr with z | z
            · exact hfsub r z
            · rw [List.mem_singleton.mp z]
              exact hfsub r0 (List.mem_of_getElem? hr0)
          · rw [List.length_append, List.length_singleton]; omega
          · rw [List.length_append, List.length_singleton]; omega
    by_cases h0 : ((r8 : Nat) : Int) = 0
    · rw [decide_eq_true h0]
      refine iteT ⟨_, rfl, lf, _, rfl, .inl (SqL.of hf6), _, _, rfl, rfl, .inr ⟨decide (((fs.length : Nat) : Int) < 7), rfl, ?_⟩⟩
      refine fin _ ?_
      by_cases h7 : ((fs.length : Nat) : Int) < 7
      · rw [decide_eq_true h7]
        exact .inr ⟨rfl, by omega⟩
      · rw [decide_eq_false h7]
        exact .inl rfl
    · rw [decide_eq_false h0]
      exact iteF (.inr ⟨false, rfl, fin _ (.inl rfl)⟩)
  · refine ⟨fun m σ' H' => (∃ o3 o4 o5 o6 o7 o10 ll, σ' = [some (.ref c), some (.ref ln), some (.ref lr), o3, o4, o5, o6, o7, some (.ref ll), some (.ref lf), o10] ∧ ll ≠ c ∧ ll ≠ lf ∧ ∃ ls lrows, H' ll = some (.lst ls) ∧ RowsAt H' ls lrows ∧ (∀ r ∈ lrows, r ∈ rows) ∧ lrows.length = m) ∧ SameX c H H' ∧ Cup H' c ∧
      ∃ fs frows, H' lf = some (.lst fs) ∧ RowsAt H' fs frows ∧ (∀ r ∈ frows, r ∈ rows) ∧ frows.length + m = rows.length, ⟨rows.length, ⟨_, _, _, _, _, _, lr, rfl, nrc, nlf, rs, rows, upd_keep hr3 hlf, hR3.keep (KeepT.of (same_upd hlf)), fun r h => h, rfl⟩, sameX_upd lfH S3, hc3.upd nfc, [], [], upd_same, .nil, (fun _ z => by cases z), (by rw [List.length_nil]; omega)⟩, fun m σ' H' p => ?_⟩
    obtain ⟨⟨o3, o4, o5, o6, o7, o10, ll, rfl, nlc', nll, ls, lrows, hl, hlR, hlsub, hlen⟩, S4, hc4, fs, frows, hf, hfR, hfsub, hsum⟩ := p
    refine ⟨_, rfl, by decide, fun z hz => ⟨ll, z, ls, rfl, rfl, SqL.of (upd_keep hl hz), SqL.of upd_same, _, rfl, ?_⟩⟩
    have hl5 := upd_keep (v := .lst []) hl hz
    have hf5 := upd_keep (v := .lst []) hf hz
    have hlR5 := hlR.keep (KeepT.of (same_upd (o := .lst []) hz))
    have hfR5 := hfR.keep (KeepT.of (same_upd (o := .lst []) hz))
    obtain ⟨hzH, nzc⟩ := sameX_none S4 hc4 hz
    have S5 := sameX_upd (o := .lst []) hzH S4
    have hc5 := hc4.upd (o := .lst []) nzc
    clear hl hf hlR hfR S4 hc4
    generalize upd H' z (.lst []) = H5 at hl5 hf5 hlR5 hfR5 S5 hc5
    have lls : ls.length = lrows.length := hlR5.length
    show (if (if true = true then !ls.isEmpty else ls.isEmpty) = true then _ else _)
    rw [if_pos rfl]
    cases hE : ls.isEmpty with
    | true =>
      have e0 : ls.length = 0 := by rw [List.isEmpty_iff.mp hE]; rfl
      refine iteF (rest _ _ ⟨⟨_, _, _, _, _, _, _, rfl⟩, S5, hc5, fs, frows, hf5, hfR5, hfsub, by omega⟩)
    | false =>
      have e0 : 0 < ls.length := List.length_pos_iff.mpr (fun z => by rw [z] at hE; cases hE)
      obtain ⟨n, rfl⟩ : ∃ n, m = n + 1 := ⟨m - 1, by omega⟩
      refine iteT ⟨fun σ' H' => (∃ o3 o4 o5 o6 o7 o10 ll, σ' = [some (.ref c), some (.ref ln), some (.ref lr), o3, o4, o5, o6, o7, some (.ref ll), some (.ref lf), o10] ∧ ll ≠ c ∧ ll ≠ lf ∧ ∃ ls lrows, H' ll = some (.lst ls) ∧ RowsAt H' ls lrows ∧ (∀ r ∈ lrows, r ∈ rows) ∧ lrows.length = n) ∧ SameX c H H' ∧ Cup H' c ∧
        ∃ fs frows, H' lf = some (.lst fs) ∧ RowsAt H' fs frows ∧ (∀ r ∈ frows, r ∈ rows) ∧ frows.length + n = rows.length, fun σ' H' p => ⟨n, Nat.lt_succ_self _, p⟩, ?_⟩
      refine ⟨_, rfl, _, rfl, ll, ls, rfl, .inl (SqL.of hl5), c, ls.length, rfl, hc5, e0, by omega, fun rr H6 hrr S6 hc6 => ?_⟩
      have hl6 := S6 _ _ nlc' hl5
      have hf6 := S6 _ _ nfc hf5
      have kt6 := KeepT.ofX S6 hc5
      have hlR6 := hlR5.keep kt6
      have hfR6 := hfR5.keep kt6
      have S06 := S5.trans S6
      clear hl5 hf5 hlR5 hfR5 S5
      obtain ⟨x, hx⟩ : ∃ x, ls[rr]? = some x := ⟨ls[rr], List.getElem?_eq_getElem hrr⟩
      obtain ⟨rw', hrw, hxr⟩ := paired_at hlR6 hx
      have lfs : fs.length = frows.length := hfR6.length
      refine ⟨_, rfl, .inl ⟨rfl, _, SqL.of hf6⟩, _, rfl, _, rfl, ll, ls, _, x, rfl, rfl, SqL.of hl6, atI_nat hx, lf, fs, x, rfl, rfl, hf6, Nat.lt_of_le_of_lt (show _ ≤ 6 by omega) (by decide), ?_⟩
      have kt7 : KeepT H6 (upd H6 lf (.lst (fs ++ [x]))) := KeepT.lst hf6
      have hl7 : upd H6 lf (.lst (fs ++ [x])) ll = some (.lst ls) := (upd_ne nll).trans hl6
      have hf7 : upd H6 lf (.lst (fs ++ [x])) lf = some (.lst (fs ++ [x])) := upd_same
      have hlR7 := hlR6.keep kt7
      have hfR7 := paired_app (hfR6.keep kt7) (.cons (hxr.keep kt7) .nil)
      have S7 := sameX_upd (o := .lst (fs ++ [x])) lfH S06
      have hc7 := hc6.upd (o := .lst (fs ++ [x])) nfc
      generalize upd H6 lf (.lst (fs ++ [x])) = H7 at hl7 hf7 hlR7 hfR7 S7 hc7
      refine ⟨_, rfl, _, rfl, _, rfl, ll, ls, rfl, SqL.of hl7, fun p1 hp1 => ⟨_, rfl, _, rfl, _, _, rfl, rfl, _, rfl, ll, ls, rfl, SqL.of (upd_keep hl7 hp1), fun p2 hp2 => ⟨p1, p2, _, _, rfl, rfl, upd_keep upd_same hp2, upd_same, ?_, fun p3 hp3 => ?_⟩⟩⟩
      · rw [cut_take (by omega), show (((rr : Nat) : Int) + 1) = ((rr + 1 : Nat) : Int) from by omega, cut_drop (by omega), List.length_take, List.length_drop]
        exact Nat.le_trans (show _ ≤ 6 by omega) (by decide)
      · have ec : cutV ls (some (((rr : Nat) : Int) + 1)) none = ls.drop (rr + 1) := by rw [show (((rr : Nat) : Int) + 1) = ((rr + 1 : Nat) : Int) from by omega, cut_drop (by omega)]
        have et : cutV ls none (some ((rr : Nat) : Int)) = ls.take rr := cut_take (by omega)
        obtain ⟨h1H, n1c⟩ := sameX_none S7 hc7 hp1
        have S8 := sameX_upd (o := .lst (cutV ls none (some ((rr : Nat) : Int)))) h1H S7
        have hc8 := hc7.upd (o := .lst (cutV ls none (some ((rr : Nat) : Int)))) n1c
        obtain ⟨h2H, n2c⟩ := sameX_none S8 hc8 hp2
        have S9 := sameX_upd (o := .lst (cutV ls (some (((rr : Nat) : Int) + 1)) none)) h2H S8
        have hc9 := hc8.upd (o := .lst (cutV ls (some (((rr : Nat) : Int) + 1)) none)) n2c
        obtain ⟨h3H, n3c⟩ := sameX_none S9 hc9 hp3
        have hf9 := upd_keep (v := .lst (cutV ls (some (((rr : Nat) : Int) + 1)) none)) (upd_keep (v := .lst (cutV ls none (some ((rr : Nat) : Int)))) hf7 hp1) hp2
        have kt := ((KeepT.of (same_upd (o := .lst (cutV ls none (some ((rr : Nat) : Int)))) hp1)).trans (KeepT.of (same_upd (o := .lst (cutV ls (some (((rr : Nat) : Int) + 1)) none)) hp2))).trans (KeepT.of (same_upd (o := .lst (cutV ls none (some ((rr : Nat) : Int)) ++ cutV ls (some (((rr : Nat) : Int) + 1)) none)) hp3))
        refine ⟨⟨_, _, _, _, _, _, p3, rfl, n3c, (ne_of_none hf9 hp3).symm, _, lrows.take rr ++ lrows.drop (rr + 1), upd_same, ?_, fun r hr => ?_, ?_⟩, sameX_upd h3H S9, hc9.upd n3c, fs ++ [x], frows ++ [rw'], upd_keep hf9 hp3, RowsAt.keep kt hfR7, fun r hr => ?_, ?_⟩
        · rw [et, ec] at kt ⊢
          exact paired_app (paired_take rr (hlR7.keep kt)) (paired_drop (rr + 1) (hlR7.keep kt))
        · rcases List.mem_append.mp hr with z | z
          · exact hlsub r ((List.take_sublist _ _).subset z)
          · exact hlsub r ((List.drop_sublist _ _).subset z)
        · rw [List.length_append, List.length_take, List.length_drop]
          omega
        · rcases List.mem_append.mp hr with z | z
          · exact hfsub r z
          · rw [List.mem_singleton.mp z]
            exact hlsub rw' (List.mem_of_getElem? hrw)
        · rw [List.length_append, List.length_singleton]
          omega
end
end R20

namespace R21
open PySem PySem.Spec PyProof.Rows L2 R9 R10 R11 R12 R13 R14 R15 R17 R19 R20
theorem paired_mem {α β : Type} {F : α → β → Prop} : ∀ {l : List α} {m : List β}, Paired F l m → ∀ a ∈ l, ∃ b ∈ m, F a b
  | _, _, .nil, a, h => by cases h
  | _, _, .cons h t, a, ha => by
    rcases List.mem_cons.mp ha with z | z
    · exact ⟨_, List.mem_cons_self, z ▸ h⟩
    · obtain ⟨b, hb, q⟩ := paired_mem t a z
      exact ⟨b, List.mem_cons_of_mem _ hb, q⟩
theorem paired_mem' {α β : Type} {F : α → β → Prop} : ∀ {l : List α} {m : List β}, Paired F l m → ∀ b ∈ m, ∃ a ∈ l, F a b
  | _, _, .nil, a, h => by cases h
  | _, _, .cons h t, b, hb => by
    rcases List.mem_cons.mp hb with z | z
    · exact ⟨_, List.mem_cons_self, z ▸ h⟩
    · obtain ⟨a, ha, q⟩ := paired_mem' t b z
      exact ⟨a, List.mem_cons_of_mem _ ha, q⟩
theorem rows_pairs {K : PySem.W.Frag} {H : Hp} : ∀ {rs : List V} {rows : List URow}, RowsAt H rs rows → ∃ (ps : List Addr) (kvs : List (Key × V)), rs = ps.map V.ref ∧ Paired (fun p kv => SqT K H p [kV kv.1, kv.2]) ps kvs ∧
    Paired (fun kv r => kv.1 = Sum.inr r.1 ∧ ∃ t, kv.2 = V.ref t ∧ H t = some (.tup (r.2.map V.str))) kvs rows
  | _, _, .nil => ⟨[], [], rfl, .nil, .nil⟩
  | _, _, .cons h t => by
    obtain ⟨ps, kvs, e, q1, q2⟩ := rows_pairs (K := K) t
    obtain ⟨a, tt, ea, h1, h2⟩ := h
    exact ⟨a :: ps, (Sum.inr _, .ref tt) :: kvs, by rw [ea, e]; rfl, .cons (SqT.of h1) q1, .cons ⟨rfl, tt, rfl, h2⟩ q2⟩
theorem merge_none {k : Key} : ∀ {kvs acc : List (Key × V)}, (∀ p ∈ kvs, p.1 ≠ k) → valV (mergeK acc kvs) k = valV acc k
  | [], _, _ => rfl
  | p :: kvs, acc, h => by
    show valV (mergeK (putK acc p.1 p.2) kvs) k = _
    rw [merge_none (fun q hq => h q (List.mem_cons_of_mem _ hq)), valV_put, if_neg (fun z => h p List.mem_cons_self z.symm)]
theorem merge_some {k : Key} {F : V → Prop} : ∀ {kvs acc : List (Key × V)}, (∀ p ∈ kvs, p.1 = k → F p.2) → ((∃ p ∈ kvs, p.1 = k) ∨ ∃ v, valV acc k = some v ∧ F v) → ∃ v, valV (mergeK acc kvs) k = some v ∧ F v
  | [], acc, _, h => by
    rcases h with ⟨p, hp, _⟩ | h
    · cases hp
    · exact h
  | p :: kvs, acc, hF, h => by
    show ∃ v, valV (mergeK (putK acc p.1 p.2) kvs) k = some v ∧ F v
    refine merge_some (fun q hq => hF q (List.mem_cons_of_mem _ hq)) ?_
    by_cases e : p.1 = k
    · exact .inr ⟨p.2, by rw [valV_put, if_pos e.symm], hF p List.mem_cons_self e⟩
    · rcases h with ⟨q, hq, eq⟩ | ⟨v, hv, fv⟩
      · rcases List.mem_cons.mp hq with z | z
        · exact absurd (z ▸ eq) e
        · exact .inl ⟨q, z, eq⟩
      · exact .inr ⟨v, by rw [valV_put, if_neg (fun z => e z.symm)]; exact hv, fv⟩
theorem usesOf_mem {rows : List URow} {n : Str} {ws : List Str} (h : KM.usesOf rows n = some ws) : (n, ws) ∈ rows := by
  unfold KM.usesOf at h
  induction rows with
  | nil => cases h
  | cons q rows ih =>
    obtain ⟨a, b⟩ := q
    rw [List.lookup_cons] at h
    by_cases e : n = a
    · subst e
      simp at h
      rw [h]
      exact List.mem_cons_self
    · have e' : (n == a) = false := by simpa using e
      rw [e'] at h
      exact List.mem_cons_of_mem _ (ih h)
theorem usesOf_none {rows : List URow} {n : Str} (h : KM.usesOf rows n = none) : ∀ r ∈ rows, r.1 ≠ n := by
  unfold KM.usesOf at h
  induction rows with
  | nil => exact fun r hr => by cases hr
  | cons q rows ih =>
    obtain ⟨a, b⟩ := q
    rw [List.lookup_cons] at h
    by_cases e : n = a
    · subst e
      simp at h
    · have e' : (n == a) = false := by simpa using e
      rw [e'] at h
      intro r hr
      rcases List.mem_cons.mp hr with z | z
      · rw [z]; exact fun z => e z.symm
      · exact ih h r z
theorem table_of {H : Hp} {d : Addr} {kvs : List (Key × V)} {rows : List URow} (hW : Wf rows) (hp : Paired (fun kv (r : URow) => kv.1 = Sum.inr r.1 ∧ ∃ t, kv.2 = V.ref t ∧ H t = some (.tup (r.2.map V.str))) kvs rows) (hd : H d = some (.dK (mergeK [] kvs))) : Table H d rows := by
  refine ⟨_, hd, fun n => ⟨fun e => ?_, fun ws e => ?_⟩⟩
  · rw [merge_none (fun p hp' z => ?_)]
    · rfl
    · obtain ⟨r, hr, e1, _⟩ := paired_mem hp p hp'
      rw [e1] at z
      exact usesOf_none e r hr (Sum.inr.inj z)
  · have hm := usesOf_mem e
    obtain ⟨v, hv, t, ev, ht⟩ := merge_some (F := fun v => ∃ t, v = V.ref t ∧ H t = some (.tup (ws.map V.str))) (k := Sum.inr n) (kvs := kvs) (acc := []) (fun p hp' z => by
      obtain ⟨r, hr, e1, t, e2, ht⟩ := paired_mem hp p hp'
      rw [e1] at z
      have := hW.inj r hr (n, ws) hm (Sum.inr.inj z)
      rw [this] at ht
      exact ⟨t, e2, ht⟩) (.inl (by
      obtain ⟨p, hp', e1, _⟩ := paired_mem' hp _ hm
      exact ⟨p, hp', e1⟩))
    exact ⟨t, by rw [hv, ev], ht⟩
section
variable {P : Program} {w : World} {K : PySem.W.Frag} {mg : Str → Option Value} {base : Heap} {U C : Addr}
def spReason : Sp := fun vs H Q _ => ∃ (l : Addr) (rs : List V) (rows : List URow), vs = [.ref l] ∧ H l = some (.lst rs) ∧ RowsAt H rs rows ∧ Wf rows ∧ ∀ H' v, Same H H' → ResV H' v (reasonL rows) → Q v H'
abbrev sReason : Stmt := K86.top 85
abbrev nReason : List Str := ["_law_rows", "_law_table", "_law_at", "_law_name", "_law_uses", "_law_row", "_law_gone", "_law_one"]
theorem scReason : FnScope nReason ["_law_rows"] (defScope sReason) := ⟨rfl, rfl, rfl, by decide +kernel, rfl, by decide +kernel, by decide +kernel⟩
theorem cal_reason (T : T86 K mg U) : Cal L2.CX0 P w K mg base 2 "_law_reason" spReason := by
  refine cal_of (k := 1) T.reason scReason (fun vs H Q E ⟨_, _, _, h, _⟩ => by rw [h]; rfl) (fun _ _ _ _ _ _ us hl => match us, hl with | [_], _ => rfl) fun f cdv A outer s H vs Q E hr h => ?_
  obtain ⟨l, rs, rows, rfl, hl, hR, hW, q⟩ := h
  refine ⟨_, pss_cons (ps_set (i := 1) scReason.nd rfl (Or.inr rfl) (pe_callTy (call_dictP rfl) (by rfl) T.dict (by decide +kernel) (pa_cons (pv 0) pa_nil)))
    (pss_cons (ps_for PassesOwn.never rfl (pi_enum (by rfl) T.enumerate (pa_cons (pv 0) pa_nil)) (pg_tup rfl (pgs_cons (pg_name (i := 2) scReason.nd rfl (Or.inl rfl)) (pgs_cons (pg_tup rfl (pgs_cons (pg_name (i := 3) scReason.nd rfl (Or.inl rfl)) (pgs_cons (pg_name (i := 4) scReason.nd rfl (Or.inl rfl)) pgs_nil))) pgs_nil)))
      (pss_cons (ps_if (pt_cmpR op_in_seq (pv 3) (pe_lc (own := [("_law_row", 5)]) (g := gName 5) (tt := tYes) rfl scReason.nd (pi_list (pe_slice sl_list (pv 0) po_none (po_some (pv 2)))) (blkOk_by (N := nReason) (sc := defScope sReason) (by decide +kernel))
          (fun _ _ _ _ _ => pg_name (i := 5) scReason.nd rfl (Or.inl rfl)) (fun _ _ _ _ _ => pts_nil) (fun _ _ _ _ _ => pe_ix (r := rIxT K) ix_tup (pv 5) pe_int (fun _ _ => rfl))) (by rfl))
        (pss_one (ps_ret (pe_tup (pa_cons pe_str (pa_cons (pv 3) pa_nil))))) pss_nil)
      (pss_cons (ps_setLc (i := 6) (own := [("_law_one", 7)]) (g := gName 7) rfl scReason.nd rfl rfl (sw_true rfl rfl rfl (by decide +kernel)) (pi_tup (pv 4))
          (blkOk_by (N := nReason) (sc := defScope sReason) (by decide +kernel)) (fun _ _ _ _ _ => pg_name (i := 7) scReason.nd rfl (Or.inl rfl)) (fun _ _ _ _ _ => pts_one (pt_cmp (pc_dnotin (hu_of hr) (pv 7) (pv 1)))) (fun _ _ _ _ _ => pv 7))
      (pss_cons (ps_if (pt_cmpR (op_ne_nil hr.units) (pv 6) (pe_lst pa_nil) (nomark _)) (pss_one (ps_ret (pe_tup (pa_cons pe_str (pa_cons (pv 3) (pa_cons (pe_ix ix_list (pv 6) pe_int (fun _ _ => rfl)) pa_nil)))))) pss_nil)
      (pss_one (ps_if (pt_val (pe_c (cal_comes T) hr (by decide) (by rfl) (pa_cons (pv 1) (pa_cons (pv 3) pa_nil)))) (pss_one (ps_ret (pe_tup (pa_cons pe_str (pa_cons (pv 3) pa_nil))))) pss_nil))))))
    (pss_one (ps_ret pe_non))), ?_⟩
  obtain ⟨ps, kvs, ers, hp1, hp2⟩ := rows_pairs (K := K) hR
  refine ⟨_, rfl, l, ps, kvs, rfl, SqL.of (by rw [hl, ers]), hp1, fun d hd => ?_⟩
  have S1 : Same H (upd H d (.dK (mergeK [] kvs))) := same_upd hd
  have hT : Table (upd H d (.dK (mergeK [] kvs))) d rows := by
    refine table_of hW ?_ upd_same
    have : ∀ {kvs : List (Key × V)} {rows : List URow} {G G' : Hp}, Same G G' → Paired (fun kv (r : URow) => kv.1 = Sum.inr r.1 ∧ ∃ t, kv.2 = V.ref t ∧ G t = some (.tup (r.2.map V.str))) kvs rows → Paired (fun kv (r : URow) => kv.1 = Sum.inr r.1 ∧ ∃ t, kv.2 = V.ref t ∧ G' t = some (.tup (r.2.map V.str))) kvs rows := by
      intro kvs rows G G' S h
      induction h with
      | nil => exact .nil
      | cons h t ih =>
        obtain ⟨h1, t', h2, h3⟩ := h
        exact .cons ⟨h1, t', h2, S _ _ h3⟩ ih
    exact this S1 hp2
  generalize upd H d (.dK (mergeK [] kvs)) = H1 at S1 hT
  have lrs : rs.length = rows.length := hR.length
  have hsh : KM.Short rows := hW.short
  refine ⟨_, rfl, l, rs, rfl, SqL.of (S1 _ _ hl), for_it (walk_enum (xs := rs)) (fun i σ H' => (∃ o2 o3 o4 o6, σ = [some (.ref l), some (.ref d), o2, o3, o4, none, o6, none]) ∧ Same H1 H' ∧ reasonGo rows i (rows.drop i) = reasonL rows) ⟨⟨_, _, _, _, rfl⟩, Same.refl _, rfl⟩
    (fun i σ H' _ p => SqL.of (p.2.1 _ _ (S1 _ _ hl))) (fun i x σ H3 H3' hi p y => ?_) fun σ H3 p => ?_⟩
  · obtain ⟨⟨o2, o3, o4, o6, rfl⟩, S3, hgo⟩ := p
    obtain ⟨Tp, x1, x2, rfl, hT3, rfl, e1, e2⟩ := y
    cases e1
    have S13 := S1.trans S3
    obtain ⟨r, hri, hrr⟩ := paired_at (RowsAt.keep (KeepT.of (S13.trans (same_upd (o := .tup [.int (i : Nat), x2]) hT3))) hR) e2
    rw [R16.reasonGo_drop hri] at hgo
    obtain ⟨a, t, ea, ha, ht⟩ := hrr
    refine ⟨Tp, _, rfl, SqT.of upd_same, rfl, _, _, rfl, _, _, rfl, ⟨a, _, ea, SqT.of ha, rfl, _, _, rfl, _, _, rfl, rfl, rfl, ?_⟩⟩
    have S4 : Same H1 (upd H3 Tp (.tup [.int (i : Nat), x2])) := S3.trans (same_upd hT3)
    generalize upd H3 Tp (.tup [.int (i : Nat), x2]) = H4 at S4 ha ht
    have S04 := S1.trans S4
    have hl4 := S04 _ _ hl
    have il : i < rows.length := by omega
    refine ⟨_, rfl, _, rfl, _, rfl, _, rfl, l, rs, rfl, SqL.of hl4, fun p hp => ?_⟩
    have S5 : Same H4 (upd H4 p (.lst (cutV rs none (some ((i : Nat) : Int))))) := same_upd hp
    have hp5 : upd H4 p (.lst (cutV rs none (some ((i : Nat) : Int)))) p = some (.lst (rs.take i)) := by rw [upd_same, cut_take (by omega)]
    generalize upd H4 p (.lst (cutV rs none (some ((i : Nat) : Int)))) = H5 at S5 hp5
    refine ⟨p, rfl, ⟨_, SqL.of hp5⟩, fun D hD => lc_list (K := K) (xs := rs.take i) (PvF H5 D (fm (rows.take i) (fun _ => true) fun r => V.str r.1)) (PvF.zero hD rfl) (fun j H6 _ p => SqL.of (p.2 _ _ hp5)) (fun j x H6 hx p6 => ?_) (fun H6 p6 => ?_)⟩
    · obtain ⟨r', hr', hrr'⟩ := paired_at (paired_take i (RowsAt.keep (KeepT.of (S04.trans (S5.trans p6.2))) hR)) hx
      obtain ⟨a', t', ea', ha', ht'⟩ := hrr'
      refine ⟨rfl, tYes_go ⟨_, rfl, a', _, 0, .str r'.1, ea', rfl, SqT.of ha', atI_nat (j := 0) rfl, _, p6.1, ?_, p6.keep hD (Same.refl _) (fm_yes hr' rfl)⟩⟩
      exact Nat.lt_of_le_of_lt (Nat.le_trans fm_len (show (rows.take i).length ≤ 7 by rw [List.length_take]; have := hW.len; omega)) (by decide)
    · have p1 := p6.1
      rw [fm_all (by rw [List.length_take, List.length_take]; omega), filt_true] at p1
      have S6 := S5.trans p6.2
      refine ⟨D, ((rows.take i).map (·.1)).map V.str, rfl, .inl (SqL.of (by rw [List.map_map]; exact p1)), rfl, flat_strs, ?_⟩
      rw [inV_str]
      by_cases hm : r.1 ∈ (rows.take i).map (·.1)
      · rw [decide_eq_true hm]
        refine ⟨_, rfl, iteT ⟨_, rfl, show 2 ≤ sizeLine by decide, fun p5 hp5' => q _ _ ((S04.trans S6).trans (same_upd hp5')) ?_⟩⟩
        have hra : reasonAt rows i r = some [("twice" : Str), r.1] := by unfold reasonAt; rw [if_pos hm]
        rw [hra] at hgo
        rw [← hgo]
        exact ⟨p5, rfl, upd_same⟩
      · rw [decide_eq_false hm]
        refine ⟨_, rfl, iteF ?_⟩
        have hfirst : KM.usesOf rows r.1 = some r.2 := usesOf_first hri hm
        have hra : reasonAt rows i r = (match r.2.filter (fun o => (KM.usesOf rows o).isNone) with
          | g :: _ => some ["lacks", r.1, g]
          | [] => if r.1 ∈ KM.cb rows (KM.meas rows r.2 []) r.2 [] then some ["ring", r.1] else none) := by
          unfold reasonAt
          exact (if_neg hm).trans rfl
        have ht6 := S6 _ _ ht
        have S16 := S4.trans S6
        have hT6 := hT.same S16
        have S06 := S1.trans S16
        clear p6 p1
        refine ⟨_, rfl, t, rfl, ⟨_, SqT.of ht6⟩, fun D2 hD2 => lc_tup (K := K) (xs := r.2.map V.str) (PvF H6 D2 (fm r.2 (fun o => (KM.usesOf rows o).isNone) V.str)) (PvF.zero hD2 rfl) (fun j H7 _ p6 => SqT.of (p6.2 _ _ ht6)) (fun j x H7 hx p6 => ?_) fun H7 p6 => ?_⟩
        · rw [List.getElem?_map] at hx
          obtain ⟨o, ho, rfl⟩ := Option.map_eq_some_iff.mp hx
          obtain ⟨kvs, k1, k3⟩ := hT6.same p6.2
          refine ⟨rfl, _, rfl, _, rfl, d, _, rfl, DGet.k (k := Sum.inr o) k1, _, rfl, ?_⟩
          cases eo : KM.usesOf rows o with
          | none =>
            rw [(k3 o).1 eo]
            refine iteT ⟨_, rfl, _, p6.1, ?_, p6.keep hD2 (Same.refl _) (fm_yes ho (by rw [eo]; rfl))⟩
            exact Nat.lt_of_le_of_lt (m := 7) (Nat.le_trans fm_len (hsh.of hfirst)) (by decide)
          | some ws =>
            obtain ⟨u2, g1, _⟩ := (k3 o).2 ws eo
            rw [g1]
            exact iteF (p6.skip (Same.refl _) (fm_no ho (by rw [eo]; rfl)))
        · have p7 := p6.1
          rw [fm_all (by rw [List.length_map]; exact Nat.le_refl _)] at p7
          have S7 := S16.trans p6.2
          have S17 := S06.trans p6.2
          have hT7 := hT6.same p6.2
          clear p6
          refine ⟨_, rfl, by decide, fun z hz => ⟨D2, z, _, rfl, rfl, SqL.of (upd_keep p7 hz), SqL.of upd_same, _, rfl, ?_⟩⟩
          have S8 := S7.trans (same_upd (o := .lst []) hz)
          have S18 := S17.trans (same_upd (o := .lst []) hz)
          have hT8 := hT7.same (same_upd (o := .lst []) hz)
          have p8 := upd_keep (v := .lst []) p7 hz
          generalize upd H7 z (.lst []) = H8 at S8 S18 hT8 p8
          show (if (if true = true then _ else _) = true then _ else _)
          rw [if_pos rfl]
          cases hf : r.2.filter (fun o => (KM.usesOf rows o).isNone) with
          | cons g gs =>
            rw [hf] at p8 hra
            refine iteT ⟨_, rfl, _, rfl, D2, _, 0, .str g, rfl, rfl, SqL.of p8, atI_nat (j := 0) rfl, show 3 ≤ sizeLine by decide, fun p5 hp5 => q _ _ (S18.trans (same_upd hp5)) ?_⟩
            rw [hra] at hgo
            rw [← hgo]
            exact ⟨p5, rfl, upd_same⟩
          | nil =>
            rw [hf] at hra
            dsimp only at hra
            refine iteF ⟨_, rfl, _, rfl, d, r.1, r.2, rows, rfl, hT8, hsh, by have := hW.len; omega, hfirst, fun H9 S9 => ⟨_, rfl, ?_⟩⟩
            by_cases hb : r.1 ∈ KM.cb rows (KM.meas rows r.2 []) r.2 []
            · rw [if_pos hb] at hra
              rw [decide_eq_true hb]
              refine iteT ⟨_, rfl, show 2 ≤ sizeLine by decide, fun p5 hp5 => q _ _ ((S18.trans S9).trans (same_upd hp5)) ?_⟩
              rw [hra] at hgo
              rw [← hgo]
              exact ⟨p5, rfl, upd_same⟩
            · rw [if_neg hb] at hra
              rw [decide_eq_false hb]
              rw [hra] at hgo
              exact iteF ⟨⟨_, _, _, _, rfl⟩, S8.trans S9, hgo⟩
  · obtain ⟨⟨o2, o3, o4, o6, rfl⟩, S3, hgo⟩ := p
    refine q _ _ (S1.trans S3) ?_
    rw [← hgo, List.drop_of_length_le (by omega)]
    rfl
end
end R21

namespace R22
open PySem PySem.Spec PyProof.Rows L2 R9 R10 R11 R12 R13 R14 R15 R17 R19 R20 R21
/-! ### data of texts -/
theorem dp_strs {K : PySem.W.Frag} {H : Hp} : ∀ (us : List Str), DpAll K H (us.map V.str) (us.map PyData.str)
  | [] => .nil
  | u :: us => .cons (.str u) (dp_strs us)
theorem dp_tup {K : PySem.W.Frag} {H : Hp} {t : Addr} {us : List Str} (h : H t = some (.tup (us.map V.str))) : Dp K H (.ref t) (.tuple (us.map PyData.str)) := .tup (SqT.of h) (dp_strs us)
theorem eqv_strs : ∀ (us ws : List Str), PyData.eqvAll (us.map PyData.str) (ws.map PyData.str) = decide (us = ws)
  | [], [] => rfl
  | [], _ :: _ => rfl
  | _ :: _, [] => rfl
  | u :: us, w :: ws => by
    show (PyData.eqv (.str u) (.str w) && PyData.eqvAll (us.map PyData.str) (ws.map PyData.str)) = _
    rw [eqv_strs us ws]
    show ((u == w) && decide (us = ws)) = _
    by_cases e : u = w
    · subst e; simp
    · simp [e]
def StrsOk (us : List Str) : Prop := ∀ u ∈ us, PyData.strOk u = true
theorem lay_strs : ∀ {us : List Str}, StrsOk us → PyData.canLayAll0 (us.map PyData.str) = true
  | [], _ => rfl
  | u :: us, h => by
    show (PyData.canLay0 (.str u) && PyData.canLayAll0 (us.map PyData.str)) = true
    rw [lay_strs (fun x hx => h x (List.mem_cons_of_mem _ hx)), Bool.and_true]
    exact h u List.mem_cons_self
theorem depth_strs : ∀ (us : List Str), PyData.depthAll (us.map PyData.str) = 0
  | [] => rfl
  | u :: us => by
    show max (PyData.depth (.str u)) (PyData.depthAll (us.map PyData.str)) = 0
    rw [depth_strs us]
    rfl
theorem shaped_strs {us : List Str} (h : StrsOk us) : SeqAt.shaped (.tuple (us.map PyData.str)) = true := by
  unfold SeqAt.shaped
  rw [Bool.and_eq_true]
  refine ⟨lay_strs h, decide_eq_true ?_⟩
  show PyData.depthAll (us.map PyData.str) + 1 ≤ 64
  rw [depth_strs]
  omega
theorem ok6 : ∀ n ∈ names6, PyData.strOk n = true := by decide +kernel
theorem okG : PyData.strOk ("Gone" : Str) = true := by decide +kernel
theorem okU {r : URow} (h : ∀ o ∈ r.2, o ∈ names6 ∨ o = "Gone") : StrsOk r.2 := fun o ho => by
  rcases h o ho with z | z
  · exact ok6 o z
  · rw [z]; exact okG
def dRow (r : URow) : PyData := .tuple [.str r.1, .tuple (r.2.map PyData.str)]
theorem dp_row {K : PySem.W.Frag} {H : Hp} {v : V} {r : URow} (h : RowAt H v r) : Dp K H v (dRow r) := by
  obtain ⟨a, t, rfl, h1, h2⟩ := h
  exact .tup (SqT.of h1) (.cons (.str _) (.cons (dp_tup h2) .nil))
theorem eqv_row (r r' : URow) : PyData.eqv (dRow r) (dRow r') = decide (r = r') := by
  show ((r.1 == r'.1) && (PyData.eqvAll (r.2.map PyData.str) (r'.2.map PyData.str) && true)) = _
  rw [eqv_strs, Bool.and_true]
  obtain ⟨a, b⟩ := r
  obtain ⟨c, d⟩ := r'
  by_cases e : a = c
  · subst e
    by_cases e2 : b = d
    · subst e2; simp
    · simp [e2]
  · simp [e]
theorem shaped_row {r : URow} (h1 : PyData.strOk r.1 = true) (h2 : StrsOk r.2) : SeqAt.shaped (dRow r) = true := by
  unfold SeqAt.shaped
  rw [Bool.and_eq_true]
  refine ⟨?_, decide_eq_true ?_⟩
  · show (PyData.strOk r.1 && (PyData.canLayAll0 (r.2.map PyData.str) && true)) = true
    rw [h1, lay_strs h2]
    rfl
  · show max 0 (max (PyData.depthAll (r.2.map PyData.str) + 1) 0) + 1 ≤ 64
    rw [depth_strs]
    decide
def nameOf (H : Hp) (v : V) : Str := match v with
  | .ref a => (match H a with
    | some (.tup (.str n :: _)) => n
    | _ => "")
  | _ => ""
theorem nameOf_row {H : Hp} {v : V} {r : URow} (h : RowAt H v r) : nameOf H v = r.1 := by
  obtain ⟨a, t, rfl, h1, _⟩ := h
  unfold nameOf
  dsimp only
  rw [h1]
theorem rows_inj {H : Hp} : ∀ {rs : List V} {rows : List URow}, RowsAt H rs rows → (rows.map (·.1)).Nodup → ∀ x ∈ rs, ∀ y ∈ rs, nameOf H x = nameOf H y → x = y
  | _, _, .nil, _, x, hx => by cases hx
  | _, _, .cons (a := v) (b := r) (l₁ := rs) (l₂ := rows) h t, hn, x, hx => by
    rw [List.map_cons, List.nodup_cons] at hn
    have far : ∀ y ∈ rs, nameOf H y ≠ r.1 := fun y hy z => by
      obtain ⟨r', hr', q⟩ := paired_mem t y hy
      rw [nameOf_row q] at z
      exact hn.1 (List.mem_map.mpr ⟨r', hr', z⟩)
    intro y hy e
    rcases List.mem_cons.mp hx with z | z
    · rcases List.mem_cons.mp hy with z' | z'
      · rw [z, z']
      · exact absurd (by rw [← e, z]; exact nameOf_row h) (far y z')
    · rcases List.mem_cons.mp hy with z' | z'
      · exact absurd (by rw [e, z']; exact nameOf_row h) (far x z)
      · exact rows_inj t hn.2 x z y z' e
theorem perm_rows {F : V → URow → Prop} {rs ys : List V} (h : rs.Perm ys) : ∀ {rows : List URow}, Paired F rs rows → ∃ lrows, Paired F ys lrows ∧ rows.Perm lrows := by
  induction h with
  | nil => exact fun {rows} p => ⟨rows, p, List.Perm.refl _⟩
  | cons x h ih =>
    intro rows p
    cases p with
    | cons q t =>
      obtain ⟨lr, h1, h2⟩ := ih t
      exact ⟨_, .cons q h1, h2.cons _⟩
  | swap x y l =>
    intro rows p
    cases p with
    | cons q t =>
      cases t with
      | cons q2 t2 => exact ⟨_, .cons q2 (.cons q t2), List.Perm.swap _ _ _⟩
  | trans h1 h2 ih1 ih2 =>
    intro rows p
    obtain ⟨m, p1, e1⟩ := ih1 p
    obtain ⟨m2, p2, e2⟩ := ih2 p1
    exact ⟨m2, p2, e1.trans e2⟩
theorem pairwise_rows {H : Hp} : ∀ {rs : List V} {rows : List URow}, RowsAt H rs rows → rs.Pairwise (fun x y => R1.ltS (nameOf H y) (nameOf H x) = false) → rows.Pairwise (fun x y => R1.ltS y.1 x.1 = false)
  | _, _, .nil, _ => .nil
  | _, _, .cons h t, .cons h1 h2 => .cons (fun r' hr' => by
      obtain ⟨y, hy, q⟩ := paired_mem' t r' hr'
      have := h1 y hy
      rw [nameOf_row h, nameOf_row q] at this
      exact this) (pairwise_rows t h2)
theorem zip_pairs {α β : Type} {F : α → β → Prop} : ∀ {l : List α} {m : List β}, Paired F l m → ∃ L : List (α × β), L.map (·.1) = l ∧ L.map (·.2) = m ∧ ∀ p ∈ L, F p.1 p.2
  | _, _, .nil => ⟨[], rfl, rfl, fun p hp => by cases hp⟩
  | _, _, .cons (a := a) (b := b) h t => by
    obtain ⟨L, h1, h2, h3⟩ := zip_pairs t
    refine ⟨(a, b) :: L, by rw [List.map_cons, h1], by rw [List.map_cons, h2], fun p hp => ?_⟩
    rcases List.mem_cons.mp hp with z | z
    · rw [z]; exact h
    · exact h3 p z
theorem rdy_empty {st : List Str} {r : URow} : (r.2.filter fun o => decide (o ∉ st)).isEmpty = rdy st r := by
  unfold rdy
  induction r.2 with
  | nil => rfl
  | cons o us ih =>
    rw [List.filter_cons, List.all_cons]
    by_cases h : o ∈ st
    · rw [if_neg (by simp [h]), ih, decide_eq_true h, Bool.true_and]
    · rw [if_pos (by simp [h]), decide_eq_false h, Bool.false_and]
      rfl
section
variable {P : Program} {w : World} {K : PySem.W.Frag} {mg : Str → Option Value} {base : Heap} {U C : Addr}
def spOrder : Sp := fun vs H Q _ => ∃ (l : Addr) (rs : List V) (rows : List URow) (out : List Str), vs = [.ref l] ∧ H l = some (.lst rs) ∧ RowsAt H rs rows ∧ Wf rows ∧ (rows.map (·.1)).Nodup ∧ Ord rows [] out ∧ ∀ H' p, Same H H' → H' p = some (.tup (out.map V.str)) → Q (.ref p) H'
abbrev sOrder : Stmt := K86.top 86
abbrev nOrder : List Str := ["_law_rows", "_law_found", "_law_left", "_law_some", "_law_row", "_law_one"]
theorem scOrder : FnScope nOrder ["_law_rows"] (defScope sOrder) := ⟨rfl, rfl, rfl, by decide +kernel, rfl, by decide +kernel, by decide +kernel⟩
theorem cal_order (T : T86 K mg U) : Cal L2.CX0 P w K mg base 1 "_law_order" spOrder := by
  refine cal_of (k := 0) T.order scOrder (fun vs H Q E ⟨_, _, _, _, h, _⟩ => by rw [h]; rfl) (fun _ _ _ _ _ _ us hl => match us, hl with | [_], _ => rfl) fun f cdv A outer s H vs Q E hr h => ?_
  obtain ⟨l, rs, rows, out, rfl, hl, hR, hW, hnd, ho, q⟩ := h
  refine ⟨_, pss_cons (ps_asg (pe_tup (pa_cons (pe_lst pa_nil) (pa_cons (pe_callB R8.cr_sortRows (by rfl) T.sorted (by decide +kernel) (pa_cons (pv 0) pa_nil)) pa_nil)))
      (pg_tup rfl (pgs_cons (pg_name (i := 1) scOrder.nd rfl (Or.inr rfl)) (pgs_cons (pg_name (i := 2) scOrder.nd rfl (Or.inl rfl)) pgs_nil))))
    (pss_cons (ps_while PassesOwn.never (pt_cmpR (op_ne_nil hr.units) (pv 2) (pe_lst pa_nil) (nomark _))
      (pss_cons (ps_set (i := 3) scOrder.nd rfl (Or.inr rfl) (pe_lc (own := [("_law_row", 4)]) (g := gName 4) rfl scOrder.nd (pi_list (pv 2)) (blkOk_by (N := nOrder) (sc := defScope sOrder) (by decide +kernel))
          (fun _ _ _ _ _ => pg_name (i := 4) scOrder.nd rfl (Or.inl rfl))
          (fun _ _ _ _ _ => pts_one (pt_cmpR (r := rNil K false) (op_eq_nil hr.units) (pe_lc (own := [("_law_one", 5)]) (g := gName 5) rfl scOrder.nd (pi_tupK K (by rfl) (pe_ix (r := rIxT K) ix_tup (pv 4) pe_int (fun _ _ => rfl))) (blkOk_by (N := nOrder) (by rfl))
            (fun _ _ _ _ _ => pg_name (i := 5) scOrder.nd rfl (Or.inl rfl)) (fun _ _ _ _ _ => pts_one (pt_cmpR (r := rIn K true) op_notIn_seq (pv 5) (pv 1) (by rfl))) (fun _ _ _ _ _ => pv 5)) (pe_lst pa_nil) (nomark _)))
          (fun _ _ _ _ _ => pv 4)))
      (pss_cons (ps_expr (pe_bm PySem.F.plainAttrs_list PySem.F.slot_list_append PySem.F.type_list_append mt_append (pv 1) (pa_cons (pe_ix ix_tup (pe_ix ix_list (pv 3) pe_int (fun _ _ => rfl)) pe_int (fun _ _ => rfl)) pa_nil)))
      (pss_one (ps_setLc (i := 2) (own := [("_law_row", 4)]) (g := gName 4) rfl scOrder.nd rfl rfl (sw_true rfl rfl rfl (by decide +kernel)) (pi_list (pv 2)) (blkOk_by (N := nOrder) (sc := defScope sOrder) (by decide +kernel))
          (fun _ _ _ _ _ => pg_name (i := 4) scOrder.nd rfl (Or.inl rfl))
          (fun _ _ _ _ _ => pts_one (pt_cmpR (r := rNeD K) (op_neD hr.units) (pv 4) (pe_ix (r := rIxL K) ix_list (pv 3) pe_int (fun _ _ => rfl)) (nomark _)))
          (fun _ _ _ _ _ => pv 4))))))
    (pss_one (ps_ret (pe_callTy call_tuple_of (by rfl) T.tuple (by decide +kernel) (pa_cons (pv 1) pa_nil))))), ?_⟩
  refine ⟨by decide, fun lf hlf => ?_⟩
  have hl1 := upd_keep (v := .lst []) hl hlf
  have hR1 := RowsAt.keep (KeepT.of (same_upd (o := .lst []) hlf)) hR
  refine ⟨_, rfl, l, rs, nameOf (upd H lf (.lst [])), rfl, SqL.of hl1, fun x hx => ?_, rows_inj hR1 hnd, fun ys ll hperm hpw hll => ⟨show 2 ≤ sizeLine by decide, fun tp htp => ⟨tp, _, rfl, SqT.of upd_same, rfl, _, _, rfl, _, _, rfl, rfl, ?_⟩⟩⟩
  · obtain ⟨r, _, q⟩ := paired_mem hR1 x hx
    rw [nameOf_row q]
    obtain ⟨a, t, e, h1, _⟩ := q
    exact ⟨a, .ref t, e, h1⟩
  · obtain ⟨lrows, hR2, hpr⟩ := perm_rows hperm.symm hR1
    have hpw2 := pairwise_rows hR2 hpw
    have ho2 := ho.perm hpr
    have hnd2 : (lrows.map (·.1)).Nodup := (hpr.map _).nodup_iff.mp hnd
    have hsub2 : ∀ r ∈ lrows, r ∈ rows := fun r hr => hpr.mem_iff.mpr hr
    have hlen2 : lrows.length ≤ 7 := by rw [← hpr.length_eq]; exact hW.len
    have S1 : Same (upd H lf (.lst [])) (upd (upd (upd H lf (.lst [])) ll (.lst ys)) tp (.tup [.ref lf, .ref ll])) := (same_upd hll).trans (same_upd htp)
    have nfl : lf ≠ ll := ne_of_none (show upd H lf (.lst []) lf = some _ from upd_same) hll
    have h1l := upd_keep (v := HO.tup [.ref lf, .ref ll]) (show upd (upd H lf (.lst [])) ll (.lst ys) ll = _ from upd_same) htp
    have h1f := S1 _ _ (show upd H lf (.lst []) lf = _ from upd_same)
    have SH : Same H (upd (upd (upd H lf (.lst [])) ll (.lst ys)) tp (.tup [.ref lf, .ref ll])) := (same_upd hlf).trans S1
    have hR3 := RowsAt.keep (KeepT.of S1) hR2
    generalize upd (upd (upd H lf (.lst [])) ll (.lst ys)) tp (.tup [.ref lf, .ref ll]) = H1 at S1 h1l h1f SH hR3
    obtain ⟨L0, z1, z2, z3⟩ := zip_pairs hR3
    subst z1 z2
    have S0 := SH
    clear S1 hpw hperm hR2 hpr hR1 hll htp hnd hl1
    refine ⟨fun m σ H' => (∃ ll o3 o4 o5, σ = [some (.ref l), some (.ref lf), some (.ref ll), o3, o4, o5] ∧ lf ≠ ll ∧ ∃ (L : List (V × URow)) (st : List Str), H' ll = some (.lst (L.map (·.1))) ∧ H' lf = some (.lst (st.map V.str)) ∧ (∀ p ∈ L, RowAt H1 p.1 p.2 ∧ p.2 ∈ rows) ∧ (L.map (·.2)).Pairwise (fun x y => R1.ltS y.1 x.1 = false) ∧ ((L.map (·.2)).map (·.1)).Nodup ∧ Ord (L.map (·.2)) st out ∧ L.length = m ∧ st.length + m ≤ 7) ∧
      Same H H' ∧ KeepT H1 H', ⟨L0.length, ⟨ll, _, _, _, rfl, nfl, L0, [], h1l, h1f, fun p hp => ⟨z3 p hp, hsub2 _ (List.mem_map.mpr ⟨p, hp, rfl⟩)⟩, hpw2, hnd2, ho2, rfl, by rw [List.length_map] at hlen2; rw [List.length_nil]; omega⟩, S0, KeepT.refl _⟩, fun m σ H2 p => ?_⟩
    clear h1l h1f hR3 z3 hnd2 hsub2 hlen2 ho2 hpw2 nfl L0 ho
    obtain ⟨⟨ll, o3, o4, o5, rfl, nfl, L, st, h2l, h2f, hL, hpw, hnd, ho, hm, h7⟩, S2, kt2⟩ := p
    refine ⟨_, rfl, by decide, fun z hz => ⟨ll, z, _, rfl, rfl, SqL.of (upd_keep h2l hz), SqL.of upd_same, _, rfl, ?_⟩⟩
    have h3l := upd_keep (v := .lst []) h2l hz
    have h3f := upd_keep (v := .lst []) h2f hz
    have S3 := S2.trans (same_upd (o := .lst []) hz)
    have kt3 := kt2.trans (KeepT.of (same_upd (o := .lst []) hz))
    clear h2l h2f S2 kt2
    generalize upd H2 z (.lst []) = H3 at h3l h3f S3 kt3
    show (if (if true = true then !(L.map (·.1)).isEmpty else _) = true then _ else _)
    rw [if_pos rfl]
    cases L with
    | nil =>
      obtain rfl : st = out := by
        cases ho with
        | nil => rfl
        | step h1 _ _ _ => cases h1
      refine iteF ⟨_, rfl, lf, _, rfl, .inl ⟨SqL.of h3f, fun p hp => q _ _ (S3.trans (same_upd hp)) upd_same⟩⟩
    | cons p0 L0 =>
      generalize hLe : p0 :: L0 = L at *
      have hne : (!(L.map (·.1)).isEmpty) = true := by rw [← hLe]; rfl
      rw [if_pos hne]
      have hm0 : 0 < L.length := by rw [← hLe]; exact Nat.succ_pos _
      obtain ⟨n, rfl⟩ : ∃ n, m = n + 1 := ⟨m - 1, by omega⟩
      refine ⟨fun σ H' => (∃ ll o3 o4 o5, σ = [some (.ref l), some (.ref lf), some (.ref ll), o3, o4, o5] ∧ lf ≠ ll ∧ ∃ (L : List (V × URow)) (st : List Str), H' ll = some (.lst (L.map (·.1))) ∧ H' lf = some (.lst (st.map V.str)) ∧ (∀ p ∈ L, RowAt H1 p.1 p.2 ∧ p.2 ∈ rows) ∧ (L.map (·.2)).Pairwise (fun x y => R1.ltS y.1 x.1 = false) ∧ ((L.map (·.2)).map (·.1)).Nodup ∧ Ord (L.map (·.2)) st out ∧ L.length = n ∧ st.length + n ≤ 7) ∧
        Same H H' ∧ KeepT H1 H', fun σ' H' p => ⟨n, Nat.lt_succ_self _, p⟩, ?_⟩
      clear hLe
      refine ⟨_, rfl, ll, rfl, ⟨_, SqL.of h3l⟩, fun D hD => lc_list (K := K) (xs := L.map (·.1)) (PvF H3 D (fm L (fun p => rdy st p.2) (fun p => p.1))) (PvF.zero hD rfl) (fun j H6 _ p => SqL.of (p.2 _ _ h3l)) (fun j x H6 hx p6 => ?_) (fun H6 p6 => ?_)⟩
      · obtain ⟨pr, hpr, rfl⟩ := Option.map_eq_some_iff.mp ((List.getElem?_map (f := Prod.fst) (l := L) (i := j)).symm.trans hx)
        obtain ⟨hRow, hmem⟩ := hL pr (List.mem_of_getElem? hpr)
        obtain ⟨a, t, ea, ha, ht⟩ := hRow.keep (kt3.trans (KeepT.of p6.2))
        refine ⟨rfl, _, rfl, a, _, 1, .ref t, ea, rfl, SqT.of ha, atI_nat (j := 1) rfl, t, rfl, ⟨_, SqT.of ht⟩, fun D2 hD2 => lc_tup (K := K) (xs := pr.2.2.map V.str) (PvF H6 D2 (fm pr.2.2 (fun o => decide (o ∉ st)) V.str)) (PvF.zero hD2 rfl) (fun k H7 _ p => SqT.of (p.2 _ _ ht)) (fun k y H7 hy p7 => ?_) (fun H7 p7 => ?_)⟩
        · obtain ⟨o, ho', rfl⟩ := Option.map_eq_some_iff.mp ((List.getElem?_map (f := V.str) (l := pr.2.2) (i := k)).symm.trans hy)
          have f7 := p7.2 _ _ (p6.2 _ _ h3f)
          refine ⟨rfl, _, rfl, _, rfl, lf, _, rfl, .inl (SqL.of f7), rfl, flat_strs, _, rfl, ?_⟩
          rw [inV_str]
          have e : (if true = true then !decide (o ∈ st) else decide (o ∈ st)) = decide (o ∉ st) := by
            rw [if_pos rfl]
            by_cases h : o ∈ st
            · simp [h]
            · simp [h]
          rw [e]
          cases hb : decide (o ∉ st) with
          | true => exact iteT ⟨_, rfl, _, p7.1, Nat.lt_of_le_of_lt (Nat.le_trans fm_len (hW.short _ hmem)) (by decide), p7.keep hD2 (Same.refl _) (fm_yes (p := fun o => decide (o ∉ st)) ho' hb)⟩
          | false => exact iteF (p7.skip (Same.refl _) (fm_no (p := fun o => decide (o ∉ st)) ho' hb))
        · have q7 := p7.1
          rw [fm_all (by simp)] at q7
          refine ⟨by decide, fun z hz => ⟨D2, z, _, rfl, rfl, SqL.of (upd_keep q7 hz), SqL.of upd_same, _, rfl, ?_⟩⟩
          have pS : PvF H3 D (fm L (fun p => rdy st p.2) (fun p => p.1)) j (upd H7 z (.lst [])) := ⟨same_upd hz _ _ (p7.2 _ _ p6.1), (p6.2.trans p7.2).trans (same_upd hz)⟩
          generalize upd H7 z (.lst []) = H8 at pS
          have e : (if false = true then !((pr.2.2.filter fun o => decide (o ∉ st)).map V.str).isEmpty else ((pr.2.2.filter fun o => decide (o ∉ st)).map V.str).isEmpty) = rdy st pr.2 := by
            rw [if_neg Bool.false_ne_true, ← rdy_empty, List.isEmpty_map]
          rw [e]
          cases hb : rdy st pr.2 with
          | true => exact iteT ⟨_, rfl, _, pS.1, Nat.lt_of_le_of_lt (Nat.le_trans fm_len (show L.length ≤ 7 by omega)) (by decide), pS.keep hD (Same.refl _) (fm_yes (p := fun p => rdy st p.2) hpr hb)⟩
          | false => exact iteF (pS.skip (Same.refl _) (fm_no (p := fun p => rdy st p.2) hpr hb))
      · obtain ⟨q6, S36⟩ := p6
        rw [fm_all (by simp)] at q6
        have h6l := S36 _ _ h3l
        have h6f := S36 _ _ h3f
        have S6 := S3.trans S36
        have kt6 := kt3.trans (KeepT.of S36)
        have nDf : lf ≠ D := ne_of_none h3f hD
        have nDl : ll ≠ D := ne_of_none h3l hD
        clear h3l h3f S3 kt3 S36
        generalize hLs : L.map (·.2) = rL at ho
        cases ho with
        | nil =>
          rw [List.map_eq_nil_iff.mp hLs] at hm0
          cases hm0
        | @step _ _ _ r o1 o2 o3' o4' =>
          subst hLs
          obtain ⟨pm, hpm, epm⟩ := List.mem_map.mp o1
          subst epm
          have hpM : pm ∈ L.filter (fun p => rdy st p.2) := List.mem_filter.mpr ⟨hpm, o2⟩
          cases hM : L.filter (fun p => rdy st p.2) with
          | nil => rw [hM] at hpM; cases hpM
          | cons g gs =>
            have hgM : g ∈ L.filter (fun p => rdy st p.2) := by rw [hM]; exact List.mem_cons_self
            obtain ⟨hgL, hgr⟩ := List.mem_filter.mp hgM
            have hpwM : ((g :: gs).map (·.2)).Pairwise (fun x y => R1.ltS y.1 x.1 = false) := by
              rw [← hM]
              exact hpw.sublist ((List.filter_sublist).map _)
            have hmin : R1.ltS pm.2.1 g.2.1 = false := by
              rw [hM] at hpM
              rcases List.mem_cons.mp hpM with z | z
              · rw [z]; exact R1.lt_irr _
              · rw [List.map_cons] at hpwM
                exact (List.pairwise_cons.mp hpwM).1 _ (List.mem_map.mpr ⟨pm, z, rfl⟩)
            have hmin2 := o3' g.2 (List.mem_map.mpr ⟨g, hgL, rfl⟩) hgr
            have e1 : g.2.1 = pm.2.1 := R1.lt_tot hmin2 hmin
            have e2 : g.2 = pm.2 := hW.inj _ (hL g hgL).2 _ (hL pm hpm).2 e1
            have hgn : g.2.1 ∉ st → True := fun _ => trivial
            rw [hM] at q6
            obtain ⟨hgRow, hgm⟩ := hL g hgL
            obtain ⟨ag, tg, eg, hag, htg⟩ := hgRow.keep kt6
            refine ⟨_, rfl, .inl ⟨rfl, _, SqL.of h6f⟩, _, rfl, D, _, 0, g.1, rfl, rfl, SqL.of q6, atI_nat (j := 0) rfl, ag, _, 0, .str g.2.1, eg, rfl, SqT.of hag, atI_nat (j := 0) rfl, lf, _, _, rfl, rfl, h6f, ?_, ?_⟩
            · rw [List.length_map]
              exact Nat.lt_of_le_of_lt (show _ ≤ 7 by omega) (by decide)
            have kt67 : KeepT H6 (upd H6 lf (.lst (st.map V.str ++ [.str g.2.1]))) := KeepT.lst h6f
            have h7l : upd H6 lf (.lst (st.map V.str ++ [.str g.2.1])) ll = _ := (upd_ne nfl.symm).trans h6l
            have h7f : upd H6 lf (.lst (st.map V.str ++ [.str g.2.1])) lf = _ := upd_same
            have h7D : upd H6 lf (.lst (st.map V.str ++ [.str g.2.1])) D = _ := (upd_ne nDf.symm).trans q6
            have S7 : Same H (upd H6 lf (.lst (st.map V.str ++ [.str g.2.1]))) := same_updS hlf S6
            have kt7 := kt6.trans kt67
            generalize upd H6 lf (.lst (st.map V.str ++ [.str g.2.1])) = H7 at h7l h7f h7D S7 kt7
            refine ⟨_, rfl, ll, rfl, ⟨_, SqL.of h7l⟩, fun D3 hD3 => lc_list (K := K) (xs := L.map (·.1)) (PvF H7 D3 (fm L (fun p => decide (p.2 ≠ g.2)) (fun p => p.1))) (PvF.zero hD3 rfl) (fun j H8 _ p => SqL.of (p.2 _ _ h7l)) (fun j x H8 hx p8 => ?_) (fun H8 p8 => ?_)⟩
            · obtain ⟨pr, hpr, rfl⟩ := Option.map_eq_some_iff.mp ((List.getElem?_map (f := Prod.fst) (l := L) (i := j)).symm.trans hx)
              obtain ⟨hRow, hmem⟩ := hL pr (List.mem_of_getElem? hpr)
              have kt8 := kt7.trans (KeepT.of p8.2)
              refine ⟨rfl, _, rfl, _, rfl, D, _, 0, g.1, rfl, rfl, SqL.of (p8.2 _ _ h7D), atI_nat (j := 0) rfl, dRow pr.2, dRow g.2, dp_row (hRow.keep kt8), dp_row (hgRow.keep kt8), shaped_row (ok6 _ (hW.name _ hmem)) (okU (hW.uses _ hmem)), shaped_row (ok6 _ (hW.name _ hgm)) (okU (hW.uses _ hgm)), _, rfl, ?_⟩
              rw [eqv_row, show (!decide (pr.2 = g.2)) = decide (pr.2 ≠ g.2) from by by_cases h : pr.2 = g.2 <;> simp [h]]
              cases hb : decide (pr.2 ≠ g.2) with
              | true => exact iteT ⟨_, rfl, _, p8.1, Nat.lt_of_le_of_lt (Nat.le_trans fm_len (show L.length ≤ 7 by omega)) (by decide), p8.keep hD3 (Same.refl _) (fm_yes (p := fun p => decide (p.2 ≠ g.2)) hpr hb)⟩
              | false => exact iteF (p8.skip (Same.refl _) (fm_no (p := fun p => decide (p.2 ≠ g.2)) hpr hb))
            · have q8 := p8.1
              rw [fm_all (by simp)] at q8
              have eF : (L.filter fun p => decide (p.2 ≠ g.2)).map (·.2) = (L.map (·.2)).filter fun q => decide (q.1 ≠ pm.2.1) := by
                rw [List.filter_map]
                congr 1
                apply List.filter_congr
                intro p hp
                show decide (p.2 ≠ g.2) = decide (p.2.1 ≠ pm.2.1)
                by_cases h : p.2 = g.2
                · simp [h, e1]
                · have : p.2.1 ≠ pm.2.1 := fun z => h (hW.inj _ (hL p hp).2 _ hgm (z.trans e1.symm))
                  simp [h, this]
              have lF : (L.filter fun p => decide (p.2 ≠ g.2)).length + 1 = L.length := by
                have := filter_ne_len (L := L) hpm (by rw [List.map_map] at hnd; exact hnd)
                rw [← this]
                congr 1
                have e := congrArg List.length eF
                rw [List.length_map, List.filter_map, List.length_map] at e
                exact e
              refine ⟨⟨D3, _, _, _, rfl, ne_of_none h7f hD3, L.filter fun p => decide (p.2 ≠ g.2), st ++ [pm.2.1], q8, ?_, fun p hp => hL p (List.mem_filter.mp hp).1, hpw.sublist ((List.filter_sublist).map _), hnd.sublist (((List.filter_sublist).map _).map _), ?_, by omega, ?_⟩, S7.trans p8.2, kt7.trans (KeepT.of p8.2)⟩
              · rw [p8.2 _ _ h7f, List.map_append, e1]
                rfl
              · rw [eF]
                exact o4'
              · rw [List.length_append, List.length_singleton]
                omega
end
end R22

namespace R23
open PySem PySem.Spec PyProof.Rows L2 R9 R10 R11 R12 R13 R14 R15 R17 R19 R20 R21
/-! ### rows without a reason have an order -/
theorem go_none {rows : List URow} : ∀ (i : Nat), reasonGo rows i (rows.drop i) = none ↔ ∀ j r, i ≤ j → rows[j]? = some r → reasonAt rows j r = none := by
  intro i
  generalize hn : rows.length - i = n
  induction n generalizing i with
  | zero =>
    rw [List.drop_of_length_le (by omega)]
    refine ⟨fun _ j r hj e => ?_, fun _ => rfl⟩
    have := (List.getElem?_eq_some_iff.mp e).1
    omega
  | succ n ih =>
    have il : i < rows.length := by omega
    have e : rows[i]? = some rows[i] := List.getElem?_eq_getElem il
    rw [R16.reasonGo_drop e]
    constructor
    · intro h
      cases ha : reasonAt rows i rows[i] with
      | some x => rw [ha] at h; cases h
      | none =>
        rw [ha] at h
        intro j r hj hr
        by_cases z : j = i
        · subst z
          rw [e] at hr
          cases hr
          exact ha
        · exact (ih (i + 1) (by omega)).mp h j r (by omega) hr
    · intro h
      rw [h i _ (Nat.le_refl _) e]
      exact (ih (i + 1) (by omega)).mpr fun j r hj hr => h j r (by omega) hr
/-- what no reason means -/
structure Fine (rows : List URow) : Prop where
  nodup : (rows.map (·.1)).Nodup
  known : ∀ r ∈ rows, ∀ o ∈ r.2, (KM.usesOf rows o).isSome = true
  noring : ∀ r ∈ rows, r.1 ∉ KM.cb rows (KM.meas rows r.2 []) r.2 []
theorem at_none {rows : List URow} {i : Nat} {r : URow} : reasonAt rows i r = none ↔ r.1 ∉ (rows.take i).map (·.1) ∧ (∀ o ∈ r.2, (KM.usesOf rows o).isSome = true) ∧ r.1 ∉ KM.cb rows (KM.meas rows r.2 []) r.2 [] := by
  unfold reasonAt
  by_cases h : r.1 ∈ (rows.take i).map (·.1)
  · rw [if_pos h]
    exact ⟨fun z => (by cases z), fun z => absurd h z.1⟩
  · rw [if_neg h]
    cases hf : r.2.filter (fun o => (KM.usesOf rows o).isNone) with
    | cons g gs =>
      dsimp only
      refine ⟨fun z => (by cases z), fun z => ?_⟩
      have hg : g ∈ r.2.filter (fun o => (KM.usesOf rows o).isNone) := by rw [hf]; exact List.mem_cons_self
      obtain ⟨g1, g2⟩ := List.mem_filter.mp hg
      have := z.2.1 g g1
      cases hu : KM.usesOf rows g with
      | none => rw [hu] at this; cases this
      | some x => rw [hu] at g2; cases g2
    | nil =>
      dsimp only
      have hk : ∀ o ∈ r.2, (KM.usesOf rows o).isSome = true := fun o ho => by
        cases hu : KM.usesOf rows o with
        | some x => rfl
        | none =>
          have : o ∈ r.2.filter (fun o => (KM.usesOf rows o).isNone) := List.mem_filter.mpr ⟨ho, by rw [hu]; rfl⟩
          rw [hf] at this
          cases this
      by_cases hb : r.1 ∈ KM.cb rows (KM.meas rows r.2 []) r.2 []
      · rw [if_pos hb]
        exact ⟨fun z => (by cases z), fun z => absurd hb z.2.2⟩
      · rw [if_neg hb]
        exact ⟨fun _ => ⟨h, hk, hb⟩, fun _ => rfl⟩
theorem nodup_take {α : Type} : ∀ {l : List α}, (∀ (i : Nat) (x : α), l[i]? = some x → x ∉ l.take i) → l.Nodup
  | [], _ => List.nodup_nil
  | a :: l, h => by
    rw [List.nodup_cons]
    refine ⟨fun hm => ?_, nodup_take fun i x hx hm => h (i + 1) x (by simpa using hx) (by rw [List.take_succ_cons]; exact List.mem_cons_of_mem _ hm)⟩
    obtain ⟨j, hj, e⟩ := List.mem_iff_getElem.mp hm
    exact h (j + 1) a (by simp [hj, e]) (by rw [List.take_succ_cons]; exact List.mem_cons_self)
theorem none_fine {rows : List URow} : reasonL rows = none ↔ Fine rows := by
  have e : reasonL rows = reasonGo rows 0 (rows.drop 0) := rfl
  rw [e, go_none]
  constructor
  · intro h
    refine ⟨nodup_take fun i x hx hm => ?_, fun r hr => ?_, fun r hr => ?_⟩
    · obtain ⟨r, hr, rfl⟩ := Option.map_eq_some_iff.mp ((List.getElem?_map (f := Prod.fst) (l := rows) (i := i)).symm.trans hx)
      rw [← List.map_take] at hm
      exact (at_none.mp (h i r (Nat.zero_le _) hr)).1 hm
    · obtain ⟨j, hj, e⟩ := List.mem_iff_getElem.mp hr
      exact (at_none.mp (h j r (Nat.zero_le _) (by rw [List.getElem?_eq_getElem hj, e]))).2.1
    · obtain ⟨j, hj, e⟩ := List.mem_iff_getElem.mp hr
      exact (at_none.mp (h j r (Nat.zero_le _) (by rw [List.getElem?_eq_getElem hj, e]))).2.2
  · intro F j r _ hr
    refine at_none.mpr ⟨?_, F.known r (List.mem_of_getElem? hr), F.noring r (List.mem_of_getElem? hr)⟩
    rw [List.map_take]
    exact not_mem_take (by rw [List.getElem?_map, hr]; rfl) F.nodup
theorem usesOf_of {rows : List URow} (hn : (rows.map (·.1)).Nodup) {r : URow} (hr : r ∈ rows) : KM.usesOf rows r.1 = some r.2 := by
  cases h : KM.usesOf rows r.1 with
  | none => exact absurd rfl (usesOf_none h r hr)
  | some ws =>
    have := inj_of hn _ (usesOf_mem h) r hr rfl
    rw [← this]
theorem usesOf_rev {rows : List URow} (hn : (rows.map (·.1)).Nodup) (x : Str) : KM.usesOf rows.reverse x = KM.usesOf rows x := by
  have hn' : (rows.reverse.map (·.1)).Nodup := by
    rw [List.map_reverse]
    exact (List.reverse_perm _).nodup_iff.mpr hn
  cases h : KM.usesOf rows x with
  | some ws =>
    have := usesOf_mem h
    exact usesOf_of hn' (r := (x, ws)) (List.mem_reverse.mpr this)
  | none =>
    cases h' : KM.usesOf rows.reverse x with
    | none => rfl
    | some ws => exact absurd rfl (usesOf_none h (x, ws) (List.mem_reverse.mp (usesOf_mem h')))
theorem fine_rev {rows : List URow} (hs : KM.Short rows) (F : Fine rows) : Fine rows.reverse := by
  refine ⟨?_, fun r hr o ho => ?_, fun r hr hc => ?_⟩
  · rw [List.map_reverse]
    exact (List.reverse_perm _).nodup_iff.mpr F.nodup
  · rw [usesOf_rev F.nodup]
    exact F.known r (List.mem_reverse.mp hr) o ho
  · have hr' := List.mem_reverse.mp hr
    obtain ⟨c1, c2⟩ := KM.cb_closed hs (KM.meas rows r.2 []) r.2 [] (Nat.le_refl _)
    refine F.noring r hr' (KM.cb_least (rows := rows.reverse) (fun y => y ∈ KM.cb rows (KM.meas rows r.2 []) r.2 []) (fun x hx us hu y hy hk => ?_) _ r.2 [] (fun y hy hk => ?_) (fun y hy => by cases hy) _ hc)
    · rw [usesOf_rev F.nodup] at hu hk
      exact c2 x hx (by simp) us hu y hy hk
    · rw [usesOf_rev F.nodup] at hk
      exact c1 y hy hk
theorem reason_rev {rows : List URow} (hs : KM.Short rows) (h : reasonL rows = none) : reasonL rows.reverse = none := none_fine.mpr (fine_rev hs (none_fine.mp h))
theorem least_row : ∀ (l : List URow), l ≠ [] → ∃ r ∈ l, ∀ r' ∈ l, R1.ltS r'.1 r.1 = false
  | [], h => absurd rfl h
  | [a], _ => ⟨a, List.mem_cons_self, fun r' hr' => by rw [List.mem_singleton.mp hr']; exact R1.lt_irr _⟩
  | a :: b :: l, _ => by
    obtain ⟨r, hr, h⟩ := least_row (b :: l) (by simp)
    cases e : R1.ltS a.1 r.1 with
    | false =>
      refine ⟨r, List.mem_cons_of_mem _ hr, fun r' hr' => ?_⟩
      rcases List.mem_cons.mp hr' with z | z
      · rw [z]; exact e
      · exact h r' z
    | true =>
      refine ⟨a, List.mem_cons_self, fun r' hr' => ?_⟩
      rcases List.mem_cons.mp hr' with z | z
      · rw [z]; exact R1.lt_irr _
      · cases e2 : R1.ltS r'.1 a.1 with
        | false => rfl
        | true =>
          have := h r' z
          rw [R1.lt_tr e2 e] at this
          cases this
section
variable {rows : List URow}
def rch (rows : List URow) (r : URow) : List Str := KM.cb rows (KM.meas rows r.2 []) r.2 []
theorem has_ready (hs : KM.Short rows) (F : Fine rows) {left : List URow} {st : List Str} (hsub : ∀ r ∈ left, r ∈ rows) (hcl : ∀ r ∈ left, ∀ o ∈ r.2, o ∈ st ∨ ∃ q ∈ left, q.1 = o) :
    ∀ (n : Nat) (r : URow), r ∈ left → (left.filter fun q => decide (q.1 ∈ rch rows r)).length ≤ n → ∃ r' ∈ left, rdy st r' = true
  | n, r, hr, hn => by
    by_cases hrd : rdy st r = true
    · exact ⟨r, hr, hrd⟩
    · have : ∃ o ∈ r.2, o ∉ st := by
        unfold rdy at hrd
        rw [List.all_eq_true] at hrd
        refine Classical.byContradiction fun z => hrd fun o ho => decide_eq_true (Classical.byContradiction fun z' => z ⟨o, ho, z'⟩)
      obtain ⟨o, ho, hst⟩ := this
      rcases hcl r hr o ho with z | ⟨q, hq, rfl⟩
      · exact absurd z hst
      · have hqr := hsub q hq
        have uq := usesOf_of F.nodup hqr
        obtain ⟨c1, c2⟩ := KM.cb_closed hs (KM.meas rows r.2 []) r.2 [] (Nat.le_refl _)
        have hqin : q.1 ∈ rch rows r := c1 _ ho (by rw [uq]; rfl)
        have sub : ∀ y ∈ rch rows q, y ∈ rch rows r := KM.cb_least (rows := rows) (fun y => y ∈ rch rows r) (fun x hx us hu y hy hk => c2 x hx (by simp) us hu y hy hk) _ q.2 [] (fun y hy hk => c2 q.1 hqin (by simp) q.2 uq y hy hk) (fun y hy => by cases hy)
        have hlt : (left.filter fun p => decide (p.1 ∈ rch rows q)).length < (left.filter fun p => decide (p.1 ∈ rch rows r)).length := by
          have e : (left.filter fun p => decide (p.1 ∈ rch rows q)) = (left.filter fun p => decide (p.1 ∈ rch rows r)).filter fun p => decide (p.1 ∈ rch rows q) := by
            rw [List.filter_filter]
            apply List.filter_congr
            intro p _
            by_cases h : p.1 ∈ rch rows q
            · simp [h, sub _ h]
            · simp [h]
          rw [e]
          exact List.length_filter_lt_length_iff_exists.mpr ⟨q, List.mem_filter.mpr ⟨hq, decide_eq_true hqin⟩, by
            have := F.noring q hqr
            show ¬ decide (q.1 ∈ rch rows q) = true
            rw [decide_eq_false (show q.1 ∉ rch rows q from this)]
            exact Bool.false_ne_true⟩
        obtain ⟨m, rfl⟩ : ∃ m, n = m + 1 := ⟨n - 1, by omega⟩
        exact has_ready hs F hsub hcl m q hq (by omega)
theorem ord_from (hs : KM.Short rows) (F : Fine rows) : ∀ (n : Nat) (left : List URow) (st : List Str), left.length ≤ n → (∀ r ∈ left, r ∈ rows) → (∀ r ∈ left, ∀ o ∈ r.2, o ∈ st ∨ ∃ q ∈ left, q.1 = o) → ∃ out, Ord left st out
  | 0, left, st, h, _, _ => by
    rw [List.length_eq_zero_iff.mp (Nat.le_zero.mp h)]
    exact ⟨st, .nil⟩
  | n + 1, left, st, h, hsub, hcl => by
    cases hl : left with
    | nil => exact ⟨st, .nil⟩
    | cons a l =>
      rw [← hl]
      obtain ⟨r', hr', hrd⟩ := has_ready hs F hsub hcl _ a (by rw [hl]; exact List.mem_cons_self) (Nat.le_refl _)
      obtain ⟨r, hr, hmin⟩ := least_row (left.filter fun q => rdy st q) (fun z => by
        have : r' ∈ left.filter fun q => rdy st q := List.mem_filter.mpr ⟨hr', hrd⟩
        rw [z] at this
        cases this)
      obtain ⟨hr1, hr2⟩ := List.mem_filter.mp hr
      have hlt : (left.filter fun q => decide (q.1 ≠ r.1)).length < left.length := List.length_filter_lt_length_iff_exists.mpr ⟨r, hr1, by simp⟩
      obtain ⟨out, ho⟩ := ord_from hs F n (left.filter fun q => decide (q.1 ≠ r.1)) (st ++ [r.1]) (by omega) (fun q hq => hsub q (List.mem_filter.mp hq).1) (fun q hq o ho => by
        rcases hcl q (List.mem_filter.mp hq).1 o ho with z | ⟨p, hp, e⟩
        · exact .inl (List.mem_append_left _ z)
        · by_cases e2 : p.1 = r.1
          · exact .inl (List.mem_append_right _ (by rw [← e, e2]; exact List.mem_singleton.mpr rfl))
          · exact .inr ⟨p, List.mem_filter.mpr ⟨hp, decide_eq_true e2⟩, e⟩)
      exact ⟨out, .step hr1 hr2 (fun q hq hqr => hmin q (List.mem_filter.mpr ⟨hq, hqr⟩)) ho⟩
theorem ord_exists (hs : KM.Short rows) (h : reasonL rows = none) : (rows.map (·.1)).Nodup ∧ ∃ out, Ord rows [] out := by
  have F := none_fine.mp h
  refine ⟨F.nodup, ord_from hs F _ rows [] (Nat.le_refl _) (fun r hr => hr) fun r hr o ho => .inr ?_⟩
  have := F.known r hr o ho
  cases hu : KM.usesOf rows o with
  | none => rw [hu] at this; cases this
  | some ws => exact ⟨_, usesOf_mem hu, rfl⟩
end
end R23

namespace R24
open PySem PySem.Spec PyProof.Rows L2 R9 R10 R11 R12 R13 R14 R15 R16 R17 R18 R19 R20 R21 R22
theorem pg_tupK {X : Cx} (K : PySem.W.Frag) (m : Nat) {es : List Expr} {k : Nat} {t : TGs} {pos : Pos} (hK : X.K = K) (hc : X.calm = true) (h : PGs X es t) (hm : (assignEach es X.env).length = m) (hst : (assignEach es X.env).findIdx? (·.1) = none := by rfl) : PG X (.Tuple es k pos) (gTup K m t) := by
  subst hK hm
  exact pg_tup hc h rfl hst
/-! ### what the reasons are -/
def allReasons : List (List Str) := (names6.map fun n => [("twice" : Str), n]) ++ (names6.map fun n => [("ring" : Str), n]) ++ (names6.flatMap fun n => (("Gone" : Str) :: names6).map fun g => [("lacks" : Str), n, g])
def okReason (ws : List Str) : Bool := (PyData.tuple (ws.map PyData.str)).showable && !(PyData.tuple (ws.map PyData.str)).hasDict && decide ((PyData.tuple (ws.map PyData.str)).depth ≤ 40) && decide ((PyData.tuple (ws.map PyData.str)).shown.length ≤ 1000)
theorem ok_all : ∀ ws ∈ allReasons, okReason ws = true := by decide +kernel
theorem go_some {rows : List URow} {ws : List Str} : ∀ (i : Nat), reasonGo rows i (rows.drop i) = some ws → ∃ j r, rows[j]? = some r ∧ reasonAt rows j r = some ws := by
  intro i
  generalize hn : rows.length - i = n
  induction n generalizing i with
  | zero =>
    rw [List.drop_of_length_le (by omega)]
    intro h
    cases h
  | succ n ih =>
    have il : i < rows.length := by omega
    have e : rows[i]? = some rows[i] := List.getElem?_eq_getElem il
    rw [R16.reasonGo_drop e]
    intro h
    cases ha : reasonAt rows i rows[i] with
    | some x =>
      rw [ha] at h
      exact ⟨i, _, e, by rw [ha]; exact h⟩
    | none =>
      rw [ha] at h
      exact ih (i + 1) (by omega) h
theorem reason_in {rows : List URow} (hW : Wf rows) {ws : List Str} (h : reasonL rows = some ws) : ws ∈ allReasons := by
  obtain ⟨j, r, hr, ha⟩ := go_some (rows := rows) 0 h
  have hm := List.mem_of_getElem? hr
  have hn := hW.name r hm
  unfold reasonAt at ha
  unfold allReasons
  by_cases h1 : r.1 ∈ (rows.take j).map (·.1)
  · rw [if_pos h1] at ha
    cases ha
    exact List.mem_append_left _ (List.mem_append_left _ (List.mem_map.mpr ⟨_, hn, rfl⟩))
  · rw [if_neg h1] at ha
    cases hf : r.2.filter (fun o => (KM.usesOf rows o).isNone) with
    | cons g gs =>
      rw [hf] at ha
      cases ha
      have hg : g ∈ r.2.filter (fun o => (KM.usesOf rows o).isNone) := by rw [hf]; exact List.mem_cons_self
      refine List.mem_append_right _ (List.mem_flatMap.mpr ⟨r.1, hn, List.mem_map.mpr ⟨g, ?_, rfl⟩⟩)
      rcases hW.uses r hm g (List.mem_filter.mp hg).1 with z | z
      · exact List.mem_cons_of_mem _ z
      · rw [z]; exact List.mem_cons_self
    | nil =>
      rw [hf] at ha
      dsimp only at ha
      by_cases hb : r.1 ∈ KM.cb rows (KM.meas rows r.2 []) r.2 []
      · rw [if_pos hb] at ha
        cases ha
        exact List.mem_append_left _ (List.mem_append_right _ (List.mem_map.mpr ⟨_, hn, rfl⟩))
      · rw [if_neg hb] at ha
        cases ha
theorem ok_reason {rows : List URow} (hW : Wf rows) {ws : List Str} (h : reasonL rows = some ws) : (PyData.tuple (ws.map PyData.str)).showable = true ∧ (PyData.tuple (ws.map PyData.str)).hasDict = false ∧ (PyData.tuple (ws.map PyData.str)).depth ≤ 40 ∧ (PyData.tuple (ws.map PyData.str)).shown.length ≤ 1000 := by
  have := ok_all ws (reason_in hW h)
  unfold okReason at this
  simp only [Bool.and_eq_true, Bool.not_eq_true', decide_eq_true_eq] at this
  exact ⟨this.1.1.1, this.1.1.2, this.1.2, this.2⟩
theorem ord_mem {left : List URow} {st out : List Str} (h : Ord left st out) : ∀ o ∈ out, o ∈ st ∨ ∃ r ∈ left, r.1 = o := by
  induction h with
  | nil => exact fun o ho => .inl ho
  | @step left st out r h1 h2 h3 h4 ih =>
    intro o ho
    rcases ih o ho with z | ⟨q, hq, e⟩
    · rcases List.mem_append.mp z with z | z
      · exact .inl z
      · exact .inr ⟨r, h1, (List.mem_singleton.mp z).symm⟩
    · exact .inr ⟨q, (List.mem_filter.mp hq).1, e⟩
theorem paired_rev {α β : Type} {F : α → β → Prop} : ∀ {l : List α} {m : List β}, Paired F l m → Paired F l.reverse m.reverse
  | _, _, .nil => .nil
  | _, _, .cons h t => by
    rw [List.reverse_cons, List.reverse_cons]
    exact paired_snoc h (paired_rev t)
theorem high6 : ∀ n ∈ names6, highOk n = true := by decide +kernel
theorem highG : highOk ("Gone" : Str) = true := by decide +kernel
theorem tabs_keepX {T : List (Addr × Str)} {c : Addr} {H H' : Hp} (h : LamX.Tabs T H) (S : SameX c H H') (hc : Cup H c) : LamX.Tabs T H' := fun p hp => by
  obtain ⟨ps, h1, h2, h3⟩ := h p hp
  obtain ⟨i, j, k, _, hcc⟩ := hc
  refine ⟨ps, S _ _ (fun z => by rw [z, hcc] at h1; cases h1) h1, h2, fun pos cv e => ?_⟩
  obtain ⟨c1, e1, e2⟩ := h3 pos cv e
  exact ⟨c1, e1, S _ _ (fun z => by rw [z, hcc] at e2; cases e2) e2⟩
theorem unitAt_ext {U : Addr} {H H' : Hp} {u : V} {r : URow} (h : UnitAt U H u r) (S : LamX.ExtN H H') : UnitAt U H' u r := by
  obtain ⟨a, dx, t, vs, e, hs, h1, h4, ht⟩ := h
  refine ⟨a, dx, t, vs, e, ?_, h1, h4, S _ _ ht (fun _ z => by cases z)⟩
  rcases hs with ⟨q1, q2⟩ | ⟨q1, q2⟩
  · exact .inl ⟨S _ _ q1 (fun _ z => by cases z), q2⟩
  · exact .inr ⟨S _ _ q1 (fun _ z => by unfold SlX.SlO at z; cases z), S _ _ q2 (fun _ z => by cases z)⟩
theorem unitsAt_ext {U : Addr} {H H' : Hp} (S : LamX.ExtN H H') : ∀ {us : List V} {rows : List URow}, UnitsAt U H us rows → UnitsAt U H' us rows
  | _, _, .nil => .nil
  | _, _, .cons h t => .cons (unitAt_ext h S) (unitsAt_ext S t)
/-- a def whose code object is known -/
structure FunC (K : PySem.W.Frag) (mg : Str → Option Value) (x : Str) (st : Stmt) (f : Addr) (c : Addr) (fd : FuncData) : Prop where
  ex : ∃ (oc : Value) (od : Option Addr) (kV doc pm : Value) (an : Option Addr) (ct : Value) (osl : Array (Option Value)),
    fd = PySem.W.fnOf x x (defArgs st) (defBody st) (defScope st) .none kV doc pm an (.ref c) ct ∧ K.lookup f = some ⟨oc, od, .func fd, osl⟩ ∧ PySem.W.codeIn K (.ref c) x = true
  kp : PySem.W.keepIn K (.ref f) = true
  m : mg x = some (.ref f)
/-- what stays: all but the cup and the tables -/
def KeepN (c : Addr) (H H' : Hp) : Prop := ∀ b o, b ≠ c → (∀ ps, o ≠ .tbl ps) → H b = some o → H' b = some o
theorem KeepN.trans {c : Addr} {H H1 H2 : Hp} (S : KeepN c H H1) (T : KeepN c H1 H2) : KeepN c H H2 := fun b o n h e => T b o n h (S b o n h e)
theorem KeepN.ofX {c : Addr} {H H1 : Hp} (S : SameX c H H1) : KeepN c H H1 := fun b o n _ e => S b o n e
theorem KeepN.of {c : Addr} {H H1 : Hp} (S : Same H H1) : KeepN c H H1 := fun b o _ _ e => S b o e
theorem KeepN.ofN {c : Addr} {H H1 : Hp} (S : LamX.ExtN H H1) : KeepN c H H1 := fun b o _ h e => S b o e h
def qR : Str := "_law_right.<locals>.<lambda>"
def qL : Str := "law.<locals>.<lambda>"
abbrev TT2 (PR PL : Addr) : List (Addr × Str) := [(PR, qR), (PL, qL)]
/-- what the walk has of the lambda and of what it is handed to -/
structure Hand (P : Program) (K : PySem.W.Frag) (mg : Str → Option Value) (U C : Addr) : Prop where
  t : T86 K mg U
  r : RefT P K mg C
  m : R6.MetC K mg C
  d : Dfn K mg "_law_met" R6.sMet
section
variable {P : Program} {w : World} {K : PySem.W.Frag} {mg : Str → Option Value} {base : Heap} {U C : Addr}
theorem lam_met {X : Cx} {T : List (Addr × Str)} {Pt c : Addr} (Hd : Hand X.prog X.K X.mg U C) (hg : X.A.guards = some []) (hr : Room 7 X.A) (TB : LamX.TabB X.base X.mg c Pt) (hcode : X.env.code = .ref c) (hmT : (Pt, X.env.qual ++ "<lambda>") ∈ T) (hu : ∀ p ∈ T, p.1 = Pt → p.2 = X.env.qual ++ "<lambda>") (hgl : Gl X "_law_met")
    {params : Arguments} {body : Expr} {scope : Scope} {t : XK → TE} {p lpos pos : Pos} (L : LamX.LamS X.env.scope scope) (hdef : defaultsOf params X.env = ([], [])) (hbind : ∀ (q : Str) (cl : List (Str × Addr)) (pm cv ctv : Value), bindArgs (PySem.W.kla_fn "<lambda>" q params body scope cl pm cv ctv) ⟨[], []⟩ = pure [])
    (hbody : ∀ (A : Around) (outer : List Env) (s : Shared) (H : Hp) (E : XK) (f c' : Addr), Room 5 (A.deeper (LamX.lamEnv X scope s.heap.objs.size f c')) → PE (LamX.lamCx X A outer s H E scope f c') body (t E)) :
    PE X (.Call (.Name "_law_met" p) [.Lambda params body scope lpos] [] pos) (LamX.tLam T (R6.TTmet X.K C) t) := by
  obtain ⟨f, fd, F, hm⟩ := Hd.d
  obtain ⟨oc, od, kV, doc, pm, an, cdv, ct, osl, rfl, lk, hcd⟩ := F.ex
  exact LamX.pe_lamcall (T := T) (k := 5) (a := "_law_call") (Ng := ["_law_call", "e"]) hgl hm F.kp lk hcd (.all (fun us hl => match us, hl with | [_], _ => rfl)) R6.scMet rfl (Or.inl rfl) (R6.met_gives Hd.m hg (hr.mono (by decide))) TB hcode hmT hu hr L hdef hbind hbody
def spRight (PR PL : Addr) : Sp := fun vs H Q _ => ∃ c : Addr, vs = [.ref c] ∧ Cup H c ∧ LamX.Tabs (TT2 PR PL) H ∧ ∀ H', KeepN c H H' → Cup H' c → LamX.Tabs (TT2 PR PL) H' → Q (.bl true) H'
abbrev sRight : Stmt := K86.top 87
abbrev nRight : List Str := ["_law_cup_here", "_law_rows", "_law_units", "_law_reason_here", "_law_name", "_law_uses"]
theorem scRight : FnScope nRight ["_law_cup_here"] (defScope sRight) := ⟨rfl, rfl, rfl, by decide +kernel, rfl, by decide +kernel, by decide +kernel⟩
theorem right_ok {f cR PR PL : Addr} {fd : FuncData} (Hd : Hand P K mg U C) (F : FunC K mg "_law_right" sRight f cR fd) (TB : LamX.TabB base mg cR PR) (hPP : PL ≠ PR) : R5.FnG P w K mg base 8 f fd ["_law_cup_here"] (spRight PR PL) := by
  obtain ⟨oc, od, kV, doc, pm, an, ct, osl, rfl, lk, hcd⟩ := F.ex
  have T := Hd.t
  obtain ⟨fi, fdi, dsi, Mi, Fi, vi, bi⟩ := init_ok (P := P) (w := w) (base := base) T
  refine R5.FnG.of (k := 7) lk hcd scRight (fun vs H Q E ⟨_, h, _⟩ => by rw [h]; rfl) fun A outer s H vs Q E hr hgd h => ?_
  obtain ⟨c, rfl, hc, hT, q⟩ := h
  refine ⟨_, PSs.nox (pss_cons (ps_set (i := 1) scRight.nd rfl (Or.inl rfl) (pe_c (cal_graph T) hr (by decide) (by rfl) (pa_cons (pv 0) pa_nil)))
    (pss_cons (ps_set (i := 2) scRight.nd rfl (Or.inr rfl) (pe_callTy call_tuple_of (by rfl) T.tuple (by decide +kernel) (pa_cons (pe_lc (own := [("_law_name", 4), ("_law_uses", 5)]) (g := gTup K 2 (gCons (gName 4) (gCons (gName 5) gNil))) (tt := tYes) rfl scRight.nd (pi_list (pv 1)) (blkOk_by (N := nRight) (sc := defScope sRight) (by decide +kernel))
        (fun _ _ _ _ _ => pg_tupK K 2 rfl rfl (pgs_cons (pg_name (i := 4) scRight.nd rfl (Or.inl rfl)) (pgs_cons (pg_name (i := 5) scRight.nd rfl (Or.inl rfl)) pgs_nil)) rfl)
        (fun _ _ _ _ _ => pts_nil)
        (fun _ _ _ _ _ => pe_make Mi Fi (hr.mono (by decide)) (by rfl) T.mU bi vi pass0 (pa_cons (pv 4) (pa_cons (pv 5) (pa_cons (pe_tup pa_nil) pa_nil))))) pa_nil)))
    (pss_cons (ps_set (i := 3) scRight.nd rfl (Or.inl rfl) (pe_c (cal_reason T) hr (by decide) (by rfl) (pa_cons (pv 1) pa_nil)))
    (pss_cons (ps_if (pt_cmpR op_notN (pv 3) pe_non (nomark _))
      (pss_one (ps_ret (pe_cmpR op_eq (lam_met (T := TT2 PR PL) (Pt := PR) Hd hgd hr TB rfl List.mem_cons_self (fun q hq' e => by
          rcases List.mem_cons.mp hq' with z | z
          · rw [z]; rfl
          · rw [List.mem_singleton.mp z] at e
            exact absurd e hPP) (by rfl) (LamX.lamS_by (sc := defScope sRight) (by decide +kernel)) rfl (fun _ _ _ _ _ => rfl)
          (fun A outer s H E f c' hr' => pe_cX (cal_orderO T Hd.r) hr' (by decide) (by rfl) (passes_call (takes_of rfl rfl rfl rfl) fun _ _ _ _ h => h) (pa_cons (pv 2) pa_nil)))
        (pe_op op_add_str pe_str (pe_callB (R5.cr_repr hgd hr.units) (by rfl) T.repr (by decide +kernel) (pa_cons (pv 3) pa_nil))) (nomark _)))) pss_nil)
    (pss_one (ps_ret (pe_and (pe_cmpR (op_eqD hr.units) (pe_cX (cal_orderO T Hd.r) hr (by decide) (by rfl) passL (pa_cons (pv 2) pa_nil)) (pe_c (cal_order T) hr (by decide) (by rfl) (pa_cons (pv 1) pa_nil)) (nomark _))
      (pe_one (pe_cmpR (op_eqD hr.units) (pe_cX (cal_orderO T Hd.r) hr (by decide) (by rfl) passL (pa_cons (R2b.pe_revT (pv 2)) pa_nil)) (pe_c (cal_order T) hr (by decide) (by rfl) (pa_cons (pv 1) pa_nil)) (nomark _)))))))))), ?_⟩
  refine ⟨_, rfl, c, rfl, hc, fun H1 l rs rows S1 hc1 hlH h1 hR1 hW => ?_⟩
  have hT1 := tabs_keepX hT S1 hc
  have K1 : KeepN c H H1 := KeepN.ofX S1
  have hsh : KM.Short rows := hW.short
  have lrs : rs.length = rows.length := hR1.length
  clear hT hc S1
  refine ⟨_, rfl, l, rfl, ⟨_, SqL.of h1⟩, fun D hD => lc_list (K := K) (xs := rs) (fun i H' => Same H1 H' ∧ ∃ us, H' D = some (.lst us) ∧ UnitsAt U H' us (rows.take i)) ⟨same_upd hD, [], upd_same, .nil⟩ (fun i H' _ p => SqL.of (p.1 _ _ h1)) (fun i x H2 hx p => ?_) (fun H2 p => ?_)⟩
  · obtain ⟨S2, us, hus, hU⟩ := p
    obtain ⟨r, hr', hrr⟩ := paired_at (RowsAt.keep (KeepT.of S2) hR1) hx
    obtain ⟨a, t, ea, ha, ht⟩ := hrr
    have hm := List.mem_of_getElem? hr'
    refine ⟨a, _, ea, SqT.of ha, rfl, _, _, rfl, _, _, rfl, rfl, rfl, tYes_go ⟨_, rfl, _, rfl, by decide, fun d hd x dx hx' hdx hne => ?_⟩⟩
    have e1 := upd_keep (v := .tup []) ht hd
    have hxd : x ≠ d := fun z => by rw [z, upd_same] at hx'; cases hx'
    have hdd : dx ≠ d := fun z => by rw [z, upd_same] at hdx; cases hdx
    have up : ∀ {b o}, upd H2 d (.tup []) b = some o → upd (upd (upd H2 d (.tup [])) dx (.own x)) x (.ins U dx []) b = some o := fun {b o} e => by
      rw [upd_ne (ne_of_none e hx'), upd_ne (ne_of_none e hdx)]
      exact e
    refine ⟨x, dx, t, d, r.1, r.2, rfl, upd_same, by rw [upd_ne hne]; exact upd_same, hne, up e1, up upd_same, high6 _ (hW.name r hm), by have := hW.short r hm; omega, fun u hu => ?_, hW.own r hm, hW.nodup r hm, fun H3 hk hUn => ?_⟩
    · rcases hW.uses r hm u hu with z | z
      · exact high6 _ z
      · rw [z]; exact highG
    · have S23 : Same H2 H3 := fun b o e => hk b o (fun z => by rw [z] at e; rw [same_upd hd x o e] at hx'; cases hx') (fun z => by rw [z] at e; rw [same_upd hd dx o e] at hdx; cases hdx) (up (same_upd hd b o e))
      refine ⟨rfl, us, S23 _ _ hus, ?_, ?_⟩
      · have := hU.length
        rw [List.length_take] at this
        have := hW.len
        exact Nat.lt_of_le_of_lt (show us.length ≤ 7 by omega) (by decide)
      · have hDH1 : H1 D = none := hD
        have k3 : Same H1 (upd H3 D (.lst (us ++ [.ref x]))) := same_updS hDH1 (S2.trans S23)
        have SD : ∀ {v r'}, UnitAt U H3 v r' → UnitAt U (upd H3 D (.lst (us ++ [.ref x]))) v r' := fun {v r'} h => by
          obtain ⟨a, dx, t', vs, e, hs, q1, q4, ht'⟩ := h
          have hD3 := S23 _ _ hus
          have kp : ∀ {b o}, H3 b = some o → (∀ xs, o ≠ .lst xs) → upd H3 D (.lst (us ++ [.ref x])) b = some o := fun {b o} e1 e2 => by
            rw [upd_ne (fun z => by rw [z, hD3] at e1; exact e2 us (Option.some.inj e1).symm)]
            exact e1
          refine ⟨a, dx, t', vs, e, ?_, q1, q4, kp ht' (fun _ z => by cases z)⟩
          rcases hs with ⟨w1, w2⟩ | ⟨w1, w2⟩
          · exact .inl ⟨kp w1 (fun _ z => by cases z), w2⟩
          · exact .inr ⟨kp w1 (fun _ z => by unfold SlX.SlO at z; cases z), kp w2 (fun _ z => by cases z)⟩
        have SDs : ∀ {vs rs'}, UnitsAt U H3 vs rs' → UnitsAt U (upd H3 D (.lst (us ++ [.ref x]))) vs rs' := fun {vs rs'} h => by
          induction h with
          | nil => exact .nil
          | cons h t ih => exact .cons (SD h) ih
        refine ⟨k3, _, upd_same, ?_⟩
        rw [List.take_add_one, hr']
        exact paired_snoc (SD hUn) (SDs (hU.same S23))
  · obtain ⟨S2, us, hus, hU⟩ := p
    rw [List.take_of_length_le (by omega)] at hU
    refine ⟨D, us, rfl, .inl ⟨SqL.of hus, fun ut hut => ?_⟩⟩
    have S3 : Same H1 (upd H2 ut (.tup us)) := S2.trans (same_upd hut)
    have hU3 := hU.same (same_upd (o := .tup us) hut)
    have h3t : upd H2 ut (.tup us) ut = some (.tup us) := upd_same
    generalize upd H2 ut (.tup us) = H3 at S3 hU3 h3t
    have h1l := S3 _ _ h1
    have hR3 := RowsAt.keep (KeepT.of S3) hR1
    have hc3 := hc1.same S3
    have hT3 := hT1.ext S3
    have K3 := K1.trans (KeepN.of (c := c) S3)
    have h7 := hW.len
    have hpos := hW.pos
    clear S2 hus hU hD hut hT1 K1 hc1 hR1 h1
    refine ⟨_, rfl, l, rs, rows, rfl, h1l, hR3, hW, fun H4 v S4 hv => ?_⟩
    have h4l := S4 _ _ h1l
    have h4t := S4 _ _ h3t
    have hR4 := RowsAt.keep (KeepT.of S4) hR3
    have hU4 := hU3.same S4
    have hc4 := hc3.same S4
    have hT4 := hT3.ext S4
    have K4 := K3.trans (KeepN.of (c := c) S4)
    clear S4 h1l h3t hR3 hU3 hc3 hT3 K3 S3
    cases hre : reasonL rows with
    | some ws =>
      rw [hre] at hv
      obtain ⟨p, rfl, hp⟩ := hv
      obtain ⟨b1, b2, b3, b4⟩ := ok_reason hW hre
      refine ⟨_, rfl, rfl, _, rfl, iteT ?_⟩
      refine ⟨hT4, fun H5 eN T5 => ?_⟩
      refine ⟨_, rfl, ut, us, rows, rfl, eN _ _ h4t (fun _ z => by cases z), unitsAt_ext eN hU4, hsh, hpos, by omega, fun ws' hw H6 d p' S6 hd' hp' => ?_, fun hn => by rw [hre] at hn; cases hn⟩
      rw [hre] at hw
      cases hw
      refine ⟨rfl, d, p', .tuple (ws.map PyData.str), rfl, hd', dp_tup hp', b1, b2, b3, b4, ?_⟩
      have hp6 := S6 _ _ (eN _ _ hp (fun _ z => by cases z))
      refine ⟨_, rfl, p, .tuple (ws.map PyData.str), rfl, dp_tup hp6, b1, b2, b3, Nat.le_trans b4 (by decide), _, _, rfl, rfl, Nat.le_trans (Nat.add_le_add_left b4 _) (by decide), rfl, ?_⟩
      rw [decide_eq_true rfl]
      obtain ⟨ci, cj, ck, c0, cc⟩ := hc4
      exact q _ ((K4.trans (KeepN.ofN eN)).trans (KeepN.of S6)) ⟨ci, cj, ck, c0, S6 _ _ (eN _ _ cc (fun _ z => by cases z))⟩ (T5.ext S6)
    | none =>
      rw [hre] at hv
      have hv' : v = .non := hv
      subst hv'
      obtain ⟨hnd, out, ho⟩ := R23.ord_exists hsh hre
      refine ⟨_, rfl, rfl, _, rfl, iteF ?_⟩
      have okO : StrsOk out := fun o ho' => by
        rcases ord_mem ho o ho' with z | ⟨r, hr, e⟩
        · cases z
        · rw [← e]; exact ok6 _ (hW.name r hr)
      refine ⟨_, rfl, ut, us, rows, rfl, h4t, hU4, hsh, hpos, by omega, (fun ws hw => by rw [hre] at hw; cases hw), fun _ => ⟨out, hnd, ho, fun H5 p1 S5 hp1 => ?_⟩⟩
      refine ⟨_, rfl, l, rs, rows, out, rfl, S5 _ _ h4l, RowsAt.keep (KeepT.of S5) hR4, hW, hnd, ho, fun H6 p2 S6 hp2 => ?_⟩
      have eqs : PyData.eqv (.tuple (out.map PyData.str)) (.tuple (out.map PyData.str)) = true := by
        show PyData.eqvAll _ _ = true
        rw [eqv_strs]
        simp
      refine ⟨.tuple (out.map PyData.str), .tuple (out.map PyData.str), dp_tup (S6 _ _ hp1), dp_tup hp2, shaped_strs okO, shaped_strs okO, _, rfl, ?_⟩
      rw [eqs]
      have S46 := S5.trans S6
      refine iteT ⟨_, rfl, ut, us, rfl, SqT.of (S46 _ _ h4t), fun pr hpr => ?_⟩
      have S7 : Same H4 (upd H6 pr (.tup us.reverse)) := S46.trans (same_upd hpr)
      have hsr : KM.Short rows.reverse := fun r hr => hsh r (List.mem_reverse.mp hr)
      refine ⟨pr, us.reverse, rows.reverse, rfl, upd_same, paired_rev (hU4.same S7), hsr, by rw [List.length_reverse]; exact hpos, by rw [List.length_reverse]; omega, (fun ws hw => by rw [R23.reason_rev hsh hre] at hw; cases hw), fun _ => ⟨out, by rw [List.map_reverse]; exact (List.reverse_perm _).nodup_iff.mpr hnd, ho.perm (List.reverse_perm rows).symm, fun H8 p3 S8 hp3 => ?_⟩⟩
      have S78 := S7.trans S8
      refine ⟨_, rfl, l, rs, rows, out, rfl, S78 _ _ h4l, RowsAt.keep (KeepT.of S78) hR4, hW, hnd, ho, fun H9 p4 S9 hp4 => ?_⟩
      refine ⟨.tuple (out.map PyData.str), .tuple (out.map PyData.str), dp_tup (S9 _ _ hp3), dp_tup hp4, shaped_strs okO, shaped_strs okO, ?_⟩
      rw [eqs]
      have S49 := S78.trans S9
      exact q _ (K4.trans (KeepN.of (c := c) S49)) (hc4.same S49) (hT4.ext S49)
end
end R24

namespace R25
open PySem PySem.Spec PyProof.Rows L2 R9 R10 R11 R12 R13 R14 R15 R16 R17 R18 R19 R20 R21 R22 R24
/-! ### the script, the units, the words -/
def Scr (K : PySem.W.Frag) (a : Addr) (xs : List V) (H : Hp) (c : Addr) : Prop := (Rd H a (.lst xs) ∧ a ≠ c) ∨ ∀ H', SqL K H' a xs
theorem Scr.sq {K : PySem.W.Frag} {a c : Addr} {xs : List V} {H : Hp} (h : Scr K a xs H c) : SqL K H a xs := by
  rcases h with ⟨h, _⟩ | h
  · exact .inl h
  · exact h H
theorem Scr.keep {K : PySem.W.Frag} {a c : Addr} {xs : List V} {H H' : Hp} (h : Scr K a xs H c) (S : KeepN c H H') : Scr K a xs H' c := by
  rcases h with ⟨h, n⟩ | h
  · refine .inl ⟨?_, n⟩
    rcases h with h | ⟨o, h⟩
    · exact .inl (S _ _ n (fun _ z => by cases z) h)
    · exact .inr ⟨o, S _ _ n (fun _ z => by cases z) h⟩
  · exact .inr h
theorem scr_of {K : PySem.W.Frag} {a c : Addr} {xs : List V} {H H' : Hp} (h : SqL K H a xs) (S : Same H H') (hc : H c = none) : Scr K a xs H' c := by
  rcases h with h | h
  · rcases h with h | ⟨o, h⟩
    · exact .inl ⟨.inl (S _ _ h), ne_of_none h hc⟩
    · exact .inl ⟨.inr ⟨o, S _ _ h⟩, ne_of_none h hc⟩
  · exact .inr fun _ => .inr h
theorem make_u {U : Addr} {E : XK} {n : Str} {us : List Str} {ta : TA} (hta : ∀ (σ : L2.St) (H : Hp) (Q : List V → Hp → Prop), Q (us.map V.str) H → ta σ H Q) (h1 : highOk n = true) (h2 : us.length < 8) (h3 : ∀ u ∈ us, highOk u = true) (h4 : n ∉ us) (h5 : us.Nodup)
    {σ : L2.St} {H : Hp} {Q : VK} (q : ∀ x H', Same H H' → UnitAt U H' (.ref x) (n, us) → Q (.ref x) H') : tMake U (spInit U) [V.non] E (tCons (tC (.str n)) (tCons (tTup ta) (tCons (tTup tNil) tNil))) σ H Q := by
  refine hta σ H _ ⟨by rw [List.length_map]; exact Nat.le_trans (Nat.le_of_lt h2) (by decide), fun t ht => ⟨by decide, fun d hd x dx hx hdx hne => ?_⟩⟩
  have e1 := upd_keep (v := .tup []) (show upd H t (.tup (us.map V.str)) t = _ from upd_same) hd
  have S0 : Same H (upd (upd H t (.tup (us.map V.str))) d (.tup [])) := (same_upd ht).trans (same_upd hd)
  have e2 : upd (upd H t (.tup (us.map V.str))) d (.tup []) d = some (.tup []) := upd_same
  generalize upd (upd H t (.tup (us.map V.str))) d (.tup []) = G at hx hdx e1 e2 S0
  have up : ∀ {b o}, G b = some o → upd (upd G dx (.own x)) x (.ins U dx []) b = some o := fun {b o} e => by
    rw [upd_ne (ne_of_none e hx), upd_ne (ne_of_none e hdx)]
    exact e
  refine ⟨x, dx, t, d, n, us, rfl, upd_same, by rw [upd_ne hne]; exact upd_same, hne, up e1, up e2, h1, h2, h3, h4, h5, fun H3 hk hUn => ⟨rfl, q x H3 (fun b o e => ?_) hUn⟩⟩
  have eG := S0 _ _ e
  exact hk b o (ne_of_none eG hx) (ne_of_none eG hdx) (up eG)
theorem tcons_i {t : TE} {u : TA} {σ : L2.St} {H : Hp} {Q : List V → Hp → Prop} (h : t σ H fun x H1 => u σ H1 fun xs H2 => Q (x :: xs) H2) : tCons t u σ H Q := h
theorem ttup_i {t : TA} {σ : L2.St} {H : Hp} {Q : VK} (h : t σ H fun xs H1 => xs.length ≤ sizeLine ∧ ∀ p, H1 p = none → Q (.ref p) (upd H1 p (.tup xs))) : tTup t σ H Q := h
def rows4 : List URow := [("Top", ["Mid", "Base"]), ("Base", []), ("Mid", ["Base"]), ("Able", ["Top"])]
def out4 : List Str := ["Base", "Mid", "Top", "Able"]
theorem none4 : reasonL rows4 = none := by decide +kernel
theorem nd4 : (rows4.map (·.1)).Nodup := by decide +kernel
theorem short4 : KM.Short rows4 := by
  unfold KM.Short
  decide +kernel
theorem ord4 : Ord rows4 [] out4 := by
  refine .step (r := ("Base", [])) (by decide +kernel) (by decide +kernel) (by decide +kernel) ?_
  refine .step (r := ("Mid", ["Base"])) (by decide +kernel) (by decide +kernel) (by decide +kernel) ?_
  refine .step (r := ("Top", ["Mid", "Base"])) (by decide +kernel) (by decide +kernel) (by decide +kernel) ?_
  refine .step (r := ("Able", ["Top"])) (by decide +kernel) (by decide +kernel) (by decide +kernel) ?_
  have e : (((((rows4.filter fun q => decide (q.1 ≠ (("Base", []) : URow).1)).filter fun q => decide (q.1 ≠ (("Mid", ["Base"]) : URow).1)).filter fun q => decide (q.1 ≠ (("Top", ["Mid", "Base"]) : URow).1)).filter fun q => decide (q.1 ≠ (("Able", ["Top"]) : URow).1)) : List URow) = [] := by decide +kernel
  rw [e]
  exact .nil
def rows1 : List URow := [("Base", [])]
theorem none1 : reasonL rows1 = none := by decide +kernel
theorem ord1 : Ord rows1 [] ["Base"] := by
  refine .step (r := ("Base", [])) (by decide +kernel) (by decide +kernel) (by decide +kernel) ?_
  have e : ((rows1.filter fun q => decide (q.1 ≠ (("Base", []) : URow).1)) : List URow) = [] := by decide +kernel
  rw [e]
  exact .nil
def rowsA : List URow := [("Top", ["Mid", "Base"]), ("Base", [])]
def rowsB : List URow := [("Base", []), ("Base", [])]
def rowsC : List URow := [("Mid", ["Able"]), ("Able", ["Top"]), ("Top", ["Mid"])]
def wsA : List Str := ["lacks", "Top", "Mid"]
def wsB : List Str := ["twice", "Base"]
def wsC : List Str := ["ring", "Mid"]
theorem reA : reasonL rowsA = some wsA := by decide +kernel
theorem reB : reasonL rowsB = some wsB := by decide +kernel
theorem reC : reasonL rowsC = some wsC := by decide +kernel
theorem shortA : KM.Short rowsA := by unfold KM.Short; decide +kernel
theorem shortB : KM.Short rowsB := by unfold KM.Short; decide +kernel
theorem shortC : KM.Short rowsC := by unfold KM.Short; decide +kernel
theorem short1 : KM.Short rows1 := by unfold KM.Short; decide +kernel
def word (ws : List Str) : Str := ("refused " : Str) ++ (PyData.tuple (ws.map PyData.str)).shown
theorem ok3 : ∀ ws ∈ [wsA, wsB, wsC], okReason ws = true := by decide +kernel
theorem okWords : StrsOk [word wsA, word wsB, word wsC] := by unfold StrsOk; decide +kernel
theorem ok_split {ws : List Str} (h : okReason ws = true) : (PyData.tuple (ws.map PyData.str)).showable = true ∧ (PyData.tuple (ws.map PyData.str)).hasDict = false ∧ (PyData.tuple (ws.map PyData.str)).depth ≤ 40 ∧ (PyData.tuple (ws.map PyData.str)).shown.length ≤ 1000 := by
  unfold okReason at h
  simp only [Bool.and_eq_true, Bool.not_eq_true', decide_eq_true_eq] at h
  exact ⟨h.1.1.1, h.1.1.2, h.1.2, h.2⟩
theorem say {U C : Addr} {H : Hp} {Q : VK} {E : XK} {t : Addr} {us : List V} {rows : List URow} {ws : List Str} (ht : H t = some (.tup us)) (hU : UnitsAt U H us rows) (hs : KM.Short rows) (h1 : 1 ≤ rows.length) (h8 : rows.length ≤ 8) (hre : reasonL rows = some ws)
    (q : ∀ H' d p, Same H H' → H' d = some (.xd [("reason", .ref p)]) → H' p = some (.tup (ws.map V.str)) → E (.ref C) (some d) H') : spOrderO U C [.ref t] H Q E :=
  ⟨t, us, rows, rfl, ht, hU, hs, h1, h8, fun ws' hw H6 d p' S6 hd' hp' => by
    rw [hre] at hw
    cases hw
    exact q H6 d p' S6 hd' hp', fun hn => by rw [hre] at hn; cases hn⟩
/-- all but lists and tables stay -/
def KeepO (H H' : Hp) : Prop := ∀ b o, H b = some o → (∀ ps, o ≠ .tbl ps) → (∀ xs, o ≠ .lst xs) → H' b = some o
theorem KeepO.trans {H H1 H2 : Hp} (S : KeepO H H1) (T : KeepO H1 H2) : KeepO H H2 := fun b o e n m => T b o (S b o e n m) n m
theorem KeepO.ofN {H H' : Hp} (S : LamX.ExtN H H') : KeepO H H' := fun b o e n _ => S b o e n
theorem KeepO.of {H H' : Hp} (S : Same H H') : KeepO H H' := fun b o e _ _ => S b o e
theorem KeepO.lst {H : Hp} {l : Addr} {xs : List V} {o : HO} (h : H l = some (.lst xs)) : KeepO H (upd H l o) := fun b u e _ m => by
  rw [upd_ne (fun z => by rw [z, h] at e; exact m xs (Option.some.inj e).symm)]
  exact e
theorem unitAt_o {U : Addr} {H H' : Hp} {u : V} {r : URow} (h : UnitAt U H u r) (S : KeepO H H') : UnitAt U H' u r := by
  obtain ⟨a, dx, t, vs, e, hs, h1, h4, ht⟩ := h
  refine ⟨a, dx, t, vs, e, ?_, h1, h4, S _ _ ht (fun _ z => by cases z) (fun _ z => by cases z)⟩
  rcases hs with ⟨q1, q2⟩ | ⟨q1, q2⟩
  · exact .inl ⟨S _ _ q1 (fun _ z => by cases z) (fun _ z => by cases z), q2⟩
  · exact .inr ⟨S _ _ q1 (fun _ z => by unfold SlX.SlO at z; cases z) (fun _ z => by unfold SlX.SlO at z; cases z), S _ _ q2 (fun _ z => by cases z) (fun _ z => by cases z)⟩
theorem tabs_mut {T : List (Addr × Str)} {l : Addr} {H : Hp} {xs : List V} {o : HO} (h : LamX.Tabs T H) (hl : H l = some (.lst xs)) : LamX.Tabs T (upd H l o) := fun p hp => by
  obtain ⟨ps, h1, h2, h3⟩ := h p hp
  refine ⟨ps, (upd_ne (fun z => by rw [z, hl] at h1; cases h1)).trans h1, h2, fun pos cv e => ?_⟩
  obtain ⟨c1, e1, e2⟩ := h3 pos cv e
  exact ⟨c1, e1, (upd_ne (fun z => by rw [z, hl] at e2; cases e2)).trans e2⟩
/-- what the law has when its units are made -/
structure Have (U ls tl p1 p2 : Addr) (x1 x2 x3 x4 : Addr) (T : List (Addr × Str)) (H : Hp) : Prop where
  u1 : UnitAt U H (.ref x1) ("Top", ["Mid", "Base"])
  u2 : UnitAt U H (.ref x2) ("Base", [])
  u3 : UnitAt U H (.ref x3) ("Mid", ["Base"])
  u4 : UnitAt U H (.ref x4) ("Able", ["Top"])
  l : H ls = some (.lst [.ref x1, .ref x2, .ref x3, .ref x4])
  t : H tl = some (.lst [.ref p1, .ref p2])
  q1 : H p1 = some (.tup (out4.map V.str))
  q2 : H p2 = some (.tup ([("Base" : Str)].map V.str))
  tb : LamX.Tabs T H
section
variable {U ls tl p1 p2 x1 x2 x3 x4 : Addr} {T : List (Addr × Str)} {H H' : Hp}
theorem Have.same (h : Have U ls tl p1 p2 x1 x2 x3 x4 T H) (S : Same H H') : Have U ls tl p1 p2 x1 x2 x3 x4 T H' :=
  ⟨h.u1.same S, h.u2.same S, h.u3.same S, h.u4.same S, S _ _ h.l, S _ _ h.t, S _ _ h.q1, S _ _ h.q2, h.tb.ext S⟩
theorem Have.ext (h : Have U ls tl p1 p2 x1 x2 x3 x4 T H) (S : LamX.ExtN H H') (T' : LamX.Tabs T H') : Have U ls tl p1 p2 x1 x2 x3 x4 T H' :=
  ⟨unitAt_ext h.u1 S, unitAt_ext h.u2 S, unitAt_ext h.u3 S, unitAt_ext h.u4 S, S _ _ h.l (fun _ z => by cases z), S _ _ h.t (fun _ z => by cases z), S _ _ h.q1 (fun _ z => by cases z), S _ _ h.q2 (fun _ z => by cases z), T'⟩
theorem Have.mut (h : Have U ls tl p1 p2 x1 x2 x3 x4 T H) {lw : Addr} {xs : List V} {o : HO} (hw : H lw = some (.lst xs)) (n1 : ls ≠ lw) (n2 : tl ≠ lw) : Have U ls tl p1 p2 x1 x2 x3 x4 T (upd H lw o) :=
  have S := KeepO.lst (o := o) hw
  ⟨unitAt_o h.u1 S, unitAt_o h.u2 S, unitAt_o h.u3 S, unitAt_o h.u4 S, (upd_ne n1).trans h.l, (upd_ne n2).trans h.t, S _ _ h.q1 (fun _ z => by cases z) (fun _ z => by cases z), S _ _ h.q2 (fun _ z => by cases z) (fun _ z => by cases z), tabs_mut h.tb hw⟩
end
theorem rng_bound (n : Nat) : (0 : Int) ≤ (if (if ((n : Nat) : Int) < 5 then ((n : Nat) : Int) else 5) > 1 then (if ((n : Nat) : Int) < 5 then ((n : Nat) : Int) else 5) else 1) ∧ (if (if ((n : Nat) : Int) < 5 then ((n : Nat) : Int) else 5) > 1 then (if ((n : Nat) : Int) < 5 then ((n : Nat) : Int) else 5) else 1) ≤ 5 := by
  split <;> split <;> omega
theorem shaped_lst {us : List Str} (h : StrsOk us) : SeqAt.shaped (.list (us.map PyData.str)) = true := by
  unfold SeqAt.shaped
  rw [Bool.and_eq_true]
  refine ⟨lay_strs h, decide_eq_true ?_⟩
  show PyData.depthAll (us.map PyData.str) + 1 ≤ 64
  rw [depth_strs]
  omega
section
variable {P : Program} {w : World} {K : PySem.W.Frag} {mg : Str → Option Value} {base : Heap} {U C : Addr}
def spLaw (K : PySem.W.Frag) (PR PL : Addr) : Sp := fun vs H Q _ => ∃ (a : Addr) (ns : List Int), vs = [.ref a] ∧ SqL K H a (ns.map V.int) ∧ LamX.Tabs (TT2 PR PL) H ∧ ∀ H', Q (.bl true) H'
abbrev sLaw : Stmt := K86.top 88
abbrev nLaw : List Str := ["_law_script", "_law_spot", "_law_cup_here", "_law_turn", "_law_some", "_law_told", "_law_words", "_law_due", "_law_reason_here"]
theorem scLaw : FnScope nLaw ["_law_script"] (defScope sLaw) := ⟨rfl, rfl, rfl, by decide +kernel, rfl, by decide +kernel, by decide +kernel⟩
theorem law_ok {f fR cR cL PR PL : Addr} {fd fdR : FuncData} (Hd : Hand P K mg U C) (FR : FunC K mg "_law_right" sRight fR cR fdR) (F : FunC K mg "law" sLaw f cL fd) (TR : LamX.TabB base mg cR PR) (TL : LamX.TabB base mg cL PL) (hPP : PL ≠ PR) : R5.FnG P w K mg base 9 f fd ["_law_script"] (spLaw K PR PL) := by
  have GR := right_ok (P := P) (w := w) (base := base) Hd FR TR hPP
  have bR : Binds K fdR ["_law_cup_here"] [] := by
    obtain ⟨oc, od, kV, doc, pm, an, ct, osl, rfl, lk, hcd⟩ := FR.ex
    exact .all (fun us hl => match us, hl with | [_], _ => rfl)
  obtain ⟨oc, od, kV, doc, pm, an, ct, osl, rfl, lk, hcd⟩ := F.ex
  have T := Hd.t
  obtain ⟨fi, fdi, dsi, Mi, Fi, vi, bi⟩ := init_ok (P := P) (w := w) (base := base) T
  refine R5.FnG.of (k := 8) lk hcd scLaw (fun vs H Q E ⟨_, _, h, _⟩ => by rw [h]; rfl) fun A outer s H vs Q E hr hgd h => ?_
  obtain ⟨a, ns, rfl, hs, hT, q⟩ := h
  have hTu : ∀ q ∈ TT2 PR PL, q.1 = PL → q.2 = qL := fun q hq' e => by
    rcases List.mem_cons.mp hq' with z | z
    · rw [z] at e
      exact absurd e.symm hPP
    · rw [List.mem_singleton.mp z]
  refine ⟨_, PSs.nox (pss_cons (ps_for PassesOwn.never rfl (pi_range1 (by rfl) T.range (pa_cons (pe_callB (call_max2 rfl) (by rfl) T.max (by decide +kernel) (pa_cons pe_int (pa_cons (pe_callB (call_min2 rfl) (by rfl) T.min (by decide +kernel) (pa_cons pe_int (pa_cons (pe_callB call_len_seq (by rfl) T.len PySem.boot_len (pa_cons (pv 0) pa_nil)) pa_nil))) pa_nil))) pa_nil)) (pg_name (i := 1) scLaw.nd rfl (Or.inl rfl))
      (pss_cons (ps_set (i := 2) scLaw.nd rfl (Or.inl rfl) (pe_c (cal_cup T) hr (by decide) (by rfl) (pa_cons (pv 0) (pa_cons (pv 1) pa_nil))))
      (pss_one (ps_for PassesOwn.never rfl (pi_range1 (by rfl) T.range (pa_cons pe_int pa_nil)) (pg_name (i := 3) scLaw.nd rfl (Or.inl rfl))
        (pss_one (ps_if (pt_not (pt_val (R5.pe_callG (E := E0) GR hr hgd (by rfl) FR.m FR.kp bR (pa_cons (pv 2) pa_nil)))) (pss_one (ps_ret pe_bl)) pss_nil))))))
    (pss_cons (ps_set (i := 4) scLaw.nd rfl (Or.inr rfl) (pe_lst (pa_cons
        (pe_make Mi Fi (hr.mono (by decide)) (by rfl) T.mU bi vi pass0 (pa_cons pe_str (pa_cons (pe_tup (pa_cons pe_str (pa_cons pe_str pa_nil))) (pa_cons (pe_tup pa_nil) pa_nil)))) (pa_cons
        (pe_make Mi Fi (hr.mono (by decide)) (by rfl) T.mU bi vi pass0 (pa_cons pe_str (pa_cons (pe_tup pa_nil) (pa_cons (pe_tup pa_nil) pa_nil)))) (pa_cons
        (pe_make Mi Fi (hr.mono (by decide)) (by rfl) T.mU bi vi pass0 (pa_cons pe_str (pa_cons (pe_tup (pa_cons pe_str pa_nil)) (pa_cons (pe_tup pa_nil) pa_nil)))) (pa_cons
        (pe_make Mi Fi (hr.mono (by decide)) (by rfl) T.mU bi vi pass0 (pa_cons pe_str (pa_cons (pe_tup (pa_cons pe_str pa_nil)) (pa_cons (pe_tup pa_nil) pa_nil)))) pa_nil))))))
    (pss_cons (ps_set (i := 5) scLaw.nd rfl (Or.inl rfl) (pe_lst (pa_cons (pe_cX (cal_orderO T Hd.r) hr (by decide) (by rfl) passL (pa_cons (pe_callTy call_tuple_of (by rfl) T.tuple (by decide +kernel) (pa_cons (pv 4) pa_nil)) pa_nil))
        (pa_cons (pe_cX (cal_orderO T Hd.r) hr (by decide) (by rfl) passL (pa_cons (pe_tup (pa_cons (pe_ix ix_list (pv 4) pe_int (fun _ _ => rfl)) pa_nil)) pa_nil)) pa_nil))))
    (pss_cons (ps_set (i := 6) scLaw.nd rfl (Or.inl rfl) (pe_lst (pa_cons (lam_met (T := TT2 PR PL) (Pt := PL) Hd hgd (hr.mono (by decide)) TL rfl (List.mem_cons_of_mem _ List.mem_cons_self) (fun q h e => (hTu q h e).trans (by rfl)) (by rfl) (LamX.lamS_by (sc := defScope sLaw) (by decide +kernel)) rfl (fun _ _ _ _ _ => rfl)
        (fun A outer s H E f c' hr' => pe_cX (cal_orderO T Hd.r) hr' (by decide) (by rfl) (passes_call (takes_of rfl rfl rfl rfl) fun _ _ _ _ h => h) (pa_cons (pe_tup (pa_cons (pe_ix (r := rIxL K) ix_list (pv 4) pe_int (fun _ _ => rfl)) (pa_cons (pe_ix (r := rIxL K) ix_list (pv 4) pe_int (fun _ _ => rfl)) pa_nil))) pa_nil))) pa_nil)))
    (pss_cons (ps_expr (pe_bm PySem.F.plainAttrs_list PySem.F.slot_list_append PySem.F.type_list_append mt_append (pv 6) (pa_cons (lam_met (T := TT2 PR PL) (Pt := PL) Hd hgd (hr.mono (by decide)) TL rfl (List.mem_cons_of_mem _ List.mem_cons_self) (fun q h e => (hTu q h e).trans (by rfl)) (by rfl) (LamX.lamS_by (sc := defScope sLaw) (by decide +kernel)) rfl (fun _ _ _ _ _ => rfl)
        (fun A outer s H E f c' hr' => pe_cX (cal_orderO T Hd.r) hr' (by decide) (by rfl) (passes_call (takes_of rfl rfl rfl rfl) fun _ _ _ _ h => h) (pa_cons (pe_tup (pa_cons (pe_ix (r := rIxL K) ix_list (pv 4) pe_int (fun _ _ => rfl)) (pa_cons (pe_ix (r := rIxL K) ix_list (pv 4) pe_int (fun _ _ => rfl)) pa_nil))) pa_nil))) pa_nil)))
    (pss_cons (ps_expr (pe_bm PySem.F.plainAttrs_list PySem.F.slot_list_append PySem.F.type_list_append mt_append (pv 6) (pa_cons (lam_met (T := TT2 PR PL) (Pt := PL) Hd hgd (hr.mono (by decide)) TL rfl (List.mem_cons_of_mem _ List.mem_cons_self) (fun q h e => (hTu q h e).trans (by rfl)) (by rfl) (LamX.lamS_by (sc := defScope sLaw) (by decide +kernel)) rfl (fun _ _ _ _ _ => rfl)
        (fun A outer s H E f c' hr' => pe_cX (cal_orderO T Hd.r) hr' (by decide) (by rfl) (passes_call (takes_of rfl rfl rfl rfl) fun _ _ _ _ h => h) (pa_cons (pe_tup (pa_cons
            (pe_make Mi Fi hr' (by rfl) T.mU bi vi pass0 (pa_cons pe_str (pa_cons (pe_tup (pa_cons pe_str pa_nil)) (pa_cons (pe_tup pa_nil) pa_nil)))) (pa_cons
            (pe_ix (r := rIxL K) ix_list (pv 4) pe_int (fun _ _ => rfl)) (pa_cons
            (pe_make Mi Fi hr' (by rfl) T.mU bi vi pass0 (pa_cons pe_str (pa_cons (pe_tup (pa_cons pe_str pa_nil)) (pa_cons (pe_tup pa_nil) pa_nil)))) pa_nil)))) pa_nil))) pa_nil)))
    (pss_cons (ps_set (i := 7) scLaw.nd rfl (Or.inl rfl) (pe_lst (pa_cons (pe_tup (pa_cons pe_str (pa_cons pe_str (pa_cons pe_str pa_nil)))) (pa_cons (pe_tup (pa_cons pe_str (pa_cons pe_str pa_nil))) (pa_cons (pe_tup (pa_cons pe_str (pa_cons pe_str pa_nil))) pa_nil)))))
    (pss_one (ps_ret (pe_and (pe_cmpR (op_eqD hr.units) (pv 5) (pe_lst (pa_cons (pe_tup (pa_cons pe_str (pa_cons pe_str (pa_cons pe_str (pa_cons pe_str pa_nil))))) (pa_cons (pe_tup (pa_cons pe_str pa_nil)) pa_nil))) (nomark _))
      (pe_one (pe_cmpR (op_eqD hr.units) (pv 6) (pe_lc (own := [("_law_reason_here", 8)]) (g := gName 8) (tt := tYes) rfl scLaw.nd (pi_list (pv 7)) (blkOk_by (N := nLaw) (sc := defScope sLaw) (by decide +kernel))
          (fun _ _ _ _ _ => pg_name (i := 8) scLaw.nd rfl (Or.inl rfl)) (fun _ _ _ _ _ => pts_nil)
          (fun _ _ _ _ _ => pe_op op_add_str pe_str (pe_callB (r := R5.rRepr K) (R5.cr_repr hgd hr.units) (by rfl) T.repr (by decide +kernel) (pa_cons (pv 8) pa_nil)))) (nomark _))))))))))))), ?_⟩
  refine ⟨_, rfl, a, _, rfl, .inl hs, _, _, rfl, _, _, rfl, _, rfl, Int.le_trans (by decide) (rng_bound (ns.map V.int).length).1, Int.lt_of_le_of_lt (rng_bound (ns.map V.int).length).2 (by decide), ?_⟩
  have hb := rng_bound (ns.map V.int).length
  generalize (if (if (((ns.map V.int).length : Nat) : Int) < 5 then (((ns.map V.int).length : Nat) : Int) else 5) > 1 then (if (((ns.map V.int).length : Nat) : Int) < 5 then (((ns.map V.int).length : Nat) : Int) else 5) else 1) = jj at hb
  refine for_it (walk_range (lo := 0) (n := jj.toNat)) (fun i σ H' => (∃ o1 o2 o3, σ = [some (.ref a), o1, o2, o3, none, none, none, none, none]) ∧ SqL K H' a (ns.map V.int) ∧ LamX.Tabs (TT2 PR PL) H') ⟨⟨_, _, _, rfl⟩, hs, hT⟩ (fun _ _ _ _ _ => trivial) (fun i x σ H1 H1' hi p y => ?_) fun σ H1 p => ?_
  · obtain ⟨⟨o1, o2, o3, rfl⟩, hs1, hT1⟩ := p
    obtain ⟨rfl, rfl⟩ := y
    refine ⟨_, rfl, _, rfl, a, ns, i, (by show [V.ref a, V.int (0 + ((i : Nat) : Int))] = _; rw [Int.zero_add]), hs1, by omega, fun H2 c S2 hc0 hc2 => ?_⟩
    have hS2 := scr_of hs1 S2 hc0
    have hT2 := hT1.ext S2
    refine ⟨_, rfl, by decide, by decide, for_it (walk_range (lo := 0) (n := 3)) (fun i σ H' => (∃ o1 o3, σ = [some (.ref a), o1, some (.ref c), o3, none, none, none, none, none]) ∧ Scr K a (ns.map V.int) H' c ∧ Cup H' c ∧ LamX.Tabs (TT2 PR PL) H') ⟨⟨_, _, rfl⟩, hS2, hc2, hT2⟩ (fun _ _ _ _ _ => trivial) (fun j x σ H3 H3' hj p y => ?_) fun σ H3 p => ?_⟩
    · obtain ⟨⟨o1, o3, rfl⟩, hS3, hc3, hT3⟩ := p
      obtain ⟨rfl, rfl⟩ := y
      refine ⟨_, rfl, c, rfl, hc3, hT3, fun H4 K4 hc4 hT4 => ⟨_, rfl, iteF ⟨⟨_, _, rfl⟩, hS3.keep K4, hc4, hT4⟩⟩⟩
    · obtain ⟨⟨o1, o3, rfl⟩, hS3, hc3, hT3⟩ := p
      exact ⟨⟨_, _, _, rfl⟩, hS3.sq, hT3⟩
  · obtain ⟨⟨o1, o2, o3, rfl⟩, hs1, hT1⟩ := p
    dsimp only
    unfold tSeq
    dsimp only
    unfold tAsg tLst
    dsimp only
    show tCons (tMake U (spInit U) [V.non] _ _) _ _ _ _
    show tMake U (spInit U) [V.non] _ _ _ _ _
    refine make_u (n := "Top") (us := ["Mid", "Base"]) (ta := tCons (tC (.str "Mid")) (tCons (tC (.str "Base")) tNil)) (fun σ H Q h => h) (by decide +kernel) (by decide) (by decide +kernel) (by decide +kernel) (by decide +kernel) (fun x1 H2 S2 u1 => ?_)
    show tCons (tMake U (spInit U) [V.non] _ _) _ _ _ _
    show tMake U (spInit U) [V.non] _ _ _ _ _
    refine make_u (n := "Base") (us := []) (ta := tNil) (fun σ H Q h => h) (by decide +kernel) (by decide) (by decide +kernel) (by decide +kernel) (by decide +kernel) (fun x2 H3 S3 u2 => ?_)
    show tCons (tMake U (spInit U) [V.non] _ _) _ _ _ _
    show tMake U (spInit U) [V.non] _ _ _ _ _
    refine make_u (n := "Mid") (us := ["Base"]) (ta := tCons (tC (.str "Base")) tNil) (fun σ H Q h => h) (by decide +kernel) (by decide) (by decide +kernel) (by decide +kernel) (by decide +kernel) (fun x3 H4 S4 u3 => ?_)
    show tCons (tMake U (spInit U) [V.non] _ _) _ _ _ _
    show tMake U (spInit U) [V.non] _ _ _ _ _
    refine make_u (n := "Able") (us := ["Top"]) (ta := tCons (tC (.str "Top")) tNil) (fun σ H Q h => h) (by decide +kernel) (by decide) (by decide +kernel) (by decide +kernel) (by decide +kernel) (fun x4 H5 S5 u4 => ?_)
    refine ⟨show 4 ≤ sizeLine by decide, fun ls hls => ?_⟩
    have S6 : Same H5 (upd H5 ls (.lst [.ref x1, .ref x2, .ref x3, .ref x4])) := same_upd hls
    have v1 := (((u1.same S3).same S4).same S5).same S6
    have v2 := ((u2.same S4).same S5).same S6
    have v3 := (u3.same S5).same S6
    have v4 := u4.same S6
    have hl6 : upd H5 ls (.lst [.ref x1, .ref x2, .ref x3, .ref x4]) ls = _ := upd_same
    have hT6 := ((((hT1.ext S2).ext S3).ext S4).ext S5).ext S6
    generalize upd H5 ls (.lst [.ref x1, .ref x2, .ref x3, .ref x4]) = H6 at v1 v2 v3 v4 hl6 hT6
    clear S2 S3 S4 S5 S6 u1 u2 u3 u4 hls hT1 hs1 hT
    refine ⟨_, rfl, ls, _, rfl, .inl ⟨SqL.of hl6, fun t1 ht1 => ?_⟩⟩
    have S7 : Same H6 (upd H6 t1 (.tup [.ref x1, .ref x2, .ref x3, .ref x4])) := same_upd ht1
    refine ⟨t1, [.ref x1, .ref x2, .ref x3, .ref x4], rows4, rfl, upd_same, .cons (v1.same S7) (.cons (v2.same S7) (.cons (v3.same S7) (.cons (v4.same S7) .nil))), short4, by decide, by decide, (fun ws hw => by rw [none4] at hw; cases hw), fun _ => ⟨out4, nd4, ord4, fun H8 p1 S8 hp1 => ?_⟩⟩
    have S68 := S7.trans S8
    refine ⟨_, rfl, ls, _, 1, .ref x2, rfl, rfl, SqL.of (S68 _ _ hl6), rfl, show 1 ≤ sizeLine by decide, fun t2 ht2 => ?_⟩
    have S9 : Same H8 (upd H8 t2 (.tup [.ref x2])) := same_upd ht2
    refine ⟨t2, [.ref x2], rows1, rfl, upd_same, .cons ((v2.same S68).same S9) .nil, short1, by decide, by decide, (fun ws hw => by rw [none1] at hw; cases hw), fun _ => ⟨["Base"], by decide, ord1, fun H10 p2 S10 hp2 => ⟨show 2 ≤ sizeLine by decide, fun tl htl => ?_⟩⟩⟩
    have S11 : Same H10 (upd H10 tl (.lst [.ref p1, .ref p2])) := same_upd htl
    have S610 := (S68.trans S9).trans S10
    have h0 : Have U ls tl p1 p2 x1 x2 x3 x4 (TT2 PR PL) (upd H10 tl (.lst [.ref p1, .ref p2])) :=
      ⟨(v1.same S610).same S11, (v2.same S610).same S11, (v3.same S610).same S11, (v4.same S610).same S11, S11 _ _ (S610 _ _ hl6), upd_same, S11 _ _ (S10 _ _ (S9 _ _ hp1)), S11 _ _ hp2, (hT6.ext S610).ext S11⟩
    generalize upd H10 tl (.lst [.ref p1, .ref p2]) = G0 at h0
    clear S11 S610 S10 S9 S68 S8 S7 v1 v2 v3 v4 hl6 hT6 ht1 ht2 htl hp1 hp2
    refine ⟨h0.tb, fun G1 eN1 T1 => ?_⟩
    have h1 := h0.ext eN1 T1
    refine ⟨_, rfl, ls, _, 0, .ref x1, rfl, rfl, SqL.of h1.l, rfl, _, rfl, ls, _, 1, .ref x2, rfl, rfl, SqL.of h1.l, rfl, show 2 ≤ sizeLine by decide, fun t3 ht3 => ?_⟩
    have h2 := h1.same (same_upd (o := .tup [.ref x1, .ref x2]) ht3)
    obtain ⟨a1, a2, a3, a4⟩ := ok_split (ok3 wsA (by decide))
    obtain ⟨b1, b2, b3, b4⟩ := ok_split (ok3 wsB (by decide))
    obtain ⟨c1, c2, c3, c4⟩ := ok_split (ok3 wsC (by decide))
    refine ⟨t3, [.ref x1, .ref x2], rowsA, rfl, upd_same, .cons h2.u1 (.cons h2.u2 .nil), shortA, by decide, by decide, fun ws' hw G2 d p S2 hd hp => ?_, (fun hn => by rw [reA] at hn; cases hn)⟩
    obtain rfl : wsA = ws' := Option.some.inj (reA.symm.trans hw)
    refine ⟨rfl, d, p, .tuple (wsA.map PyData.str), rfl, hd, dp_tup hp, a1, a2, a3, a4, ?_⟩
    have h3 := h2.same S2
    refine ⟨show 1 ≤ sizeLine by decide, fun lw hlw => ?_⟩
    have h4 := h3.same (same_upd (o := .lst [.str (("refused " : Str) ++ (PyData.tuple (wsA.map PyData.str)).shown)]) hlw)
    have w4 : upd G2 lw (.lst [.str (("refused " : Str) ++ (PyData.tuple (wsA.map PyData.str)).shown)]) lw = _ := upd_same
    have n1 : ls ≠ lw := ne_of_none h3.l hlw
    have n2 : tl ≠ lw := ne_of_none h3.t hlw
    generalize upd G2 lw (.lst [.str (("refused " : Str) ++ (PyData.tuple (wsA.map PyData.str)).shown)]) = G3 at *
    clear h0 h1 h2 h3 eN1 T1 S2 ht3 hlw hd hp
    refine ⟨_, rfl, .inl ⟨rfl, _, SqL.of w4⟩, h4.tb, fun G4 eN2 T2 => ?_⟩
    have h5 := h4.ext eN2 T2
    have w5 := eN2 _ _ w4 (fun _ z => by cases z)
    refine ⟨_, rfl, ls, _, 1, .ref x2, rfl, rfl, SqL.of h5.l, rfl, _, rfl, ls, _, 1, .ref x2, rfl, rfl, SqL.of h5.l, rfl, show 2 ≤ sizeLine by decide, fun t4 ht4 => ?_⟩
    have h6 := h5.same (same_upd (o := .tup [.ref x2, .ref x2]) ht4)
    have w6 := upd_keep (v := .tup [.ref x2, .ref x2]) w5 ht4
    refine ⟨t4, [.ref x2, .ref x2], rowsB, rfl, upd_same, .cons h6.u2 (.cons h6.u2 .nil), shortB, by decide, by decide, fun ws' hw G5 d p S5 hd hp => ?_, (fun hn => by rw [reB] at hn; cases hn)⟩
    obtain rfl : wsB = ws' := Option.some.inj (reB.symm.trans hw)
    refine ⟨rfl, d, p, .tuple (wsB.map PyData.str), rfl, hd, dp_tup hp, b1, b2, b3, b4, ?_⟩
    have h7 := h6.same S5
    have w7 := S5 _ _ w6
    refine ⟨lw, _, _, rfl, rfl, w7, show 1 < sizeLine by decide, ?_⟩
    have h8 := h7.mut (o := .lst ([.str (("refused " : Str) ++ (PyData.tuple (wsA.map PyData.str)).shown)] ++ [.str (("refused " : Str) ++ (PyData.tuple (wsB.map PyData.str)).shown)])) w7 n1 n2
    have w8 : upd G5 lw (.lst ([.str (("refused " : Str) ++ (PyData.tuple (wsA.map PyData.str)).shown)] ++ [.str (("refused " : Str) ++ (PyData.tuple (wsB.map PyData.str)).shown)])) lw = some (.lst [.str (("refused " : Str) ++ (PyData.tuple (wsA.map PyData.str)).shown), .str (("refused " : Str) ++ (PyData.tuple (wsB.map PyData.str)).shown)]) := upd_same
    generalize upd G5 lw (.lst ([.str (("refused " : Str) ++ (PyData.tuple (wsA.map PyData.str)).shown)] ++ [.str (("refused " : Str) ++ (PyData.tuple (wsB.map PyData.str)).shown)])) = G6 at h8 w8
    clear h4 h5 h6 h7 w4 w5 w6 w7 eN2 T2 S5 ht4 hd hp
    refine ⟨_, rfl, .inl ⟨rfl, _, SqL.of w8⟩, h8.tb, fun G7 eN3 T3 => ?_⟩
    have h9 := h8.ext eN3 T3
    have w9 := eN3 _ _ w8 (fun _ z => by cases z)
    unfold R6.TTmet tCall
    dsimp only
    show tCons (tTup (tCons (tMake U (spInit U) [V.non] _ _) _)) _ _ _ _
    refine tcons_i (ttup_i (tcons_i ?_))
    refine make_u (n := "Mid") (us := ["Able"]) (ta := tCons (tC (.str "Able")) tNil) (fun σ H Q h => h) (by decide +kernel) (by decide) (by decide +kernel) (by decide +kernel) (by decide +kernel) (fun y1 G8 S8 m1 => ?_)
    have h10 := h9.same S8
    have w10 := S8 _ _ w9
    refine ⟨_, rfl, ls, _, 3, .ref x4, rfl, rfl, SqL.of h10.l, rfl, ?_⟩
    show tCons (tMake U (spInit U) [V.non] _ _) _ _ _ _
    refine tcons_i ?_
    refine make_u (n := "Top") (us := ["Mid"]) (ta := tCons (tC (.str "Mid")) tNil) (fun σ H Q h => h) (by decide +kernel) (by decide) (by decide +kernel) (by decide +kernel) (by decide +kernel) (fun y2 G9 S9 m2 => ?_)
    have h11 := h10.same S9
    have w11 := S9 _ _ w10
    have m1' := m1.same S9
    refine ⟨show 3 ≤ sizeLine by decide, fun t5 ht5 => ?_⟩
    have S10 : Same G9 (upd G9 t5 (.tup [.ref y1, .ref x4, .ref y2])) := same_upd ht5
    have h12 := h11.same S10
    have w12 := S10 _ _ w11
    refine ⟨t5, [.ref y1, .ref x4, .ref y2], rowsC, rfl, upd_same, .cons (m1'.same S10) (.cons h12.u4 (.cons (m2.same S10) .nil)), shortC, by decide, by decide, fun ws' hw G10 d p S11 hd hp => ?_, (fun hn => by rw [reC] at hn; cases hn)⟩
    obtain rfl : wsC = ws' := Option.some.inj (reC.symm.trans hw)
    refine ⟨rfl, d, p, .tuple (wsC.map PyData.str), rfl, hd, dp_tup hp, c1, c2, c3, c4, ?_⟩
    have h13 := h12.same S11
    have w13 := S11 _ _ w12
    refine ⟨lw, _, _, rfl, rfl, w13, show 2 < sizeLine by decide, ?_⟩
    have h14 := h13.mut (o := .lst ([.str (("refused " : Str) ++ (PyData.tuple (wsA.map PyData.str)).shown), .str (("refused " : Str) ++ (PyData.tuple (wsB.map PyData.str)).shown)] ++ [.str (("refused " : Str) ++ (PyData.tuple (wsC.map PyData.str)).shown)])) w13 n1 n2
    have w14 : upd G10 lw (.lst ([.str (("refused " : Str) ++ (PyData.tuple (wsA.map PyData.str)).shown), .str (("refused " : Str) ++ (PyData.tuple (wsB.map PyData.str)).shown)] ++ [.str (("refused " : Str) ++ (PyData.tuple (wsC.map PyData.str)).shown)])) lw = some (.lst ([word wsA, word wsB, word wsC].map V.str)) := upd_same
    generalize upd G10 lw (.lst ([.str (("refused " : Str) ++ (PyData.tuple (wsA.map PyData.str)).shown), .str (("refused " : Str) ++ (PyData.tuple (wsB.map PyData.str)).shown)] ++ [.str (("refused " : Str) ++ (PyData.tuple (wsC.map PyData.str)).shown)])) = I0 at h14 w14
    clear h8 h9 h10 h11 h12 h13 w8 w9 w10 w11 w12 w13 eN3 T3 S8 S9 S10 S11 ht5 hd hp m1 m2 m1'
    refine ⟨show 3 ≤ sizeLine by decide, fun d1 hd1 => ⟨show 2 ≤ sizeLine by decide, fun d2 hd2 => ⟨show 2 ≤ sizeLine by decide, fun d3 hd3 => ⟨show 3 ≤ sizeLine by decide, fun ld hld => ?_⟩⟩⟩⟩
    have k1 : Same I0 (upd I0 d1 (.tup (wsA.map V.str))) := same_upd hd1
    have k2 : Same I0 (upd (upd I0 d1 (.tup (wsA.map V.str))) d2 (.tup (wsB.map V.str))) := k1.trans (same_upd hd2)
    have k3 : Same I0 (upd (upd (upd I0 d1 (.tup (wsA.map V.str))) d2 (.tup (wsB.map V.str))) d3 (.tup (wsC.map V.str))) := k2.trans (same_upd hd3)
    have k4 : Same I0 (upd (upd (upd (upd I0 d1 (.tup (wsA.map V.str))) d2 (.tup (wsB.map V.str))) d3 (.tup (wsC.map V.str))) ld (.lst [.ref d1, .ref d2, .ref d3])) := k3.trans (same_upd hld)
    have f1 := upd_keep (v := .lst [.ref d1, .ref d2, .ref d3]) (upd_keep (v := .tup (wsC.map V.str)) (upd_keep (v := .tup (wsB.map V.str)) (show upd I0 d1 (.tup (wsA.map V.str)) d1 = _ from upd_same) hd2) hd3) hld
    have f2 := upd_keep (v := .lst [.ref d1, .ref d2, .ref d3]) (upd_keep (v := .tup (wsC.map V.str)) (show upd (upd I0 d1 (.tup (wsA.map V.str))) d2 (.tup (wsB.map V.str)) d2 = _ from upd_same) hd3) hld
    have f3 := upd_keep (v := .lst [.ref d1, .ref d2, .ref d3]) (show upd (upd (upd I0 d1 (.tup (wsA.map V.str))) d2 (.tup (wsB.map V.str))) d3 (.tup (wsC.map V.str)) d3 = _ from upd_same) hld
    have f4 : upd (upd (upd (upd I0 d1 (.tup (wsA.map V.str))) d2 (.tup (wsB.map V.str))) d3 (.tup (wsC.map V.str))) ld (.lst [.ref d1, .ref d2, .ref d3]) ld = _ := upd_same
    have h15 := h14.same k4
    have w15 := k4 _ _ w14
    refine ⟨_, rfl, show 4 ≤ sizeLine by decide, fun e1 he1 => ⟨show 1 ≤ sizeLine by decide, fun e2 he2 => ⟨show 2 ≤ sizeLine by decide, fun el hel => ?_⟩⟩⟩
    have g1 := upd_keep (v := .lst [.ref e1, .ref e2]) (upd_keep (v := .tup ([("Base" : Str)].map V.str)) (show upd _ e1 (.tup (out4.map V.str)) e1 = _ from upd_same) he2) hel
    have g2 := upd_keep (v := .lst [.ref e1, .ref e2]) (show upd _ e2 (.tup ([("Base" : Str)].map V.str)) e2 = _ from upd_same) hel
    have kk := ((same_upd (o := .tup (out4.map V.str)) he1).trans (same_upd (o := .tup ([("Base" : Str)].map V.str)) he2)).trans (same_upd (o := .lst [.ref e1, .ref e2]) hel)
    have h16 := h15.same kk
    have w16 := kk _ _ w15
    have F1 := kk _ _ f1
    have F2 := kk _ _ f2
    have F3 := kk _ _ f3
    have F4 := kk _ _ f4
    refine ⟨.list [.tuple (out4.map PyData.str), .tuple ([("Base" : Str)].map PyData.str)], .list [.tuple (out4.map PyData.str), .tuple ([("Base" : Str)].map PyData.str)], .lst (SqL.of h16.t) (.cons (dp_tup h16.q1) (.cons (dp_tup h16.q2) .nil)), .lst (SqL.of upd_same) (.cons (dp_tup g1) (.cons (dp_tup g2) .nil)), by decide +kernel, by decide +kernel, _, rfl, ?_⟩
    rw [show PyData.eqv (.list [.tuple (out4.map PyData.str), .tuple ([("Base" : Str)].map PyData.str)]) (.list [.tuple (out4.map PyData.str), .tuple ([("Base" : Str)].map PyData.str)]) = true from by decide +kernel]
    refine iteT ⟨_, rfl, _, rfl, ld, rfl, ⟨_, SqL.of F4⟩, fun D hD => lc_list (K := K) (xs := ([(.ref d1, wsA), (.ref d2, wsB), (.ref d3, wsC)] : List (V × List Str)).map Prod.fst) (PvF _ D (fm ([(.ref d1, wsA), (.ref d2, wsB), (.ref d3, wsC)] : List (V × List Str)) (fun _ => true) fun p => .str (word p.2))) (PvF.zero hD rfl) (fun j H6 _ p => SqL.of (p.2 _ _ F4)) (fun j x H6 hx p6 => ?_) (fun H6 p6 => ?_)⟩
    · obtain ⟨pr, hpr, rfl⟩ := Option.map_eq_some_iff.mp ((List.getElem?_map (f := Prod.fst) (l := ([(.ref d1, wsA), (.ref d2, wsB), (.ref d3, wsC)] : List (V × List Str))) (i := j)).symm.trans hx)
      have hm := List.mem_of_getElem? hpr
      have hp : ∃ t, pr.1 = .ref t ∧ H6 t = some (.tup (pr.2.map V.str)) ∧ okReason pr.2 = true := by
        rcases List.mem_cons.mp hm with z | z
        · rw [z]; exact ⟨d1, rfl, p6.2 _ _ F1, ok3 wsA (by decide)⟩
        · rcases List.mem_cons.mp z with z | z
          · rw [z]; exact ⟨d2, rfl, p6.2 _ _ F2, ok3 wsB (by decide)⟩
          · rw [List.mem_singleton.mp z]; exact ⟨d3, rfl, p6.2 _ _ F3, ok3 wsC (by decide)⟩
      obtain ⟨t, et, htt, hok⟩ := hp
      obtain ⟨r1, r2, r3, r4⟩ := ok_split hok
      refine ⟨rfl, tYes_go ⟨_, rfl, t, .tuple (pr.2.map PyData.str), by rw [et], dp_tup htt, r1, r2, r3, Nat.le_trans r4 (by decide), _, _, rfl, rfl, Nat.le_trans (Nat.add_le_add_left r4 _) (by decide), _, p6.1, ?_, p6.keep hD (Same.refl _) (fm_yes hpr rfl)⟩⟩
      exact Nat.lt_of_le_of_lt fm_len (show 3 < sizeLine by decide)
    · have q6 := p6.1
      rw [fm_all (l := ([(.ref d1, wsA), (.ref d2, wsB), (.ref d3, wsC)] : List (V × List Str))) (by rw [List.length_map]; exact Nat.le_refl _), filt_true] at q6
      refine ⟨.list ([word wsA, word wsB, word wsC].map PyData.str), .list ([word wsA, word wsB, word wsC].map PyData.str), .lst (SqL.of (p6.2 _ _ w16)) (dp_strs _), .lst (xs := [word wsA, word wsB, word wsC].map V.str) (SqL.of q6) (dp_strs _), shaped_lst okWords, shaped_lst okWords, ?_⟩
      rw [show PyData.eqv (.list ([word wsA, word wsB, word wsC].map PyData.str)) (.list ([word wsA, word wsB, word wsC].map PyData.str)) = true from by
        show PyData.eqvAll _ _ = true
        rw [eqv_strs]
        exact decide_eq_true rfl]
      exact q _
end
end R25

namespace R26
open PySem PySem.Spec PyProof.Rows L2 R24 R25
/-- the end of the walk: the law is called where nothing is being shown; two tables of code objects -/
def track (K : PySem.W.Frag) (P1 P2 a : Addr) (o : Obj) (u : HO) : Hp := fun b => if b = P1 ∨ b = P2 then some (.tbl #[]) else if b = a ∧ K.lookup a = none then some (.frz o u) else none
section
variable {P : Program} {w : World} {K : PySem.W.Frag} {mg mb : Str → Option Value} {fa a c1 P1 c2 P2 : Addr} {fd : FuncData} {x : Str} {sp : Sp} {s₁ : Shared} {vs : List Value} {ns : List Int} {k : Nat}
theorem track_none {o : Obj} {u : HO} {b : Addr} (h1 : b ≠ P1) (h2 : b ≠ P2) (h3 : b = a → K.lookup a ≠ none) : track K P1 P2 a o u b = none := by
  unfold track
  rw [if_neg (fun z => z.elim h1 h2), if_neg (fun z => h3 z.1 z.2)]
theorem track_tab {o : Obj} {u : HO} {b : Addr} (h : b = P1 ∨ b = P2) : track K P1 P2 a o u b = some (.tbl #[]) := if_pos h
theorem track_cases {o : Obj} {u v : HO} {b : Addr} (h : track K P1 P2 a o u b = some v) : (b = P1 ∨ b = P2) ∧ v = .tbl #[] ∨ b = a ∧ K.lookup a = none ∧ v = .frz o u := by
  unfold track at h
  by_cases h1 : b = P1 ∨ b = P2
  · rw [if_pos h1] at h
    exact .inl ⟨h1, (Option.some.inj h).symm⟩
  · rw [if_neg h1] at h
    by_cases h2 : b = a ∧ K.lookup a = none
    · rw [if_pos h2] at h
      exact .inr ⟨h2.1, h2.2, (Option.some.inj h).symm⟩
    · rw [if_neg h2] at h
      cases h
theorem tab_base {H : Hp} {h : Heap} {c Pt : Addr} (free : ∀ {b : Addr} {o : Obj}, h.get? b = some o → o.data ≠ .fields #[] → (∀ q n, o.data ≠ .seq q n) → (hidT h H).get? b = some o) (hT : h.get? Pt = some { cls := .none, data := .fields #[] }) (hns : h.Ns mainGlobals mg) (C : PySem.W.CodeHd h c Pt)
    (hbm : ∃ (bm : Addr) (ob : Obj), mg "__builtins__" = some (.ref bm) ∧ bm ≠ builtinsNs ∧ h.get? bm = some ob ∧ ob.cls = .type "module" ∧ ob.dict = some builtinsNs ∧ ob.data = .plain) : LamX.TabB (hidT h H) mg c Pt := by
  obtain ⟨om, es, ep, eG, dG, _⟩ := hns
  obtain ⟨o, us, file, tf, flags, tg, inF, text, tt, e1, r1, r2, r3, rest⟩ := C
  obtain ⟨bm, ob, b1, b2, b3, b4, b5, b6⟩ := hbm
  constructor
  · refine ⟨o, us, file, tf, flags, tg, inF, text, tt, free e1 (fun z => ?_) (fun q n z => ?_), r1, r2, r3, rest⟩
    · have := r2.symm.trans z
      cases this
      simp at r3
    · have := r2.symm.trans z
      cases this
  · refine ⟨bm, ob, b1, b2, fun z => ?_, fun z => ?_, free b3 (fun z => ?_) (fun q n z => ?_), b4, b5, b6⟩
    · have := Option.some.inj (b3.symm.trans (z ▸ eG))
      rw [this, dG] at b6
      cases b6
    · have := Option.some.inj (b3.symm.trans (z ▸ hT))
      rw [this] at b6
      cases b6
    · have := b6.symm.trans z
      cases this
    · have := b6.symm.trans z
      cases this
  · intro z
    have := Option.some.inj (eG.symm.trans (z ▸ hT))
    rw [this] at dG
    cases dG
theorem end_run (KX : K.In s₁.heap) (hns : s₁.heap.Ns mainGlobals mg) (hb : s₁.heap.Ns builtinsNs mb) (hbb : ∀ x : Str, x ≠ "__name__" → mb x = bootBuiltins x) (hlim : s₁.heap.NoLimit) (hg : s₁.gens = #[])
    (t1 : s₁.heap.get? P1 = some { cls := .none, data := .fields #[] }) (t2 : s₁.heap.get? P2 = some { cls := .none, data := .fields #[] }) (n1 : K.lookup P1 = none) (n2 : K.lookup P2 = none) (C1 : PySem.W.CodeHd s₁.heap c1 P1) (C2 : PySem.W.CodeHd s₁.heap c2 P2)
    (hbm : ∃ (bm : Addr) (ob : Obj), mg "__builtins__" = some (.ref bm) ∧ bm ≠ builtinsNs ∧ s₁.heap.get? bm = some ob ∧ ob.cls = .type "module" ∧ ob.dict = some builtinsNs ∧ ob.data = .plain)
    (ha : s₁.heap.get? a = some { cls := .type "list", data := .seq vs.toArray }) (hi : IntsAre vs ns) (hl : ns.length ≤ sizeLine) (hr : Room k callerA)
    (F : ∀ base : Heap, K.In base → base.Ns mainGlobals mg → LamX.TabB base mg c1 P1 → LamX.TabB base mg c2 P2 → R5.FnG P w K mg base k fa fd [x] sp) (hbind : ∀ (s : Shared) (u : Value), BindsTo s fd ⟨[u], []⟩ [(x, u)])
    (hsp : ∀ H : Hp, H P1 = some (.tbl #[]) → H P2 = some (.tbl #[]) → SqL K H a (ns.map V.int) → sp [.ref a] H (fun v _ => v = .bl true) fun _ _ _ => False) :
    codeAny (model P w) callerA (.call (.ref fa) ⟨[.ref a], []⟩) (fun r s' => r = .ok (.ret (.bool true)) ∧ OldK s₁.heap s'.heap ∧ s'.os = s₁.os ∧ AllBare s'.gens) s₁ := by
  have rv := vals_ints hi
  have lenV := hi.length
  have na : a ≠ P1 ∧ a ≠ P2 := by
    constructor
    · intro z
      have := Option.some.inj (ha.symm.trans (z ▸ t1))
      cases this
    · intro z
      have := Option.some.inj (ha.symm.trans (z ▸ t2))
      cases this
  let H : Hp := track K P1 P2 a { cls := .type "list", data := .seq vs.toArray } (.lst (ns.map V.int))
  have free : ∀ {b : Addr} {o : Obj}, s₁.heap.get? b = some o → o.data ≠ .fields #[] → (∀ q n, o.data ≠ .seq q n) → (hidT s₁.heap H).get? b = some o := fun {b o} e h1 h2 => by
    refine hidT_get e (track_none (fun z => ?_) (fun z => ?_) fun z => ?_)
    · have := Option.some.inj (e.symm.trans (z ▸ t1)); exact h1 (by rw [this])
    · have := Option.some.inj (e.symm.trans (z ▸ t2)); exact h1 (by rw [this])
    · have := Option.some.inj (e.symm.trans (z ▸ ha)); exact absurd (by rw [this]) (h2 _ _)
  have nsF : ∀ {b : Addr} {m : Str → Option Value}, s₁.heap.Ns b m → (hidT s₁.heap H).Ns b m := fun {b m} h => by
    obtain ⟨o, es, ep, e, d, r⟩ := h
    exact ⟨o, es, ep, free e (fun z => by rw [d] at z; cases z) (fun q n z => by rw [d] at z; cases z), d, r⟩
  have inF : K.In (hidT s₁.heap H) := fun b o e => by
    refine hidT_get (KX b o e) (track_none (fun z => ?_) (fun z => ?_) fun z n => ?_)
    · rw [z, n1] at e; cases e
    · rw [z, n2] at e; cases e
    · rw [z, n] at e; cases e
  have hok : HOk P w H s₁.heap := fun b u e => by
    rcases track_cases e with ⟨hb, rfl⟩ | ⟨rfl, _, rfl⟩
    · rcases hb with rfl | rfl
      · exact t1
      · exact t2
    · exact ⟨ha, by rw [List.length_map]; exact hl, vs, _, rv, ha⟩
  have e0 : Env0 P w K mg (hidT s₁.heap H) callerA [] s₁ H := by
    obtain ⟨mc, l1, l2⟩ := hlim
    exact ⟨rfl, ⟨inF, nsF hns, ⟨mb, nsF hb, hbb⟩, ⟨mc, nsF l1, l2⟩⟩, fun b o e => of_hidT e, Nat.le_of_eq (hidT_size _ _), trivial, (fun b hb => by cases hb), hok, .of_eq hg⟩
  have hS : SqL K H a (ns.map V.int) := by
    cases hk : K.lookup a with
    | none => exact .inl (.inr ⟨_, by show track _ _ _ _ _ _ a = _; unfold track; rw [if_neg (fun z => z.elim na.1 na.2), if_pos ⟨rfl, hk⟩]⟩)
    | some o =>
      have eo := Option.some.inj ((KX a o hk).symm.trans ha)
      exact .inr ⟨o, vs.toArray, _, hk, by rw [eo], by rw [eo], by rw [eo], by rw [List.size_toArray, lenV]; exact hl, by simpa using rv⟩
  have run := (F _ inF (nsF hns) (tab_base free t1 hns C1 hbm) (tab_base free t2 hns C2 hbm)).run callerA [] s₁ H ⟨[.ref a], []⟩ [.ref a] [.ref a] _ _ hr rfl e0 (hbind s₁ (.ref a)) (.cons rfl .nil) (hsp H (track_tab (.inl rfl)) (track_tab (.inr rfl)) hS)
  refine codeAny_mono run fun r s' h => ?_
  match r, h with
  | .error e, h => exact (show False from h).elim
  | .ok .next, h => exact (show False from h).elim
  | .ok .brk, h => exact (show False from h).elim
  | .ok .cont, h => exact (show False from h).elim
  | .ok (.ret u), h =>
    obtain ⟨v, H', os, bare, un, hok', r', q⟩ := h
    obtain rfl : v = .bl true := q
    obtain rfl : u = Value.bool true := r'
    have tabs : ∀ {Pt c : Addr}, (Pt = P1 ∨ Pt = P2) → ∃ more : Array Value, s'.heap.get? Pt = some { cls := .none, data := .fields more } := fun {Pt c} hp => by
      obtain ⟨more, z⟩ := un.tbls Pt #[] (track_tab hp)
      exact ⟨_, hok' Pt _ z⟩
    have others : ∀ b o, ¬ (b = P1 ∨ b = P2) → s₁.heap.get? b = some o → s'.heap.get? b = some o := fun b o nb e => by
      cases z : H b with
      | none => exact un.keep b o e z (fun y => by cases y) (by simp)
      | some u =>
        rcases track_cases z with ⟨y, _⟩ | ⟨rfl, hk, rfl⟩
        · exact absurd y nb
        · obtain ⟨e2, _⟩ := hok' b _ (un.frzs b _ _ z)
          rw [← Option.some.inj (ha.symm.trans e)]
          exact e2
    refine ⟨rfl, ⟨fun b o e => ?_, fun b o e => ?_⟩, os, bare⟩
    · by_cases hb : b = P1 ∨ b = P2
      · obtain ⟨more, hm⟩ := tabs (c := b) hb
        rcases hb with rfl | rfl
        · cases Option.some.inj (t1.symm.trans e)
          exact .inr (.inl ⟨(C1.tab t1).isCodeTable, rfl, #[], more, rfl, by rw [Array.empty_append]; exact hm⟩)
        · cases Option.some.inj (t2.symm.trans e)
          exact .inr (.inl ⟨(C2.tab t2).isCodeTable, rfl, #[], more, rfl, by rw [Array.empty_append]; exact hm⟩)
      · exact .inl (others b o hb e)
    · by_cases hb : b = P1 ∨ b = P2
      · obtain ⟨more, hm⟩ := tabs (c := b) hb
        exact ⟨_, hm⟩
      · exact ⟨o, others b o hb e⟩
end
/-- what is known of the law's promise at the head's heap h -/
def EndAt (l : PySem.W.OpenLaw) (w : World) (K : PySem.W.Frag) (k n : Nat) (x : Str) (mg : Str → Option Value) (fa : Addr) (h : Heap) : Prop :=
  ∃ (fd : FuncData) (c1 P1 c2 P2 : Addr) (sp : Sp), h.get? P1 = some { cls := .none, data := .fields #[] } ∧ h.get? P2 = some { cls := .none, data := .fields #[] } ∧ K.lookup P1 = none ∧ K.lookup P2 = none ∧ PySem.W.CodeHd h c1 P1 ∧ PySem.W.CodeHd h c2 P2 ∧
    (∀ (s : Shared) (u : Value), BindsTo s fd ⟨[u], []⟩ [(x, u)]) ∧
    (∀ (H : Hp) (a : Addr) (ns : List Int), H P1 = some (.tbl #[]) → H P2 = some (.tbl #[]) → SqL K H a (ns.map V.int) → sp [.ref a] H (fun v _ => v = .bl true) fun _ _ _ => False) ∧
    ∀ base : Heap, K.In base → base.Ns mainGlobals mg → LamX.TabB base mg c1 P1 → LamX.TabB base mg c2 P2 → R5.FnG l.prog w K mg base k fa fd [x] sp
theorem walk_end {l : PySem.W.OpenLaw} {n k : Nat} {q : Program} {loose : List Str} {XP : (Str → Option Value) → Heap → Prop} {YP : World → Heap → Prop} {d : DefRec} {K : Params → PySem.W.Frag} {x : Str}
    (hn : l.most = some n) (hn2 : n ≤ sizeLine) (hdf : d.params.defaults = []) (hr : Room k callerA) (hY : ∀ (w : World) (h : Heap), YP w h → (K w.params).In h)
    (F : ∀ (w : World) (mg : Str → Option Value) (fa : Addr) (h : Heap), YP w h → (K w.params).In h → h.Ns mainGlobals mg → mg d.name = some (.ref fa) → EndAt l w (K w.params) k n x mg fa h) :
    PySem.W.WalkO q loose XP YP l.row.toRowW d [] (fun f vs => PySem.call f vs) := by
  refine Att.attach_callB hn hdf fun w s₀ s₁ mg mb fa o pm cd doc a vs ns G Y ho hd hcd hmg hobj hints hlen hbits hg => ?_
  obtain ⟨fd, c1, P1, c2, P2, sp, t1, t2, n1, n2, C1, C2, hb, hsp, hF⟩ := F w mg fa _ Y (hY w _ Y) G.T.g hmg
  exact end_run (hY w _ Y) G.T.g G.T.b G.T.builtins G.T.nolimit hg t1 t2 n1 n2 C1 C2 G.T.bmain hobj hints (Nat.le_trans hlen hn2) hr hF hb fun H h1 h2 hS => hsp H a ns h1 h2 hS
end R26

namespace R27
open PySem PySem.Spec PyProof.Rows L2 R9 R16 R24 R25 R26
theorem dfn_of {K : PySem.W.Frag} {hh : Heap} {mg : Str → Option Value} {x : Str} {st : Stmt} {f : Addr} {od an : Option Addr} {sl : Array (Option Value)} {oc kV dc pm cd ct : Value} (KX : K.In hh) (G : hh.Ns mainGlobals mg) (a : PySem.W.nsIn K mainGlobals x = some (some (.ref f)))
    (l : K.lookup f = some ⟨oc, od, .func (PySem.W.fnOf x x (defArgs st) (defBody st) (defScope st) .none kV dc pm an cd ct), sl⟩) (c : PySem.W.codeIn K cd x = true) (k : PySem.W.keepIn K (.ref f) = true) : Dfn K mg x st :=
  ⟨f, _, ⟨⟨_, _, _, _, _, _, _, _, _, rfl, l, c⟩, k⟩, PySem.W.mg_of KX G a⟩
theorem top_super : (PySem.Challenge.rw_letquay_k86_orders_of_units.prog.main.scope.names.lookup ("super" : Str)).isSome = false := by decide +kernel
theorem fin86 {w : World} {K : PySem.W.Frag} {hh : Heap} {mg : Str → Option Value} {fa : Addr} {f0 f1 f2 f3 f4 f5 f6 f7 f8 f9 f10 f11 f12 f13 f14 f15 f16 f17 fR cR PR fL cL PL C0 C1 C2 C U fU kwU fI cda cc pname puses pdeclarations pnodes psignature : Addr} {od0 an0 od1 an1 od2 an2 od3 an3 od4 an4 od5 an5 od6 an6 od7 an7 od8 an8 od9 an9 od10 an10 od11 an11 od12 an12 od13 an13 od14 an14 od15 an15 od16 an16 od17 an17 odU anU odI anI cdd cld odR anR cdR odL anL cdL : Option Addr} {sl0 sl1 sl2 sl3 sl4 sl5 sl6 sl7 sl8 sl9 sl10 sl11 sl12 sl13 sl14 sl15 sl16 sl17 slU slI ccs csl slR scR slL scL : Array (Option Value)} {vsI vsR vsL : Array Value} {oc0 kV0 dc0 pm0 cd0 ct0 oc1 kV1 dc1 pm1 cd1 ct1 oc2 kV2 dc2 pm2 cd2 ct2 oc3 kV3 dc3 pm3 cd3 ct3 oc4 kV4 dc4 pm4 cd4 ct4 oc5 kV5 dc5 pm5 cd5 ct5 oc6 kV6 dc6 pm6 cd6 ct6 oc7 kV7 dc7 pm7 cd7 ct7 oc8 kV8 dc8 pm8 cd8 ct8 oc9 kV9 dc9 pm9 cd9 ct9 oc10 kV10 dc10 pm10 cd10 ct10 oc11 kV11 dc11 pm11 cd11 ct11 oc12 kV12 dc12 pm12 cd12 ct12 oc13 kV13 dc13 pm13 cd13 ct13 oc14 kV14 dc14 pm14 cd14 ct14 oc15 kV15 dc15 pm15 cd15 ct15 oc16 kV16 dc16 pm16 cd16 ct16 oc17 kV17 dc17 pm17 cd17 ct17 ocU dcU pmU cdU ctU ocI kVI dcI pmI ctI ccl ccv ocR kVR dcR pmR ctR ocL kVL dcL pmL ctL : Value} {cdC : ClassData} {file : Str} {tf tLETTERS tCAPITALS tMAX_NAME tMAX_NODES tMAX_UNITS : Tok} (KX : K.In hh) (G : hh.Ns mainGlobals mg) (hmg : mg "law" = some (.ref fa))
    (a0 : PySem.W.nsIn K mainGlobals "are_letters" = some (some (.ref f0)))
    (l0 : K.lookup f0 = some ⟨oc0, od0, .func (PySem.W.fnOf "are_letters" "are_letters" (defArgs (K86.top 21)) (defBody (K86.top 21)) (defScope (K86.top 21)) .none kV0 dc0 pm0 an0 cd0 ct0), sl0⟩)
    (c0 : PySem.W.codeIn K cd0 "are_letters" = true)
    (k0 : PySem.W.keepIn K (.ref f0) = true)
    (a1 : PySem.W.nsIn K mainGlobals "is_high" = some (some (.ref f1)))
    (l1 : K.lookup f1 = some ⟨oc1, od1, .func (PySem.W.fnOf "is_high" "is_high" (defArgs (K86.top 23)) (defBody (K86.top 23)) (defScope (K86.top 23)) .none kV1 dc1 pm1 an1 cd1 ct1), sl1⟩)
    (c1 : PySem.W.codeIn K cd1 "is_high" = true)
    (k1 : PySem.W.keepIn K (.ref f1) = true)
    (a2 : PySem.W.nsIn K mainGlobals "is_unit" = some (some (.ref f2)))
    (l2 : K.lookup f2 = some ⟨oc2, od2, .func (PySem.W.fnOf "is_unit" "is_unit" (defArgs (K86.top 61)) (defBody (K86.top 61)) (defScope (K86.top 61)) .none kV2 dc2 pm2 an2 cd2 ct2), sl2⟩)
    (c2 : PySem.W.codeIn K cd2 "is_unit" = true)
    (k2 : PySem.W.keepIn K (.ref f2) = true)
    (a3 : PySem.W.nsIn K mainGlobals "are_uses" = some (some (.ref f3)))
    (l3 : K.lookup f3 = some ⟨oc3, od3, .func (PySem.W.fnOf "are_uses" "are_uses" (defArgs (K86.top 69)) (defBody (K86.top 69)) (defScope (K86.top 69)) .none kV3 dc3 pm3 an3 cd3 ct3), sl3⟩)
    (c3 : PySem.W.codeIn K cd3 "are_uses" = true)
    (k3 : PySem.W.keepIn K (.ref f3) = true)
    (a4 : PySem.W.nsIn K mainGlobals "first_by_name" = some (some (.ref f4)))
    (l4 : K.lookup f4 = some ⟨oc4, od4, .func (PySem.W.fnOf "first_by_name" "first_by_name" (defArgs (K86.top 72)) (defBody (K86.top 72)) (defScope (K86.top 72)) .none kV4 dc4 pm4 an4 cd4 ct4), sl4⟩)
    (c4 : PySem.W.codeIn K cd4 "first_by_name" = true)
    (k4 : PySem.W.keepIn K (.ref f4) = true)
    (a5 : PySem.W.nsIn K mainGlobals "uses_itself" = some (some (.ref f5)))
    (l5 : K.lookup f5 = some ⟨oc5, od5, .func (PySem.W.fnOf "uses_itself" "uses_itself" (defArgs (K86.top 73)) (defBody (K86.top 73)) (defScope (K86.top 73)) .none kV5 dc5 pm5 an5 cd5 ct5), sl5⟩)
    (c5 : PySem.W.codeIn K cd5 "uses_itself" = true)
    (k5 : PySem.W.keepIn K (.ref f5) = true)
    (a6 : PySem.W.nsIn K mainGlobals "reason_of" = some (some (.ref f6)))
    (l6 : K.lookup f6 = some ⟨oc6, od6, .func (PySem.W.fnOf "reason_of" "reason_of" (defArgs (K86.top 74)) (defBody (K86.top 74)) (defScope (K86.top 74)) .none kV6 dc6 pm6 an6 cd6 ct6), sl6⟩)
    (c6 : PySem.W.codeIn K cd6 "reason_of" = true)
    (k6 : PySem.W.keepIn K (.ref f6) = true)
    (a7 : PySem.W.nsIn K mainGlobals "require_linkable" = some (some (.ref f7)))
    (l7 : K.lookup f7 = some ⟨oc7, od7, .func (PySem.W.fnOf "require_linkable" "require_linkable" (defArgs (K86.top 75)) (defBody (K86.top 75)) (defScope (K86.top 75)) .none kV7 dc7 pm7 an7 cd7 ct7), sl7⟩)
    (c7 : PySem.W.codeIn K cd7 "require_linkable" = true)
    (k7 : PySem.W.keepIn K (.ref f7) = true)
    (a8 : PySem.W.nsIn K mainGlobals "in_order" = some (some (.ref f8)))
    (l8 : K.lookup f8 = some ⟨oc8, od8, .func (PySem.W.fnOf "in_order" "in_order" (defArgs (K86.top 76)) (defBody (K86.top 76)) (defScope (K86.top 76)) .none kV8 dc8 pm8 an8 cd8 ct8), sl8⟩)
    (c8 : PySem.W.codeIn K cd8 "in_order" = true)
    (k8 : PySem.W.keepIn K (.ref f8) = true)
    (a9 : PySem.W.nsIn K mainGlobals "require_units" = some (some (.ref f9)))
    (l9 : K.lookup f9 = some ⟨oc9, od9, .func (PySem.W.fnOf "require_units" "require_units" (defArgs (K86.top 77)) (defBody (K86.top 77)) (defScope (K86.top 77)) .none kV9 dc9 pm9 an9 cd9 ct9), sl9⟩)
    (c9 : PySem.W.codeIn K cd9 "require_units" = true)
    (k9 : PySem.W.keepIn K (.ref f9) = true)
    (a10 : PySem.W.nsIn K mainGlobals "order_of" = some (some (.ref f10)))
    (l10 : K.lookup f10 = some ⟨oc10, od10, .func (PySem.W.fnOf "order_of" "order_of" (defArgs (K86.top 78)) (defBody (K86.top 78)) (defScope (K86.top 78)) .none kV10 dc10 pm10 an10 cd10 ct10), sl10⟩)
    (c10 : PySem.W.codeIn K cd10 "order_of" = true)
    (k10 : PySem.W.keepIn K (.ref f10) = true)
    (a11 : PySem.W.nsIn K mainGlobals "_law_cup" = some (some (.ref f11)))
    (l11 : K.lookup f11 = some ⟨oc11, od11, .func (PySem.W.fnOf "_law_cup" "_law_cup" (defArgs (K86.top 80)) (defBody (K86.top 80)) (defScope (K86.top 80)) .none kV11 dc11 pm11 an11 cd11 ct11), sl11⟩)
    (c11 : PySem.W.codeIn K cd11 "_law_cup" = true)
    (k11 : PySem.W.keepIn K (.ref f11) = true)
    (a12 : PySem.W.nsIn K mainGlobals "_law_sip" = some (some (.ref f12)))
    (l12 : K.lookup f12 = some ⟨oc12, od12, .func (PySem.W.fnOf "_law_sip" "_law_sip" (defArgs (K86.top 81)) (defBody (K86.top 81)) (defScope (K86.top 81)) .none kV12 dc12 pm12 an12 cd12 ct12), sl12⟩)
    (c12 : PySem.W.codeIn K cd12 "_law_sip" = true)
    (k12 : PySem.W.keepIn K (.ref f12) = true)
    (a13 : PySem.W.nsIn K mainGlobals "_law_graph" = some (some (.ref f13)))
    (l13 : K.lookup f13 = some ⟨oc13, od13, .func (PySem.W.fnOf "_law_graph" "_law_graph" (defArgs (K86.top 83)) (defBody (K86.top 83)) (defScope (K86.top 83)) .none kV13 dc13 pm13 an13 cd13 ct13), sl13⟩)
    (c13 : PySem.W.codeIn K cd13 "_law_graph" = true)
    (k13 : PySem.W.keepIn K (.ref f13) = true)
    (a14 : PySem.W.nsIn K mainGlobals "_law_comes_back" = some (some (.ref f14)))
    (l14 : K.lookup f14 = some ⟨oc14, od14, .func (PySem.W.fnOf "_law_comes_back" "_law_comes_back" (defArgs (K86.top 84)) (defBody (K86.top 84)) (defScope (K86.top 84)) .none kV14 dc14 pm14 an14 cd14 ct14), sl14⟩)
    (c14 : PySem.W.codeIn K cd14 "_law_comes_back" = true)
    (k14 : PySem.W.keepIn K (.ref f14) = true)
    (a15 : PySem.W.nsIn K mainGlobals "_law_reason" = some (some (.ref f15)))
    (l15 : K.lookup f15 = some ⟨oc15, od15, .func (PySem.W.fnOf "_law_reason" "_law_reason" (defArgs (K86.top 85)) (defBody (K86.top 85)) (defScope (K86.top 85)) .none kV15 dc15 pm15 an15 cd15 ct15), sl15⟩)
    (c15 : PySem.W.codeIn K cd15 "_law_reason" = true)
    (k15 : PySem.W.keepIn K (.ref f15) = true)
    (a16 : PySem.W.nsIn K mainGlobals "_law_order" = some (some (.ref f16)))
    (l16 : K.lookup f16 = some ⟨oc16, od16, .func (PySem.W.fnOf "_law_order" "_law_order" (defArgs (K86.top 86)) (defBody (K86.top 86)) (defScope (K86.top 86)) .none kV16 dc16 pm16 an16 cd16 ct16), sl16⟩)
    (c16 : PySem.W.codeIn K cd16 "_law_order" = true)
    (k16 : PySem.W.keepIn K (.ref f16) = true)
    (a17 : PySem.W.nsIn K mainGlobals "_law_met" = some (some (.ref f17)))
    (l17 : K.lookup f17 = some ⟨oc17, od17, .func (PySem.W.fnOf "_law_met" "_law_met" (defArgs (K86.top 82)) (defBody (K86.top 82)) (defScope (K86.top 82)) .none kV17 dc17 pm17 an17 cd17 ct17), sl17⟩)
    (c17 : PySem.W.codeIn K cd17 "_law_met" = true)
    (k17 : PySem.W.keepIn K (.ref f17) = true)
    (aR : PySem.W.nsIn K mainGlobals "_law_right" = some (some (.ref fR)))
    (lR : K.lookup fR = some ⟨ocR, odR, .func (PySem.W.fnOf "_law_right" "_law_right" (defArgs (K86.top 87)) (defBody (K86.top 87)) (defScope (K86.top 87)) .none kVR dcR pmR anR (.ref cR) ctR), slR⟩)
    (cR0 : PySem.W.codeIn K (.ref cR) "_law_right" = true)
    (kR : PySem.W.keepIn K (.ref fR) = true)
    (tR : K.lookup cR = some ⟨.type "code", cdR, .fields vsR, scR⟩)
    (vR : vsR[11]? = some (.ref PR))
    (hR : PySem.W.codeHdIn K cR PR = true)
    (nR : K.lookup PR = none)
    (gR : hh.get? PR = some { cls := .none, data := .fields #[] })
    (aL : PySem.W.nsIn K mainGlobals "law" = some (some (.ref fL)))
    (lL : K.lookup fL = some ⟨ocL, odL, .func (PySem.W.fnOf "law" "law" (defArgs (K86.top 88)) (defBody (K86.top 88)) (defScope (K86.top 88)) .none kVL dcL pmL anL (.ref cL) ctL), slL⟩)
    (cL0 : PySem.W.codeIn K (.ref cL) "law" = true)
    (kL : PySem.W.keepIn K (.ref fL) = true)
    (tL : K.lookup cL = some ⟨.type "code", cdL, .fields vsL, scL⟩)
    (vL : vsL[11]? = some (.ref PL))
    (hL : PySem.W.codeHdIn K cL PL = true)
    (nL : K.lookup PL = none)
    (gL : hh.get? PL = some { cls := .none, data := .fields #[] })
    (pne : PL ≠ PR)
    (xC0 : PySem.W.nsIn K mainGlobals "InvalidUnit" = some (some (.ref C0)))
    (xC1 : PySem.W.nsIn K mainGlobals "InvalidFace" = some (some (.ref C1)))
    (xC2 : PySem.W.nsIn K mainGlobals "InvalidOperation" = some (some (.ref C2)))
    (xC : PySem.W.nsIn K mainGlobals "Refused" = some (some (.ref C)))
    (eC0 : PySem.W.exmOne K (.ref C) (.ref C0) = some false)
    (eC1 : PySem.W.exmOne K (.ref C) (.ref C1) = some false)
    (eC2 : PySem.W.exmOne K (.ref C) (.ref C2) = some false)
    (eC : PySem.W.exmOne K (.ref C) (.ref C) = some true)
    (rq : PySem.W.excInitIn K C R4.aeTail "ArithmeticError.__new__" = true)
    (rhi : PySem.W.findIn K (.ref C) "__init__" = some (some (.ref fI)))
    (rtI : PySem.W.typeIn K (.ref fI) = some (.type "function"))
    (rlk : K.lookup fI = some ⟨ocI, odI, .func (PySem.W.ksFn "__init__" "Refused.__init__" (defArgs R4.sRef) (defBody R4.sRef) (defScope R4.sRef) .none kVI dcI pmI anI (.ref cda) ctI cc), slI⟩)
    (rhcd : PySem.W.codeIn K (.ref cda) "Refused.__init__" = true)
    (rcode : K.lookup cda = some ⟨ccl, cdd, .fields vsI, ccs⟩)
    (rvs : vsI[2]? = some (.str file tf))
    (rcell : K.lookup cc = some ⟨ccv, cld, .cell (some (.ref C)), csl⟩)
    (rhD : PySem.W.clsIn K C = some cdC)
    (rhsub : PySem.W.mroIn K C (.ref C) = some true)
    (rhsuper : PySem.W.nsIn K mainGlobals "super" = some none)
    (rho : PySem.W.nsIn K cStatics "thirdparty.any" = some none)
    (rhm : PySem.W.ks_superIn K C C "__init__" = some (some (.builtin "ArithmeticError.__init__")))
    (rhB : PySem.W.subIn K (.ref C) (.type "ArithmeticError") = some true)
    (rhs : PySem.W.findIn K (.ref C) "__setattr__" = some (some (.builtin "object.__setattr__")))
    (rhp : PySem.W.excOver K C R4.aeTail = true)
    (rht : PySem.W.takerIn K C "reason" = some none)
    (rhh : PySem.W.hasDictIn K C = true)
    (rexC : PySem.W.subIn K (.ref C) (.type "BaseException") = some true)
    (rtyC : PySem.W.typeIn K (.ref C) = some (.type "type"))
    (rkC : PySem.W.keepIn K (.ref C) = true)
    (xga : PySem.W.findIn K (.ref C) "__getattribute__" = some (some (.builtin "BaseException.__getattribute__")))
    (xgg : PySem.W.findIn K (.ref C) "__getattr__" = some none)
    (xno : PySem.W.findIn K (.ref C) "reason" = some none)
    (rfile : ((PySem.Challenge.rw_letquay_k86_orders_of_units.prog.main.file : Str) == file) = true)
    (u0 : PySem.W.nsIn K mainGlobals "Unit" = some (some (.ref U)))
    (sname1 : PySem.W.findIn K (.ref U) "own_name" = some (some (.ref pname)))
    (sname2 : PySem.W.specialIn K (.ref pname) "__get__" = some (some (.builtin "member_descriptor.__get__")))
    (sname3 : PySem.W.takesIn K (.ref pname) = some true)
    (sname4 : PySem.W.typeIn K (.ref pname) = some (.type "member_descriptor"))
    (sname5 : PySem.W.slotIn K pname U = some 1)
    (suses1 : PySem.W.findIn K (.ref U) "own_uses" = some (some (.ref puses)))
    (suses2 : PySem.W.specialIn K (.ref puses) "__get__" = some (some (.builtin "member_descriptor.__get__")))
    (suses3 : PySem.W.takesIn K (.ref puses) = some true)
    (suses4 : PySem.W.typeIn K (.ref puses) = some (.type "member_descriptor"))
    (suses5 : PySem.W.slotIn K puses U = some 4)
    (sdeclarations1 : PySem.W.findIn K (.ref U) "own_declarations" = some (some (.ref pdeclarations)))
    (sdeclarations2 : PySem.W.specialIn K (.ref pdeclarations) "__get__" = some (some (.builtin "member_descriptor.__get__")))
    (sdeclarations3 : PySem.W.takesIn K (.ref pdeclarations) = some true)
    (sdeclarations4 : PySem.W.typeIn K (.ref pdeclarations) = some (.type "member_descriptor"))
    (sdeclarations5 : PySem.W.slotIn K pdeclarations U = some 0)
    (snodes1 : PySem.W.findIn K (.ref U) "own_nodes" = some (some (.ref pnodes)))
    (snodes2 : PySem.W.specialIn K (.ref pnodes) "__get__" = some (some (.builtin "member_descriptor.__get__")))
    (snodes3 : PySem.W.takesIn K (.ref pnodes) = some true)
    (snodes4 : PySem.W.typeIn K (.ref pnodes) = some (.type "member_descriptor"))
    (snodes5 : PySem.W.slotIn K pnodes U = some 2)
    (ssignature1 : PySem.W.findIn K (.ref U) "own_signature" = some (some (.ref psignature)))
    (ssignature2 : PySem.W.specialIn K (.ref psignature) "__get__" = some (some (.builtin "member_descriptor.__get__")))
    (ssignature3 : PySem.W.takesIn K (.ref psignature) = some true)
    (ssignature4 : PySem.W.typeIn K (.ref psignature) = some (.type "member_descriptor"))
    (ssignature5 : PySem.W.slotIn K psignature U = some 3)
    (pg : PySem.W.plainGet K U Str.empty = true)
    (ic : PySem.W.isClsIn K U = true)
    (po : PySem.W.plainOver K U = true)
    (sa : PySem.W.findIn K (.ref U) "__setattr__" = some (some (.builtin "object.__setattr__")))
    (ica : PySem.W.findIn K (.ref U) "__class__" = some (some (.builtin "object.__class__")))
    (icn : PySem.W.specialIn K (.builtin "object.__class__") "__get__" = some (some (.builtin "getset_descriptor.__get__")))
    (ict : PySem.W.takesIn K (.builtin "object.__class__") = some true)
    (icm : PySem.W.mroIn K U (.type "object") = some true)
    (iki : PySem.W.kitOne K (.ref U) (.ref U) = some true)
    (mk : PySem.W.makesIn K U = true)
    (kc : PySem.W.keepIn K (.ref U) = true)
    (ui : PySem.W.findIn K (.ref U) "__init__" = some (some (.ref fU)))
    (uf : PySem.W.isFn K (.ref fU) = true)
    (ul : K.lookup fU = some ⟨ocU, odU, .func (PySem.W.fnOf "__init__" "Unit.__init__" (defArgs (inClass (K86.top 70) 1)) (defBody (inClass (K86.top 70) 1)) (defScope (inClass (K86.top 70) 1)) .none (.ref kwU) dcU pmU anU cdU ctU), slU⟩)
    (uc : PySem.W.codeIn K cdU "Unit.__init__" = true)
    (ukp : PySem.W.keepIn K (.ref fU) = true)
    (uk : PySem.W.nsIn K kwU "signature" = some (some .none))
    (gLETTERS : PySem.W.nsIn K mainGlobals "LETTERS" = some (some (.str R9.LET tLETTERS)))
    (gCAPITALS : PySem.W.nsIn K mainGlobals "CAPITALS" = some (some (.str R9.CAP tCAPITALS)))
    (gMAX_NAME : PySem.W.nsIn K mainGlobals "MAX_NAME" = some (some (.int 8 tMAX_NAME)))
    (gMAX_NODES : PySem.W.nsIn K mainGlobals "MAX_NODES" = some (some (.int 3000 tMAX_NODES)))
    (gMAX_UNITS : PySem.W.nsIn K mainGlobals "MAX_UNITS" = some (some (.int 8 tMAX_UNITS)))
    (blen : PySem.W.nsIn K mainGlobals "len" = some none)
    (ball : PySem.W.nsIn K mainGlobals "all" = some none)
    (bany : PySem.W.nsIn K mainGlobals "any" = some none)
    (bisinstance : PySem.W.nsIn K mainGlobals "isinstance" = some none)
    (bstr : PySem.W.nsIn K mainGlobals "str" = some none)
    (btuple : PySem.W.nsIn K mainGlobals "tuple" = some none)
    (blist : PySem.W.nsIn K mainGlobals "list" = some none)
    (bsum : PySem.W.nsIn K mainGlobals "sum" = some none)
    (brange : PySem.W.nsIn K mainGlobals "range" = some none)
    (benumerate : PySem.W.nsIn K mainGlobals "enumerate" = some none)
    (bzip : PySem.W.nsIn K mainGlobals "zip" = some none)
    (bmin : PySem.W.nsIn K mainGlobals "min" = some none)
    (bmax : PySem.W.nsIn K mainGlobals "max" = some none)
    (bsorted : PySem.W.nsIn K mainGlobals "sorted" = some none)
    (bdict : PySem.W.nsIn K mainGlobals "dict" = some none)
    (bint : PySem.W.nsIn K mainGlobals "int" = some none)
    (babs : PySem.W.nsIn K mainGlobals "abs" = some none)
    (brepr : PySem.W.nsIn K mainGlobals "repr" = some none)
    : EndAt PySem.Challenge.rw_letquay_k86_orders_of_units w K 9 63 "_law_script" mg fa hh := by
  have efa : fL = fa := by
    have e := (PySem.W.mg_of KX G aL).symm.trans hmg
    cases e
    rfl
  subst efa
  have m : ∀ {n : Str} {v : Value}, PySem.W.nsIn K mainGlobals n = some (some v) → mg n = some v := fun e => PySem.W.mg_of KX G e
  have b : ∀ {n : Str}, PySem.W.nsIn K mainGlobals n = some none → mg n = none := fun e => PySem.W.mg_none_of KX G e
  have T : T86 K mg U := { letters := dfn_of KX G a0 l0 c0 k0, high := dfn_of KX G a1 l1 c1 k1, unit := dfn_of KX G a2 l2 c2 k2, areU := dfn_of KX G a3 l3 c3 k3, first := dfn_of KX G a4 l4 c4 k4, usesI := dfn_of KX G a5 l5 c5 k5, reasonO := dfn_of KX G a6 l6 c6 k6, reqL := dfn_of KX G a7 l7 c7 k7, inO := dfn_of KX G a8 l8 c8 k8, reqU := dfn_of KX G a9 l9 c9 k9, orderO := dfn_of KX G a10 l10 c10 k10, cup := dfn_of KX G a11 l11 c11 k11, sip := dfn_of KX G a12 l12 c12 k12, graph := dfn_of KX G a13 l13 c13 k13, comes := dfn_of KX G a14 l14 c14 k14, reason := dfn_of KX G a15 l15 c15 k15, order := dfn_of KX G a16 l16 c16 k16, gL := ⟨_, m gLETTERS⟩, gC := ⟨_, m gCAPITALS⟩, gN := ⟨_, m gMAX_NAME⟩, gD := ⟨_, m gMAX_NODES⟩, gU := ⟨_, m gMAX_UNITS⟩, mU := m u0, sc := ⟨pg, ic, po, sa⟩, si := ⟨ica, icn, ict, icm⟩, ki := iki, s0 := ⟨_, sdeclarations1, sdeclarations2, sdeclarations3, sdeclarations4, sdeclarations5, by decide⟩, s1 := ⟨_, sname1, sname2, sname3, sname4, sname5, by decide⟩, s2 := ⟨_, snodes1, snodes2, snodes3, snodes4, snodes5, by decide⟩, s3 := ⟨_, ssignature1, ssignature2, ssignature3, ssignature4, ssignature5, by decide⟩, s4 := ⟨_, suses1, suses2, suses3, suses4, suses5, by decide⟩, init := ⟨fU, _, ⟨mk, ui, uf, kc⟩, ⟨_, _, _, _, _, _, _, _, _, _, rfl, ul, uc, .inl ⟨rfl, rfl⟩, .inr ⟨kwU, rfl, fun q hq => by rw [List.mem_singleton.mp hq]; exact ⟨_, uk, rfl⟩⟩⟩, ukp⟩, len := b blen, all := b ball, any := b bany, isinstance := b bisinstance, str := b bstr, tuple := b btuple, list := b blist, sum := b bsum, range := b brange, enumerate := b benumerate, zip := b bzip, min := b bmin, max := b bmax, sorted := b bsorted, dict := b bdict, int := b bint, abs := b babs, repr := b brepr }
  have RK : R4.RefK K C fI cda cc file := ⟨rq, rhi, rtI, ⟨_, _, _, _, _, _, _, _, _, rlk, fun s a b => .of_eq rfl⟩, rhcd, ⟨_, _, _, _, _, rcode, rvs⟩, ⟨_, _, _, rcell⟩, ⟨_, rhD⟩, rhsub, rhsuper, rho, rhm, rhB, rhs, rhp, rht, rhh, rexC, rtyC, rkC⟩
  have RT : RefT PySem.Challenge.rw_letquay_k86_orders_of_units.prog K mg C := ⟨⟨fI, cda, cc, file, RK, rfile⟩, top_super, m xC⟩
  have MC : R6.MetC K mg C := ⟨m xC, ⟨_, m xC0, eC0⟩, ⟨_, m xC1, eC1⟩, ⟨_, m xC2, eC2⟩, eC, ⟨xga, xgg, rexC, rhh⟩, xno, b brepr⟩
  have HD : Hand PySem.Challenge.rw_letquay_k86_orders_of_units.prog K mg U C := ⟨T, RT, MC, dfn_of KX G a17 l17 c17 k17⟩
  refine ⟨_, cR, PR, cL, PL, spLaw K PR PL, gR, gL, nR, nL, PySem.W.codeHd_of_K KX hR, PySem.W.codeHd_of_K KX hL, fun s u => ?_, fun H a ns h1 h2 hS => ⟨a, ns, rfl, hS, fun p hp => ?_, fun _ => rfl⟩, fun base inB nsB T1 T2 => law_ok HD (FR := ⟨⟨_, _, _, _, _, _, _, _, rfl, lR, cR0⟩, kR, m aR⟩) (F := ⟨⟨_, _, _, _, _, _, _, _, rfl, lL, cL0⟩, kL, m aL⟩) T1 T2 pne⟩
  · exact .of_eq rfl
  · rcases List.mem_cons.mp hp with z | z
    · rw [z]; exact LamX.TabS.nil h1
    · rw [List.mem_singleton.mp z]; exact LamX.TabS.nil h2
end R27

open PySem PySem.W PyProof.Rows
set_option Elab.async false
set_option maxRecDepth 100000
set_option maxHeartbeats 0
open_top hd86 for PySem.Challenge.rw_letquay_k86_orders_of_units

open PySem PySem.W PyProof.Rows
set_option maxHeartbeats 0 in
set_option pp.maxSteps 60 in
theorem PySem.Challenge.cw_letquay_k86_orders_of_units_holds : PySem.Challenge.rw_letquay_k86_orders_of_units.Holds :=
  hd86 (by
  k_fill
  refine R26.walk_end (n := 63) (k := 9) (x := "_law_script") rfl (by decide) rfl ⟨rfl, by decide, by decide⟩ (fun w h Y => km_in_of Y) ?F
  intro w mg fa h Y KX G hmg
  km_tabs Y
  refine' R27.fin86 KX G hmg ?a0 ?l0 ?c0 ?k0 ?a1 ?l1 ?c1 ?k1 ?a2 ?l2 ?c2 ?k2 ?a3 ?l3 ?c3 ?k3 ?a4 ?l4 ?c4 ?k4 ?a5 ?l5 ?c5 ?k5 ?a6 ?l6 ?c6 ?k6 ?a7 ?l7 ?c7 ?k7 ?a8 ?l8 ?c8 ?k8 ?a9 ?l9 ?c9 ?k9 ?a10 ?l10 ?c10 ?k10 ?a11 ?l11 ?c11 ?k11 ?a12 ?l12 ?c12 ?k12 ?a13 ?l13 ?c13 ?k13 ?a14 ?l14 ?c14 ?k14 ?a15 ?l15 ?c15 ?k15 ?a16 ?l16 ?c16 ?k16 ?a17 ?l17 ?c17 ?k17 ?aR ?lR ?cR0 ?kR ?tR ?vR ?hR ?nR ?gR ?aL ?lL ?cL0 ?kL ?tL ?vL ?hL ?nL ?gL ?pne ?xC0 ?xC1 ?xC2 ?xC ?eC0 ?eC1 ?eC2 ?eC ?rq ?rhi ?rtI ?rlk ?rhcd ?rcode ?rvs ?rcell ?rhD ?rhsub ?rhsuper ?rho ?rhm ?rhB ?rhs ?rhp ?rht ?rhh ?rexC ?rtyC ?rkC ?xga ?xgg ?xno ?rfile ?u0 ?sname1 ?sname2 ?sname3 ?sname4 ?sname5 ?suses1 ?suses2 ?suses3 ?suses4 ?suses5 ?sdeclarations1 ?sdeclarations2 ?sdeclarations3 ?sdeclarations4 ?sdeclarations5 ?snodes1 ?snodes2 ?snodes3 ?snodes4 ?snodes5 ?ssignature1 ?ssignature2 ?ssignature3 ?ssignature4 ?ssignature5 ?pg ?ic ?po ?sa ?ica ?icn ?ict ?icm ?iki ?mk ?kc ?ui ?uf ?ul ?uc ?ukp ?uk ?gLETTERS ?gCAPITALS ?gMAX_NAME ?gMAX_NODES ?gMAX_UNITS ?blen ?ball ?bany ?bisinstance ?bstr ?btuple ?blist ?bsum ?brange ?benumerate ?bzip ?bmin ?bmax ?bsorted ?bdict ?bint ?babs ?brepr
  (case a0 => first | k_is | rfl)
  (case l0 => first | k_is | rfl)
  (case c0 => first | k_is | rfl)
  (case k0 => first | k_is | rfl)
  (case a1 => first | k_is | rfl)
  (case l1 => first | k_is | rfl)
  (case c1 => first | k_is | rfl)
  (case k1 => first | k_is | rfl)
  (case a2 => first | k_is | rfl)
  (case l2 => first | k_is | rfl)
  (case c2 => first | k_is | rfl)
  (case k2 => first | k_is | rfl)
  (case a3 => first | k_is | rfl)
  (case l3 => first | k_is | rfl)
  (case c3 => first | k_is | rfl)
  (case k3 => first | k_is | rfl)
  (case a4 => first | k_is | rfl)
  (case l4 => first | k_is | rfl)
  (case c4 => first | k_is | rfl)
  (case k4 => first | k_is | rfl)
  (case a5 => first | k_is | rfl)
  (case l5 => first | k_is | rfl)
  (case c5 => first | k_is | rfl)
  (case k5 => first | k_is | rfl)
  (case a6 => first | k_is | rfl)
  (case l6 => first | k_is | rfl)
  (case c6 => first | k_is | rfl)
  (case k6 => first | k_is | rfl)
  (case a7 => first | k_is | rfl)
  (case l7 => first | k_is | rfl)
  (case c7 => first | k_is | rfl)
  (case k7 => first | k_is | rfl)
  (case a8 => first | k_is | rfl)
  (case l8 => first | k_is | rfl)
  (case c8 => first | k_is | rfl)
  (case k8 => first | k_is | rfl)
  (case a9 => first | k_is | rfl)
  (case l9 => first | k_is | rfl)
  (case c9 => first | k_is | rfl)
  (case k9 => first | k_is | rfl)
  (case a10 => first | k_is | rfl)
  (case l10 => first | k_is | rfl)
  (case c10 => first | k_is | rfl)
  (case k10 => first | k_is | rfl)
  (case a11 => first | k_is | rfl)
  (case l11 => first | k_is | rfl)
  (case c11 => first | k_is | rfl)
  (case k11 => first | k_is | rfl)
  (case a12 => first | k_is | rfl)
  (case l12 => first | k_is | rfl)
  (case c12 => first | k_is | rfl)
  (case k12 => first | k_is | rfl)
  (case a13 => first | k_is | rfl)
  (case l13 => first | k_is | rfl)
  (case c13 => first | k_is | rfl)
  (case k13 => first | k_is | rfl)
  (case a14 => first | k_is | rfl)
  (case l14 => first | k_is | rfl)
  (case c14 => first | k_is | rfl)
  (case k14 => first | k_is | rfl)
  (case a15 => first | k_is | rfl)
  (case l15 => first | k_is | rfl)
  (case c15 => first | k_is | rfl)
  (case k15 => first | k_is | rfl)
  (case a16 => first | k_is | rfl)
  (case l16 => first | k_is | rfl)
  (case c16 => first | k_is | rfl)
  (case k16 => first | k_is | rfl)
  (case a17 => first | k_is | rfl)
  (case l17 => first | k_is | rfl)
  (case c17 => first | k_is | rfl)
  (case k17 => first | k_is | rfl)
  (case aR => first | k_is | rfl)
  (case lR => first | k_is | rfl)
  (case cR0 => first | k_is | rfl)
  (case kR => first | k_is | rfl)
  (case tR => first | k_is | rfl)
  (case vR => first | k_is | rfl)
  (case hR => first | k_is | rfl)
  (case nR => first | k_is | rfl)
  (case gR => exact hT8 _ (by decide))
  (case aL => first | k_is | rfl)
  (case lL => first | k_is | rfl)
  (case cL0 => first | k_is | rfl)
  (case kL => first | k_is | rfl)
  (case tL => first | k_is | rfl)
  (case vL => first | k_is | rfl)
  (case hL => first | k_is | rfl)
  (case nL => first | k_is | rfl)
  (case gL => exact hT8 _ (by decide))
  (case pne => decide)
  (case xC0 => first | k_is | rfl)
  (case xC1 => first | k_is | rfl)
  (case xC2 => first | k_is | rfl)
  (case xC => first | k_is | rfl)
  (case eC0 => first | k_is | rfl)
  (case eC1 => first | k_is | rfl)
  (case eC2 => first | k_is | rfl)
  (case eC => first | k_is | rfl)
  (case rq => first | k_is | rfl)
  (case rhi => first | k_is | rfl)
  (case rtI => first | k_is | rfl)
  (case rlk => first | k_is | rfl)
  (case rhcd => first | k_is | rfl)
  (case rcode => first | k_is | rfl)
  (case rvs => first | k_is | rfl)
  (case rcell => first | k_is | rfl)
  (case rhD => first | k_is | rfl)
  (case rhsub => first | k_is | rfl)
  (case rhsuper => first | k_is | rfl)
  (case rho => first | k_is | rfl)
  (case rhm => first | k_is | rfl)
  (case rhB => first | k_is | rfl)
  (case rhs => first | k_is | rfl)
  (case rhp => first | k_is | rfl)
  (case rht => first | k_is | rfl)
  (case rhh => first | k_is | rfl)
  (case rexC => first | k_is | rfl)
  (case rtyC => first | k_is | rfl)
  (case rkC => first | k_is | rfl)
  (case xga => first | k_is | rfl)
  (case xgg => first | k_is | rfl)
  (case xno => first | k_is | rfl)
  (case rfile => first | rfl | decide +kernel | kernel_rfl)
  (case u0 => first | k_is | rfl)
  (case sname1 => first | k_is | rfl)
  (case sname2 => first | k_is | rfl)
  (case sname3 => first | k_is | rfl)
  (case sname4 => first | k_is | rfl)
  (case sname5 => first | k_is | rfl)
  (case suses1 => first | k_is | rfl)
  (case suses2 => first | k_is | rfl)
  (case suses3 => first | k_is | rfl)
  (case suses4 => first | k_is | rfl)
  (case suses5 => first | k_is | rfl)
  (case sdeclarations1 => first | k_is | rfl)
  (case sdeclarations2 => first | k_is | rfl)
  (case sdeclarations3 => first | k_is | rfl)
  (case sdeclarations4 => first | k_is | rfl)
  (case sdeclarations5 => first | k_is | rfl)
  (case snodes1 => first | k_is | rfl)
  (case snodes2 => first | k_is | rfl)
  (case snodes3 => first | k_is | rfl)
  (case snodes4 => first | k_is | rfl)
  (case snodes5 => first | k_is | rfl)
  (case ssignature1 => first | k_is | rfl)
  (case ssignature2 => first | k_is | rfl)
  (case ssignature3 => first | k_is | rfl)
  (case ssignature4 => first | k_is | rfl)
  (case ssignature5 => first | k_is | rfl)
  (case pg => first | k_is | rfl)
  (case ic => first | k_is | rfl)
  (case po => first | k_is | rfl)
  (case sa => first | k_is | rfl)
  (case ica => first | k_is | rfl)
  (case icn => first | k_is | rfl)
  (case ict => first | k_is | rfl)
  (case icm => first | k_is | rfl)
  (case iki => first | k_is | rfl)
  (case mk => first | k_is | rfl)
  (case kc => first | k_is | rfl)
  (case ui => first | k_is | rfl)
  (case uf => first | k_is | rfl)
  (case ul => first | k_is | rfl)
  (case uc => first | k_is | rfl)
  (case ukp => first | k_is | rfl)
  (case uk => first | k_is | rfl)
  (case gLETTERS => first | k_is | rfl)
  (case gCAPITALS => first | k_is | rfl)
  (case gMAX_NAME => first | k_is | rfl)
  (case gMAX_NODES => first | k_is | rfl)
  (case gMAX_UNITS => first | k_is | rfl)
  (case blen => first | k_is | rfl)
  (case ball => first | k_is | rfl)
  (case bany => first | k_is | rfl)
  (case bisinstance => first | k_is | rfl)
  (case bstr => first | k_is | rfl)
  (case btuple => first | k_is | rfl)
  (case blist => first | k_is | rfl)
  (case bsum => first | k_is | rfl)
  (case brange => first | k_is | rfl)
  (case benumerate => first | k_is | rfl)
  (case bzip => first | k_is | rfl)
  (case bmin => first | k_is | rfl)
  (case bmax => first | k_is | rfl)
  (case bsorted => first | k_is | rfl)
  (case bdict => first | k_is | rfl)
  (case bint => first | k_is | rfl)
  (case babs => first | k_is | rfl)
  (case brepr => first | k_is | rfl))
