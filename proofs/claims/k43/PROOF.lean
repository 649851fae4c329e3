import PyProof.Rows.All
import Wide.All
import OpenK.AllK
import Wide.FinOn
import HandS.ForMost
import HandS.ForExc
import HandS.Walk
import HandS.TryMany
import HandS.Lambda
import PyProof.TupleKey
import PyProof.DictRoadsH
import HandS.TupAny
import HandS.TupMul
import HandS.Deep
import HandS.Rev
import HandS.Zip
import HandS.Conv
import HandS.Codes
import HandS.IsInst
import HandS.Small
import HandS.Flow
import HandS.NoneIn
import HandS.Style
import HandS.SortInts
import KE.KSortTup
import HandS.EndOwn
import PyProof.GenQ
import HandS.GenOver
import PyProof.ConsumeS
import HandS.TupLe
import HandS.WordsDict
import HandS.TupLen
import HandS.More
import HandS.DictComp
import PyProof.DictTable
import KE.GoesEnum
import KE.GoesZip
import KE.KDictSum
import KE.KIndexOf
import HandS.DictTup
import HandS.SetKeys
import PyProof.DictMoreH
import KE.KLam
import KE.SortKeyHeap
import PyProof.Rows.Tup
import PyProof.Rows.CallKwBuiltin
import HandS.Iter
import HandS.TupSets
import KE.KNestM
import OpenK.XHead
import HandS.HeadWalk
import HandS.SortKw
import HandS.Text
import KE.KTupSum
import KE.DataMinMax
import ObjForm.LawKit
import KE.KDictWalk
import KE.DataFind
import KE.Datum
import HandS.StrMore
import HandS.ExcInit
import HandS.ExcField
import HandS.ExcSuper
import KE.KExcSuper
import PyProof.StrOps2
import HandS.ExcIs
import PySem.Challenge.RW_grouphall_k43_refusals_apart
set_option Elab.async false
set_option linter.all false
set_option maxRecDepth 100000
/-! rows of rows as keys of a dict -/
namespace DL
open PySem PySem.Spec PyProof.Rows L2
section
variable {prog : Program} {w : World} {K : Type} [DecidableEq K] (knd : KeyKind prog w K)
inductive RowsAre (h : Heap) : List (List K) → List Value → Prop
  | nil : RowsAre h [] []
  | cons {k : List K} {a : Addr} {ks : List (List K)} {vs : List Value} : IsTupleKey knd h k a → RowsAre h ks vs → RowsAre h (k :: ks) (.ref a :: vs)
def IsRowsKey (h : Heap) (ks : List (List K)) (a : Addr) : Prop := ∃ o items n, h.get? a = some o ∧ o.cls = .type "tuple" ∧ o.data = .seq items n ∧ RowsAre knd h ks items.toList
variable {knd}
theorem RowsAre.inj {h : Heap} {x y : List (List K)} {vs : List Value} (hx : RowsAre knd h x vs) (hy : RowsAre knd h y vs) : x = y := by
  induction hx generalizing y with
  | nil => cases hy; rfl
  | cons h1 _ ih =>
    cases hy with
    | cons h2 t2 => rw [h1.inj h2, ih t2]
theorem RowsAre.length {h : Heap} {x : List (List K)} {vs : List Value} (hx : RowsAre knd h x vs) : x.length = vs.length := by
  induction hx with
  | nil => rfl
  | cons _ _ ih => simp [ih]
theorem IsRowsKey.typeIs {s : Shared} {ks : List (List K)} {a : Addr} (x : IsRowsKey knd s.heap ks a) : s.TypeIs (.ref a) "tuple" := let ⟨o, _, _, ho, hc, _⟩ := x; ⟨o, ho, hc⟩
theorem IsRowsKey.inj {h : Heap} {a : Addr} {x y : List (List K)} (hx : IsRowsKey knd h x a) (hy : IsRowsKey knd h y a) : x = y := by
  obtain ⟨o, items, n, ho, _, hd, hi⟩ := hx
  obtain ⟨o', items', n', ho', _, hd', hi'⟩ := hy
  obtain rfl : o = o' := Option.some.inj (ho.symm.trans ho')
  rw [hd] at hd'
  injection hd' with h1 _
  subst h1
  exact hi.inj hi'
theorem RowsAre.keeps {h h' : Heap} {ks : List (List K)} {vs : List Value} {d : Addr} {o : Obj} {es ep} (x : RowsAre knd h ks vs) (ho : h.get? d = some o) (hd : o.data = .dict es ep) (hs : Heap.SameBut d h h') :
    RowsAre knd h' ks vs := by
  induction x with
  | nil => exact .nil
  | cons h1 _ ih => exact .cons (h1.keeps ho hd hs) ih
theorem IsRowsKey.keeps {h h' : Heap} {ks : List (List K)} {a d : Addr} {o : Obj} {es ep} (x : IsRowsKey knd h ks a) (ho : h.get? d = some o) (hd : o.data = .dict es ep) (hs : Heap.SameBut d h h') :
    IsRowsKey knd h' ks a := by
  obtain ⟨o', items, n, ho', hc, hd', hi⟩ := x
  have hne : a ≠ d := by
    rintro rfl
    obtain rfl : o' = o := Option.some.inj (ho'.symm.trans ho)
    rw [hd] at hd'; exact nomatch hd'
  exact ⟨o', items, n, (hs.2 a hne).trans ho', hc, hd', hi.keeps ho hd hs⟩
def rowsDraws : List (List K) → Nat
  | [] => 0
  | k :: ks => k.length + 1 + rowsDraws ks
theorem rowsDraws_snoc (k : List K) : ∀ ks : List (List K), rowsDraws (ks ++ [k]) = rowsDraws ks + (k.length + 1)
  | [] => by simp [rowsDraws]
  | x :: ks => by simp only [List.cons_append, rowsDraws, rowsDraws_snoc k ks]; omega
def rowsKeyHash (knd : KeyKind prog w K) (ks : List (List K)) : Int := reduceHash (Builtin.Tuple.tupleHashOf (ks.map (tupleKeyHash knd)))
variable {A : Around} {E : Value → Shared → Prop} {s : Shared}
theorem pyHash_rows {ks : List (List K)} {a : Addr} {Q : Int → Shared → Prop} (hu : A.units + 1 < cLine) (hk : IsRowsKey knd s.heap ks a) (h : Q (rowsKeyHash knd ks) { s with toks := s.toks + (rowsDraws ks + 1) }) :
    wpAny (model prog w) A (pyHash (.ref a)) Q E s := by
  have hT := hk.typeIs
  obtain ⟨o, items, n, ho, _, hd, hi⟩ := hk
  unfold pyHash
  first | unfold pyHashByItsType | skip
  first | refine wpAny_bind (wpAny_cRoomFor_or (.inr (by omega)) ?_) | skip
  refine wpAny_bind (wpAny_specialOf hT F.slot_tuple_hash.lookup ?_)
  show wpAny _ _ (if (some (Value.builtin "tuple.__hash__") == some Value.none) = true then _ else _) Q E s
  rw [if_neg (by rw [beq_builtin_none]; exact Bool.false_ne_true)]
  refine wpAny_bind (wpAny_specialOf hT F.slot_tuple_hash.lookup ?_)
  show wpAny _ _ (callSpecialIfBoundUnlessNone? (.ref a) "__hash__" _ >>= _) Q E s
  refine wpAny_bind (wpAny_callSpecialIfBoundUnlessNone?_slot hT F.slot_tuple_hash (wpAny_call_entry F.slot_tuple_hash hT F.entry_tuple_hash ?_ (F.args_tuple_hash_1 _)))
  show wpAny _ _ (Builtin.Tuple.tupleItemsOf (.ref a) >>= _) _ _ s
  refine wpAny_bind (wpAny_tupleItemsOf ho hd ?_)
  refine wpAny_bind ?_
  rw [← Array.forIn_toList]
  refine wpAny_forIn_list _
    (fun rest (b : Array Int) s' => ∃ done left, ks = done ++ left ∧ RowsAre knd s.heap left rest ∧ b.toList = done.map (tupleKeyHash knd) ∧ s' = { s with toks := s.toks + rowsDraws done })
    _ ?_ ?_ _ _ ⟨[], ks, rfl, hi, rfl, rfl⟩
  · rintro x rest b s' ⟨done, left, rfl, hl, hb, rfl⟩
    cases hl with
    | @cons k c ks' _ h1 hl' =>
      refine wpAny_bind (wpAny_pyHash_tuple (knd := knd) (ks := k) hu h1 ?_)
      first
        | exact wpAny_pure ⟨done ++ [k], ks', by simp, hl', by simp [hb], by simp [Nat.add_assoc, rowsDraws_snoc]⟩
        | exact wpAny_bind (wpAny_pure (wpAny_pure ⟨done ++ [k], ks', by simp, hl', by simp [hb], by simp [Nat.add_assoc, rowsDraws_snoc]⟩))
  · rintro b s' ⟨done, left, rfl, hl, hb, rfl⟩
    cases hl
    rw [List.append_nil] at h
    show wpAny _ _ (retInt (Builtin.Tuple.tupleHashOf b.toList)) _ _ _
    rw [hb]
    refine wpAny_ret_mkInt ?_
    show wpAny _ _ (if (decide (-(2 : Int) ^ 63 ≤ Builtin.Tuple.tupleHashOf (done.map (tupleKeyHash knd))) && decide (Builtin.Tuple.tupleHashOf (done.map (tupleKeyHash knd)) < 2 ^ 63)) = true then _ else _) Q E _
    unfold rowsKeyHash reduceHash at h
    by_cases hr : (decide (-(2 : Int) ^ 63 ≤ Builtin.Tuple.tupleHashOf (done.map (tupleKeyHash knd))) && decide (Builtin.Tuple.tupleHashOf (done.map (tupleKeyHash knd)) < 2 ^ 63)) = true
    · rw [if_pos hr]
      rw [if_pos hr] at h
      exact wpAny_pure (by simpa [Nat.add_assoc] using h)
    · rw [if_neg hr]
      rw [if_neg hr] at h
      exact wpAny_bind (wpAny_rule (wpAny_pure (by simpa [Nat.add_assoc] using h)))
theorem rows_eq_tree {x y : List (List K)} {a b : Addr} {P : Fin → Shared → Prop} (hu : A.units < cLine) (hx : IsRowsKey knd s.heap x a) (hy : IsRowsKey knd s.heap y b) (h : P (.done (.ret (.bool (decide (x = y))))) s) :
    wpAny (model prog w) A (Builtin.«tuple.__eq__» ⟨[.ref a, .ref b], []⟩) P E s := by
  have hTb := hy.typeIs
  obtain ⟨oa, xs, na, hoa, _, hda, hia⟩ := hx
  obtain ⟨ob, ys, nb, hob, _, hdb, hib⟩ := hy
  show wpAny _ _ (isInstance (.ref b) (.type "tuple") >>= _) _ _ s
  refine wpAny_bind (wpAny_isInstance hTb isSubtype_tuple_tuple ?_)
  simp only [Bool.not_true, Bool.false_eq_true, if_false]
  refine wpAny_bind (wpAny_tupleItemsOf hoa hda ?_)
  refine wpAny_bind (wpAny_tupleItemsOf hob hdb ?_)
  refine wpAny_bind ?_
  refine wpAny_forIn_list _
    (fun rest r s' => r.1 = none ∧ s' = s ∧ ∃ x' y' xs' ys', rest = List.zip xs' ys' ∧ RowsAre knd s.heap x' xs' ∧ RowsAre knd s.heap y' ys' ∧ decide (x' = y') = decide (x = y) ∧ (xs'.length == ys'.length) = (xs.size == ys.size))
    _ ?_ ?_ _ _ ⟨rfl, rfl, x, y, xs.toList, ys.toList, rfl, hia, hib, rfl, by simp⟩
  · rintro ⟨u, v⟩ rest r s' ⟨hr, rfl, x', y', xs', ys', hz, hx', hy', hdec, hlen⟩
    cases hx' with
    | nil => simp at hz
    | @cons k1 u' x'' xs'' h1 hx'' =>
      cases hy' with
      | nil => simp at hz
      | @cons k2 v' y'' ys'' h2 hy'' =>
        simp only [List.zip_cons_cons, List.cons.injEq, Prod.mk.injEq] at hz
        obtain ⟨⟨rfl, rfl⟩, rfl⟩ := hz
        refine wpAny_bind (wpAny_eqBool_tuple (knd := knd) (x := k1) (y := k2) hu h1 h2 ?_)
        by_cases hk : k1 = k2
        · subst hk
          rw [decide_eq_true rfl]
          simp only [Bool.not_true, Bool.false_eq_true, if_false]
          refine wpAny_pure ⟨rfl, rfl, x'', y'', xs'', ys'', rfl, hx'', hy'', ?_, by simpa using hlen⟩
          rw [← hdec]
          by_cases hxy : x'' = y''
          · simp [hxy]
          · simp [hxy]
        · rw [decide_eq_false hk]
          simp only [Bool.not_false, if_true]
          have hf : decide (x = y) = false := by rw [← hdec]; simp [hk]
          rw [hf] at h
          exact wpAny_bind (wpAny_pure (wpAny_pure (wpAny_pure h)))
  · rintro ⟨r1, r2⟩ s' ⟨hr, rfl, x', y', xs', ys', hz, hx', hy', hdec, hlen⟩
    simp only at hr
    subst hr
    refine wpAny_pure ?_
    have hfin : (xs.size == ys.size) = decide (x = y) := by
      rw [← hdec, ← hlen]
      cases hx' with
      | nil =>
        cases hy' with
        | nil => simp
        | cons _ _ => simp
      | cons _ _ =>
        cases hy' with
        | nil => simp
        | cons _ _ => simp at hz
    show P (.done (.ret (.bool (xs.size == ys.size)))) s'
    rw [hfin]; exact h
theorem eqBool_rows {x y : List (List K)} {a b : Addr} {Q : Bool → Shared → Prop} (hu : A.units + 1 < cLine) (hx : IsRowsKey knd s.heap x a) (hy : IsRowsKey knd s.heap y b) (h : Q (decide (x = y)) s) :
    wpAny (model prog w) A (eqBool (.ref a) (.ref b)) Q E s := by
  unfold eqBool
  try with_reducible refine wpAny_holding ?_
  show wpAny _ _ (if (Value.ref a == Value.ref b) = true then _ else _) Q E s
  by_cases hab : (Value.ref a == Value.ref b) = true
  · rw [if_pos hab]
    have e : a = b := by have := eq_of_beq hab; injection this
    subst e
    obtain rfl := hx.inj hy
    exact wpAny_bind (wpAny_rule (wpAny_pure (by simpa using h)))
  · rw [if_neg hab]
    exact wpAny_bind (wpAny_richCompare_same_room (op := .Eq) hx.typeIs hy.typeIs F.slot_tuple_eq
      (wpAny_call_entry F.slot_tuple_eq hx.typeIs F.entry_tuple_eq (rows_eq_tree hu hx hy ⟨_, rfl, (fun e => nomatch e), wpAny_truthy_bool h⟩) (F.args_tuple_eq_2 _ _)) (by omega))
theorem quiet_row {n : Nat} {ks : List K} {a : Addr} {Q : Bool → Shared → Prop} (hk : IsTupleKey knd s.heap ks a) (h : Q true s) : wpAny (model prog w) A (eqIsQuiet (n + 1) (.ref a)) Q E s := by
  have hT := hk.typeIs
  obtain ⟨o, items, n, ho, _, hd, hi⟩ := hk
  unfold eqIsQuiet
  refine wpAny_bind (wpAny_specialOf hT F.slot_tuple_eq.lookup ?_)
  show wpAny _ _ (isInstance (.ref a) (.type "tuple") >>= _) _ _ s
  refine wpAny_bind (wpAny_isInstance hT isSubtype_tuple_tuple ?_)
  simp only [Bool.not_true, Bool.false_eq_true, if_false]
  refine wpAny_bind (wpAny_seqItems ho hd ?_)
  refine wpAny_bind ?_
  show wpAny _ _ (forIn items _ _) _ _ s
  rw [← Array.forIn_toList]
  refine wpAny_forIn_list _ (fun rest r s' => r.1 = none ∧ s' = s ∧ ∀ v ∈ rest, carriedByValue v = true) _ ?_ ?_ _ _ ⟨rfl, rfl, hi.byValue⟩
  · rintro v rest r s' ⟨hr, rfl, hall⟩
    rw [eqIsQuiet_byValue _ (hall v List.mem_cons_self)]
    refine wpAny_bind (wpAny_pure ?_)
    simp only [Bool.not_true, Bool.false_eq_true, if_false]
    exact wpAny_pure ⟨rfl, rfl, fun u hu' => hall u (List.mem_cons_of_mem _ hu')⟩
  · rintro ⟨r1, r2⟩ s' ⟨hr, rfl, _⟩
    simp only at hr
    subst hr
    exact wpAny_pure h
theorem quiet_rows {ks : List (List K)} {a : Addr} {Q : Bool → Shared → Prop} (hk : IsRowsKey knd s.heap ks a) (h : Q true s) : wpAny (model prog w) A (eqIsQuiet 8 (.ref a)) Q E s := by
  have hT := hk.typeIs
  obtain ⟨o, items, n, ho, _, hd, hi⟩ := hk
  unfold eqIsQuiet
  refine wpAny_bind (wpAny_specialOf hT F.slot_tuple_eq.lookup ?_)
  show wpAny _ _ (isInstance (.ref a) (.type "tuple") >>= _) _ _ s
  refine wpAny_bind (wpAny_isInstance hT isSubtype_tuple_tuple ?_)
  simp only [Bool.not_true, Bool.false_eq_true, if_false]
  refine wpAny_bind (wpAny_seqItems ho hd ?_)
  refine wpAny_bind ?_
  show wpAny _ _ (forIn items _ _) _ _ s
  rw [← Array.forIn_toList]
  refine wpAny_forIn_list _ (fun rest r s' => r.1 = none ∧ s' = s ∧ ∃ ks', RowsAre knd s.heap ks' rest) _ ?_ ?_ _ _ ⟨rfl, rfl, ks, hi⟩
  · rintro v rest r s' ⟨hr, rfl, ks', hall⟩
    cases hall with
    | @cons k c ks'' _ h1 h2 =>
      refine wpAny_bind (quiet_row (knd := knd) (n := 6) h1 ?_)
      simp only [Bool.not_true, Bool.false_eq_true, if_false]
      exact wpAny_pure ⟨rfl, rfl, ks'', h2⟩
  · rintro ⟨r1, r2⟩ s' ⟨hr, rfl, _⟩
    simp only at hr
    subst hr
    exact wpAny_pure h
end
/-- rows of rows as keys -/
def rowsKind {prog : Program} {w : World} {K : Type} [DecidableEq K] (knd : KeyKind prog w K) : HeapKind prog w (List (List K)) where
  is := IsRowsKey knd
  hash := rowsKeyHash knd
  draws := fun ks => rowsDraws ks + 1
  room := fun A => A.units + 1 < cLine
  inj := fun hx hy => hx.inj hy
  keeps := fun x ho hd hs => x.keeps ho hd hs
  pyHash := fun hu hk h => pyHash_rows hu hk h
  eqBool := fun hu hx hy h => eqBool_rows hu hx hy h
  quiet := fun hk h => quiet_rows hk h
/-! ### the object of a dict whose keys are rows of rows of ints -/
abbrev RK := List (List Int)
def hashR (k : RK) : Int := reduceHash (Builtin.Tuple.tupleHashOf (k.map fun l => reduceHash (Builtin.Tuple.tupleHashOf (l.map hashInt))))
def entR (x : RK × Addr × Value) : DictEntry := ⟨hashR x.1, .ref x.2.1, x.2.2⟩
/-- the dict at a, by its entries -/
def dObj (a : Addr) (xs : List (RK × Addr × Value)) : HO := .ext fun h => ∃ o es ep, h.get? a = some o ∧ o.ExactDict ∧ o.data = .dict es ep ∧ es.toList = xs.map entR
theorem dObj_code {a : Addr} {xs : List (RK × Addr × Value)} {c : Addr} {q : Str} (h : dObj a xs = LamX.CodeO c q) : False := by
  unfold dObj LamX.CodeO at h
  injection h with h
  let ob : Obj := { cls := .type "dict", data := .dict (xs.map entR).toArray 0 }
  let hp : Heap := { objs := Array.replicate (a + 1) ob }
  have g : ∀ b o, hp.get? b = some o → o = ob := fun b o e => by
    unfold Heap.get? at e
    by_cases z : b < a + 1
    · have : hp.objs[b]? = some ob := by
        show (Array.replicate (a + 1) ob)[b]? = some ob
        rw [Array.getElem?_replicate, if_pos z]
      rw [this] at e
      exact (Option.some.inj e).symm
    · have : hp.objs[b]? = none := by
        show (Array.replicate (a + 1) ob)[b]? = none
        rw [Array.getElem?_replicate, if_neg z]
      rw [this] at e
      cases e
  have ga : hp.get? a = some ob := by
    unfold Heap.get?
    have : hp.objs[a]? = some ob := by
      show (Array.replicate (a + 1) ob)[a]? = some ob
      rw [Array.getElem?_replicate, if_pos (Nat.lt_succ_self a)]
    rw [this]
  obtain ⟨oc, vs, t, e1, e2, _⟩ := (congrFun h hp).mp ⟨ob, _, 0, ga, ⟨rfl, rfl, rfl⟩, rfl, rfl⟩
  rw [g c oc e1] at e2
  cases e2
def TupA (H : Hp) (b : Addr) (vs : List V) : Prop := H b = some (.tup vs)
def RowsV (H : Hp) : RK → List V → Prop
  | [], vs => vs = []
  | k :: ks, vs => ∃ c vs', vs = .ref c :: vs' ∧ TupA H c (k.map V.int) ∧ RowsV H ks vs'
/-- a tuple of tuples of ints at b -/
def RowsA (H : Hp) (b : Addr) (k : RK) : Prop := ∃ vs, TupA H b vs ∧ RowsV H k vs
section
variable {P : Program} {w : World} {H : Hp} {h : Heap} {b : Addr}
theorem TupA.obj {vs : List V} (ok : HOk P w H h) (e : TupA H b vs) : ∃ its : List Value, Vals vs its ∧ IsTup h b its.toArray := by
  obtain ⟨_, its, r, t⟩ := (show ObjOk P w H h b (.tup vs) from ok b _ e); exact ⟨its, r, t⟩
theorem ints_are {prog : Program} {w : World} : ∀ {k : List Int} {its : List Value}, Vals (k.map V.int) its → ItemsAre (intKind prog w) k its
  | [], its, h => by cases h; exact .nil
  | i :: k, its, h => by
    rw [List.map_cons] at h
    cases h with
    | cons h1 h2 =>
      obtain ⟨t, rfl⟩ := h1
      exact .cons (by show Value.isInt i (.int i t) = true; simp [Value.isInt]) (ints_are h2)
theorem TupA.key {k : List Int} (ok : HOk P w H h) (e : TupA H b (k.map V.int)) : IsTupleKey (intKind P w) h k b := by
  obtain ⟨its, r, o, h1, h2, n, h3⟩ := e.obj ok
  exact ⟨o, its.toArray, n, h1, h2, h3, by simpa using ints_are r⟩
theorem RowsV.are (ok : HOk P w H h) : ∀ {k : RK} {vs : List V} {its : List Value}, RowsV H k vs → Vals vs its → RowsAre (intKind P w) h k its
  | [], vs, its, e, r => by rw [RowsV] at e; subst e; cases r; exact .nil
  | k :: ks, vs, its, e, r => by
    rw [RowsV] at e
    obtain ⟨c, vs', rfl, h1, h2⟩ := e
    cases r with
    | cons r1 r2 => cases (show _ = Value.ref c from r1); exact .cons (h1.key ok) (RowsV.are ok h2 r2)
theorem RowsA.key {k : RK} (ok : HOk P w H h) (e : RowsA H b k) : (rowsKind (intKind P w)).is h k b := by
  obtain ⟨vs, e1, e2⟩ := e
  obtain ⟨its, r, o, h1, h2, n, h3⟩ := e1.obj ok
  exact ⟨o, its.toArray, n, h1, h2, h3, by simpa using e2.are ok r⟩
end
end DL

/-! values as trees, a small heap of cells, worlds -/
namespace DL
open PySem PySem.Spec L2

inductive D where
  | non | bl (b : Bool) | int (i : Int) | str (x : Str) | tup (l : List D) | ref (r : Nat) | ftup (l : List D)

/-- the keys of a dict of rows of rows -/
abbrev RK2 := List RK
/-- what stands in a cell: a list; a list that is read alone; three ints that nobody knows; a dict; an instance; a thing by its number -/
inductive Cell where
  | lst (l : List D) | frz (l : List D) | dice | dct (t : Bool) (kvs : List (D × D)) | ldc (t : Bool) (kvs : List (D × D)) | dcr (ks : RK2) | ins (c : Nat) (fs : List (Nat × D))

def Cell.mut : Cell → Bool
  | .frz _ => false
  | .ldc _ _ => false
  | _ => true

structure Hd where
  nx : Nat
  cs : List (Nat × Cell)

def look (r : Nat) : List (Nat × Cell) → Option Cell
  | [] => none
  | p :: t => match Nat.beq p.1 r with
    | true => some p.2
    | false => look r t
def Hd.get (η : Hd) (r : Nat) : Option Cell := look r η.cs
def put (r : Nat) (c : Cell) : List (Nat × Cell) → List (Nat × Cell)
  | [] => []
  | p :: t => match Nat.beq p.1 r with
    | true => (r, c) :: t
    | false => p :: put r c t
def Hd.set (η : Hd) (r : Nat) (c : Cell) : Hd := ⟨η.nx, put r c η.cs⟩
def Hd.new (η : Hd) (c : Cell) : Hd := ⟨Nat.succ η.nx, (η.nx, c) :: η.cs⟩

theorem look_put (r : Nat) (c : Cell) (q : Nat) : ∀ l : List (Nat × Cell), look q (put r c l) = if q = r then (look r l).map (fun _ => c) else look q l
  | [] => by simp [put, look]
  | p :: t => by
    have ih := look_put r c q t
    unfold put
    cases e : Nat.beq p.1 r with
    | true =>
      have e' : p.1 = r := Nat.eq_of_beq_eq_true e
      by_cases h : q = r
      · subst h
        have e2 : Nat.beq q q = true := Nat.beq_refl q
        simp [look, e, e2]
      · have e2 : Nat.beq r q = false := by
          cases z : Nat.beq r q with
          | false => rfl
          | true => exact absurd (Nat.eq_of_beq_eq_true z).symm h
        have e3 : Nat.beq p.1 q = false := by rw [e']; exact e2
        simp [look, e2, e3, h]
    | false =>
      by_cases h : q = r
      · subst h
        simp only [look, e, ih, if_true]
      · simp only [look, ih, if_neg h]
theorem Hd.get_set (η : Hd) (r : Nat) (c : Cell) (q : Nat) : (η.set r c).get q = if q = r then (η.get r).map (fun _ => c) else η.get q := look_put r c q η.cs
theorem Hd.get_new (η : Hd) (c : Cell) (q : Nat) : (η.new c).get q = if q = η.nx then some c else η.get q := by
  unfold Hd.get Hd.new
  by_cases h : q = η.nx
  · subst h
    have e2 : Nat.beq η.nx η.nx = true := Nat.beq_refl _
    simp [look, e2]
  · have e2 : Nat.beq η.nx q = false := by
      cases z : Nat.beq η.nx q with
      | false => rfl
      | true => exact absurd (Nat.eq_of_beq_eq_true z).symm h
    simp [look, e2, h]

/-! ### worlds -/
structure Wl where
  μ : Nat → Addr
  η : Hd
  H : Hp

section
variable (W : Wl)
mutual
def RelD : D → V → Prop
  | .non, v => v = .non
  | .bl b, v => v = .bl b
  | .int i, v => v = .int i
  | .str x, v => v = .str x
  | .ref r, v => r < W.η.nx ∧ v = .ref (W.μ r)
  | .tup ds, v => ∃ a vs, v = .ref a ∧ W.H a = some (.tup vs) ∧ RelDs ds vs
  | .ftup ds, v => ∃ a vs o, v = .ref a ∧ W.H a = some (.frz o (.tup vs)) ∧ o.dict = none ∧ RelDs ds vs
def RelDs : List D → List V → Prop
  | [], vs => vs = []
  | d :: ds, vs => ∃ v vs', vs = v :: vs' ∧ RelD d v ∧ RelDs ds vs'
end
end
section
variable {K : PySem.W.Frag} {W : Wl}
theorem RelDs.length : ∀ {ds : List D} {vs : List V}, RelDs W ds vs → ds.length = vs.length
  | [], _, h => by rw [RelDs] at h; subst h; rfl
  | d :: ds, _, h => by
    rw [RelDs] at h
    obtain ⟨v, vs', rfl, _, h2⟩ := h
    simp [RelDs.length h2]
theorem RelDs.nil : RelDs W [] [] := by rw [RelDs]
theorem RelDs.cons {d : D} {ds : List D} {v : V} {vs : List V} (h : RelD W d v) (h2 : RelDs W ds vs) : RelDs W (d :: ds) (v :: vs) := by
  rw [RelDs]; exact ⟨v, vs, rfl, h, h2⟩
theorem RelDs.get : ∀ {ds : List D} {vs : List V} {i : Nat} {v : V}, RelDs W ds vs → vs[i]? = some v → ∃ d, ds[i]? = some d ∧ RelD W d v
  | [], _, i, v, h, e => by rw [RelDs] at h; subst h; simp at e
  | d :: ds, _, 0, v, h, e => by
    rw [RelDs] at h
    obtain ⟨v', vs', rfl, h1, h2⟩ := h
    simp at e; subst e
    exact ⟨d, rfl, h1⟩
  | d :: ds, _, i + 1, v, h, e => by
    rw [RelDs] at h
    obtain ⟨v', vs', rfl, h1, h2⟩ := h
    simp at e
    obtain ⟨d', e', r⟩ := RelDs.get h2 e
    exact ⟨d', by simpa using e', r⟩
theorem RelDs.get' : ∀ {ds : List D} {vs : List V} {i : Nat} {d : D}, RelDs W ds vs → ds[i]? = some d → ∃ v, vs[i]? = some v ∧ RelD W d v
  | [], _, i, v, h, e => by simp at e
  | d :: ds, _, 0, v, h, e => by
    rw [RelDs] at h
    obtain ⟨v', vs', rfl, h1, h2⟩ := h
    simp at e; subst e
    exact ⟨v', rfl, h1⟩
  | d :: ds, _, i + 1, v, h, e => by
    rw [RelDs] at h
    obtain ⟨v', vs', rfl, h1, h2⟩ := h
    simp at e
    obtain ⟨d', e', r⟩ := RelDs.get' h2 e
    exact ⟨d', by simpa using e', r⟩
theorem RelDs.append : ∀ {ds ds' : List D} {vs vs' : List V}, RelDs W ds vs → RelDs W ds' vs' → RelDs W (ds ++ ds') (vs ++ vs')
  | [], _, _, _, h, h2 => by rw [RelDs] at h; subst h; exact h2
  | d :: ds, _, _, _, h, h2 => by
    rw [RelDs] at h
    obtain ⟨v', vs', rfl, h1, h3⟩ := h
    exact RelDs.cons h1 (RelDs.append h3 h2)
theorem RelDs.take : ∀ {ds : List D} {vs : List V} (n : Nat), RelDs W ds vs → RelDs W (ds.take n) (vs.take n)
  | [], _, n, h => by rw [RelDs] at h; subst h; simp; exact .nil
  | d :: ds, _, 0, h => by simp; exact .nil
  | d :: ds, _, n + 1, h => by
    rw [RelDs] at h
    obtain ⟨v', vs', rfl, h1, h3⟩ := h
    exact RelDs.cons h1 (RelDs.take n h3)
theorem RelDs.drop : ∀ {ds : List D} {vs : List V} (n : Nat), RelDs W ds vs → RelDs W (ds.drop n) (vs.drop n)
  | [], _, n, h => by rw [RelDs] at h; subst h; simp; exact .nil
  | d :: ds, _, 0, h => h
  | d :: ds, _, n + 1, h => by
    rw [RelDs] at h
    obtain ⟨v', vs', rfl, h1, h3⟩ := h
    exact RelDs.drop n h3
theorem RelDs.set {d : D} {v : V} (r : RelD W d v) : ∀ {ds : List D} {vs : List V} (n : Nat), RelDs W ds vs → RelDs W (ds.set n d) (vs.set n v)
  | [], _, n, h => by rw [RelDs] at h; subst h; exact .nil
  | d :: ds, _, 0, h => by
    rw [RelDs] at h
    obtain ⟨v', vs', rfl, h1, h3⟩ := h
    exact RelDs.cons r h3
  | d :: ds, _, n + 1, h => by
    rw [RelDs] at h
    obtain ⟨v', vs', rfl, h1, h3⟩ := h
    exact RelDs.cons h1 (RelDs.set r n h3)
theorem RelDs.reverse {ds : List D} {vs : List V} (h : RelDs W ds vs) : RelDs W ds.reverse vs.reverse := by
  induction ds generalizing vs with
  | nil => rw [RelDs] at h; subst h; exact .nil
  | cons d ds ih =>
    rw [RelDs] at h
    obtain ⟨v', vs', rfl, h1, h3⟩ := h
    simp only [List.reverse_cons]
    exact (ih h3).append (RelDs.cons h1 .nil)
end

/-- tables of code objects: where, the name of its lambdas, the places of its lambdas -/
abbrev Tbl := List (Addr × Str × (Nat → Nat → Bool))
/-- in the table at P each code object that stands at a lambda's place bears the name q -/
def TabP (H : Hp) (P : Addr) (q : Str) (lam : Nat → Nat → Bool) : Prop := ∃ es : Array Value, H P = some (.tbl es) ∧ TriplesOk es.toList ∧ ∀ at_ : Pos, lam at_.line at_.col = true → ∀ cv : Value, codeAmong at_ es.toList = some cv → ∃ c, cv = .ref c ∧ H c = some (LamX.CodeO c q)
def Tabs (T : Tbl) (H : Hp) : Prop := ∀ e ∈ T, TabP H e.1 e.2.1 e.2.2
theorem TabP.nil {H : Hp} {P : Addr} {q : Str} {lam : Nat → Nat → Bool} (h : H P = some (.tbl #[])) : TabP H P q lam := ⟨#[], h, True.intro, fun at_ _ cv hc => by
  simp [codeAmong] at hc⟩
/-- one entry more at the end of a table: what is found is old, or it is the new one and it was asked for at its place -/
theorem among_snoc {new q : Pos} {c cv : Value} (l : List Value) (h : TriplesOk l) (hc : codeAmong q (l ++ [rawInt new.line, rawInt new.col, c]) = some cv) : codeAmong q l = some cv ∨ (cv = c ∧ new.line = q.line ∧ new.col = q.col) := by
  fun_induction TriplesOk l with
  | case1 =>
    simp only [List.nil_append, rawInt, codeAmong] at hc
    split at hc
    · rename_i z
      simp only [Bool.and_eq_true, beq_iff_eq] at z
      exact .inr ⟨(Option.some.inj hc).symm, by omega, by omega⟩
    · cases hc
  | case2 a t b u x rest ih =>
    simp only [List.cons_append, codeAmong] at hc ⊢
    split at hc
    · rename_i z; rw [if_pos z]; exact .inl hc
    · rename_i z; rw [if_neg z]; exact ih h hc
  | case3 l h1 h2 => exact h.elim
/-- the names of attributes by number; the classes by number -/
structure Names where
  fld : Nat → Str
  cls : Nat → Addr
  /-- the tables of code objects -/
  tabs : Tbl

def RelFs (W : Wl) (N : Names) : List (Nat × D) → List (Str × V) → Prop
  | [], fs => fs = []
  | (k, d) :: r, fs => ∃ v fs', fs = (N.fld k, v) :: fs' ∧ RelD W d v ∧ RelFs W N r fs'

/-! keys -/
def D.key : D → Option Key
  | .int i => some (.inl i)
  | .str s => some (.inr s)
  | _ => none
def keysOf : List D → Option (List Key)
  | [] => some []
  | d :: ds => match D.key d, keysOf ds with
    | some k, some ks => some (k :: ks)
    | _, _ => none
def D.tkey : D → Option (List Key)
  | .tup ds => keysOf ds
  | _ => none
def RelK (W : Wl) : List (D × D) → List (Key × V) → Prop
  | [], ps => ps = []
  | (k, d) :: r, ps => ∃ k' v ps', ps = (k', v) :: ps' ∧ k.key = some k' ∧ RelD W d v ∧ RelK W r ps'
def RelT (W : Wl) : List (D × D) → List (List Key × V) → Prop
  | [], ps => ps = []
  | (k, d) :: r, ps => ∃ k' v ps', ps = (k', v) :: ps' ∧ k.tkey = some k' ∧ RelD W d v ∧ RelT W r ps'

/-- what the address of a cell holds -/
def RelC (K : PySem.W.Frag) (N : Names) (W : Wl) (a : Addr) : Cell → Prop
  | .lst ds => ∃ vs, W.H a = some (.lst vs) ∧ RelDs W ds vs ∧ ds.length ≤ sizeLine
  | .frz ds => ∃ vs, W.H a = some (.lst vs) ∧ RelDs W ds vs ∧ ds.length ≤ sizeLine
  | .dice => ∃ x y z, W.H a = some (.lst [.int x, .int y, .int z])
  | .dct false kvs => ∃ ps, W.H a = some (.dK ps) ∧ RelK W kvs ps ∧ kvs.length ≤ sizeLine
  | .dct true kvs => ∃ ps, W.H a = some (.dT ps) ∧ RelT W kvs ps ∧ kvs.length ≤ sizeLine
  | .ldc false kvs => ∃ ps o, W.H a = some (.frz o (.dK ps)) ∧ RelK W kvs ps ∧ kvs.length ≤ sizeLine
  | .ldc true kvs => ∃ ps o, W.H a = some (.frz o (.dT ps)) ∧ RelT W kvs ps ∧ kvs.length ≤ sizeLine
  | .dcr ks => ∃ xs, W.H a = some (dObj a xs) ∧ xs.map (·.1) = ks ∧ (∀ x ∈ xs, RowsA W.H x.2.1 x.1) ∧ ks.Nodup ∧ (a == sysModules) = false ∧ ks.length ≤ sizeLine
  | .ins c fs => ∃ dx gs, W.H a = some (.ins (N.cls c) dx gs) ∧ RelFs W N fs gs ∧ fs.length ≤ 900

structure Wl.Ok (K : PySem.W.Frag) (N : Names) (W : Wl) : Prop where
  lt : ∀ r c, W.η.get r = some c → r < W.η.nx
  cell : ∀ r c, W.η.get r = some c → RelC K N W (W.μ r) c
  inj : ∀ r s c d, W.η.get r = some c → W.η.get s = some d → W.μ r = W.μ s → r = s
  tab : Tabs N.tabs W.H

/-- no table of code objects -/
def noT (o : HO) : Prop := ∀ ps, o ≠ .tbl ps
/-- nothing stands there, or a table -/
def NoC (H : Hp) (a : Addr) : Prop := ∀ o, H a = some o → ¬ noT o
theorem NoC.of {H : Hp} {a : Addr} (h : H a = none) : NoC H a := fun o e => by rw [h] at e; cases e

/-- what a step may do -/
structure Ext (W W' : Wl) : Prop where
  nx : W.η.nx ≤ W'.η.nx
  mu : ∀ r, r < W.η.nx → W'.μ r = W.μ r
  fr : ∀ a o, W.H a = some o → noT o → (∀ r c, W.η.get r = some c → c.mut = true → W.μ r ≠ a) → W'.H a = some o
  th : ∀ a o, W.H a = some o → noT o → ∃ o', W'.H a = some o' ∧ noT o'
  cs : ∀ r c, W'.η.get r = some c → (∃ c0, W.η.get r = some c0 ∧ (c.mut = true → c0.mut = true)) ∨ (W.η.nx ≤ r ∧ NoC W.H (W'.μ r))

theorem Ext.refl (W : Wl) : Ext W W := ⟨Nat.le_refl _, fun _ _ => rfl, fun _ _ h _ _ => h, fun _ o h t => ⟨o, h, t⟩, fun _ c h => .inl ⟨c, h, id⟩⟩
section
variable {K : PySem.W.Frag} {N : Names} {W W1 W2 W' : Wl}
theorem Ext.trans (o : W.Ok K N) (o1 : W1.Ok K N) (a : Ext W W1) (b : Ext W1 W2) : Ext W W2 where
  nx := Nat.le_trans a.nx b.nx
  mu := fun r h => (b.mu r (Nat.lt_of_lt_of_le h a.nx)).trans (a.mu r h)
  fr := fun x ob h ht hn => by
    refine b.fr x ob (a.fr x ob h ht hn) ht fun r c e m => ?_
    rcases a.cs r c e with ⟨c0, e0, m0⟩ | ⟨_, f⟩
    · rw [a.mu r (o.lt r c0 e0)]; exact hn r c0 e0 (m0 m)
    · intro z; exact f ob (by rw [z]; exact h) ht
  th := fun x ob h ht => by obtain ⟨o', h', t'⟩ := a.th x ob h ht; exact b.th x o' h' t'
  cs := fun r c e => by
    rcases b.cs r c e with ⟨c1, e1, m1⟩ | ⟨h1, f⟩
    · rcases a.cs r c1 e1 with ⟨c0, e0, m0⟩ | ⟨h2, f⟩
      · exact .inl ⟨c0, e0, fun m => m0 (m1 m)⟩
      · exact .inr ⟨h2, by rw [b.mu r (o1.lt r c1 e1)]; exact f⟩
    · refine .inr ⟨Nat.le_trans a.nx h1, fun ob q t => ?_⟩
      obtain ⟨o', h', t'⟩ := a.th _ _ q t
      exact f o' h' t'
/-- no cell stands where a tuple, a locked thing stands -/
theorem Wl.Ok.nocell (o : W.Ok K N) {a : Addr} {u : HO} (h : W.H a = some u) (hu : (∃ xs, u = .tup xs) ∨ (∃ ob v, u = .frz ob v) ∨ (∃ x, u = .own x)) : ∀ r c, W.η.get r = some c → c.mut = true → W.μ r ≠ a := by
  intro r c e m z
  have q := o.cell r c e
  rw [z] at q
  cases c with
  | frz _ => cases m
  | ldc _ _ => cases m
  | dcr ks => obtain ⟨vs, q, _⟩ := q; rw [h] at q; cases q; rcases hu with ⟨_, z⟩ | ⟨_, _, z⟩ | ⟨_, z⟩ <;> cases z
  | lst l => obtain ⟨vs, q, _⟩ := q; rw [h] at q; cases q; rcases hu with ⟨_, z⟩ | ⟨_, _, z⟩ | ⟨_, z⟩ <;> cases z
  | dice => obtain ⟨_, _, _, q⟩ := q; rw [h] at q; cases q; rcases hu with ⟨_, z⟩ | ⟨_, _, z⟩ | ⟨_, z⟩ <;> cases z
  | dct t l =>
    cases t
    · obtain ⟨vs, q, _⟩ := q; rw [h] at q; cases q; rcases hu with ⟨_, z⟩ | ⟨_, _, z⟩ | ⟨_, z⟩ <;> cases z
    · obtain ⟨vs, q, _⟩ := q; rw [h] at q; cases q; rcases hu with ⟨_, z⟩ | ⟨_, _, z⟩ | ⟨_, z⟩ <;> cases z
  | ins c fs => obtain ⟨_, _, q, _⟩ := q; rw [h] at q; cases q; rcases hu with ⟨_, z⟩ | ⟨_, _, z⟩ | ⟨_, z⟩ <;> cases z
theorem Ext.sqT (o : W.Ok K N) (x : Ext W W') {a : Addr} {vs : List V} (h : W.H a = some (.tup vs)) : W'.H a = some (.tup vs) :=
  x.fr a _ h (fun _ z => nomatch z) (o.nocell h (.inl ⟨_, rfl⟩))
mutual
theorem RelD.mono (o : W.Ok K N) (x : Ext W W') : ∀ {d : D} {v : V}, RelD W d v → RelD W' d v
  | .non, v, h => by rw [RelD] at *; exact h
  | .bl b, v, h => by rw [RelD] at *; exact h
  | .int i, v, h => by rw [RelD] at *; exact h
  | .str s, v, h => by rw [RelD] at *; exact h
  | .ref r, v, h => by rw [RelD] at *; exact ⟨Nat.lt_of_lt_of_le h.1 x.nx, by rw [x.mu r h.1]; exact h.2⟩
  | .tup ds, v, h => by
    rw [RelD] at *
    obtain ⟨a, vs, e, h1, h2⟩ := h
    exact ⟨a, vs, e, x.sqT o h1, RelDs.mono o x h2⟩
  | .ftup ds, v, h => by
    rw [RelD] at *
    obtain ⟨a, vs, ob, e, h1, h3, h2⟩ := h
    exact ⟨a, vs, ob, e, x.fr a _ h1 (fun _ z => nomatch z) (o.nocell h1 (.inr (.inl ⟨_, _, rfl⟩))), h3, RelDs.mono o x h2⟩
theorem RelDs.mono (o : W.Ok K N) (x : Ext W W') : ∀ {ds : List D} {vs : List V}, RelDs W ds vs → RelDs W' ds vs
  | [], vs, h => by rw [RelDs] at *; exact h
  | d :: ds, vs, h => by
    rw [RelDs] at *
    obtain ⟨v, vs', e, h1, h2⟩ := h
    exact ⟨v, vs', e, RelD.mono o x h1, RelDs.mono o x h2⟩
end
theorem RelFs.mono (o : W.Ok K N) (x : Ext W W') : ∀ {fs : List (Nat × D)} {gs : List (Str × V)}, RelFs W N fs gs → RelFs W' N fs gs
  | [], vs, h => by rw [RelFs] at *; exact h
  | (k, d) :: ds, vs, h => by
    rw [RelFs] at *
    obtain ⟨v, vs', e, h1, h2⟩ := h
    exact ⟨v, vs', e, RelD.mono o x h1, RelFs.mono o x h2⟩
theorem RelK.mono (o : W.Ok K N) (x : Ext W W') : ∀ {fs : List (D × D)} {gs : List (Key × V)}, RelK W fs gs → RelK W' fs gs
  | [], vs, h => by rw [RelK] at *; exact h
  | (k, d) :: ds, vs, h => by
    rw [RelK] at *
    obtain ⟨k', v, vs', e, h0, h1, h2⟩ := h
    exact ⟨k', v, vs', e, h0, RelD.mono o x h1, RelK.mono o x h2⟩
theorem RelT.mono (o : W.Ok K N) (x : Ext W W') : ∀ {fs : List (D × D)} {gs : List (List Key × V)}, RelT W fs gs → RelT W' fs gs
  | [], vs, h => by rw [RelT] at *; exact h
  | (k, d) :: ds, vs, h => by
    rw [RelT] at *
    obtain ⟨k', v, vs', e, h0, h1, h2⟩ := h
    exact ⟨k', v, vs', e, h0, RelD.mono o x h1, RelT.mono o x h2⟩
theorem TupA.mono (o : W.Ok K N) (x : Ext W W') {a : Addr} {vs : List V} (h : TupA W.H a vs) : TupA W'.H a vs :=
  x.sqT o h
theorem RowsV.mono (o : W.Ok K N) (x : Ext W W') : ∀ {k : RK} {vs : List V}, RowsV W.H k vs → RowsV W'.H k vs
  | [], vs, h => by rw [RowsV] at *; exact h
  | k :: ks, vs, h => by
    rw [RowsV] at *
    obtain ⟨c, vs', e, h1, h2⟩ := h
    exact ⟨c, vs', e, h1.mono o x, RowsV.mono o x h2⟩
theorem RowsA.mono (o : W.Ok K N) (x : Ext W W') {a : Addr} {k : RK} (h : RowsA W.H a k) : RowsA W'.H a k := by
  obtain ⟨vs, h1, h2⟩ := h
  exact ⟨vs, h1.mono o x, h2.mono o x⟩
/-- a cell's relation where its address is as it was -/
theorem RelC.mono (o : W.Ok K N) (x : Ext W W') {a : Addr} {c : Cell} (h : RelC K N W a c) (e : ∀ ob, noT ob → W.H a = some ob → W'.H a = some ob) : RelC K N W' a c := by
  cases c with
  | lst l => obtain ⟨vs, h1, h2, h3⟩ := h; exact ⟨vs, e _ (fun _ z => nomatch z) h1, h2.mono o x, h3⟩
  | frz l => obtain ⟨vs, h1, h2, h3⟩ := h; exact ⟨vs, e _ (fun _ z => nomatch z) h1, h2.mono o x, h3⟩
  | dice => obtain ⟨p, q, r, h⟩ := h; exact ⟨p, q, r, e _ (fun _ z => nomatch z) h⟩
  | dct t l =>
    cases t
    · obtain ⟨vs, h1, h2, h3⟩ := h; exact ⟨vs, e _ (fun _ z => nomatch z) h1, h2.mono o x, h3⟩
    · obtain ⟨vs, h1, h2, h3⟩ := h; exact ⟨vs, e _ (fun _ z => nomatch z) h1, h2.mono o x, h3⟩
  | ldc t l =>
    cases t
    · obtain ⟨vs, ob, h1, h2, h3⟩ := h; exact ⟨vs, ob, e _ (fun _ z => nomatch z) h1, h2.mono o x, h3⟩
    · obtain ⟨vs, ob, h1, h2, h3⟩ := h; exact ⟨vs, ob, e _ (fun _ z => nomatch z) h1, h2.mono o x, h3⟩
  | dcr ks => obtain ⟨xs, h1, h2, h3, h4⟩ := h; exact ⟨xs, e _ (fun _ z => nomatch z) h1, h2, fun y hy => (h3 y hy).mono o x, h4⟩
  | ins c l => obtain ⟨dx, vs, h1, h2, h3⟩ := h; exact ⟨dx, vs, e _ (fun _ z => nomatch z) h1, h2.mono o x, h3⟩

/-- a cell's address is tracked -/
theorem Wl.Ok.there (o : W.Ok K N) {r : Nat} {c : Cell} (h : W.η.get r = some c) : ∃ ob, W.H (W.μ r) = some ob ∧ noT ob := by
  have q := o.cell r c h
  cases c with
  | frz l => obtain ⟨vs, q, _⟩ := q; exact ⟨_, q, fun _ z => nomatch z⟩
  | lst l => obtain ⟨vs, q, _⟩ := q; exact ⟨_, q, fun _ z => nomatch z⟩
  | dice => obtain ⟨_, _, _, q⟩ := q; exact ⟨_, q, fun _ z => nomatch z⟩
  | dct t l =>
    cases t
    · obtain ⟨vs, q, _⟩ := q; exact ⟨_, q, fun _ z => nomatch z⟩
    · obtain ⟨vs, q, _⟩ := q; exact ⟨_, q, fun _ z => nomatch z⟩
  | ldc t l =>
    cases t
    · obtain ⟨vs, ob, q, _⟩ := q; exact ⟨_, q, fun _ z => nomatch z⟩
    · obtain ⟨vs, ob, q, _⟩ := q; exact ⟨_, q, fun _ z => nomatch z⟩
  | dcr ks => obtain ⟨xs, q, _⟩ := q; exact ⟨_, q, fun _ z => nomatch z⟩
  | ins c fs => obtain ⟨_, _, q, _⟩ := q; exact ⟨_, q, fun _ z => nomatch z⟩
theorem Wl.Ok.noTab (o : W.Ok K N) {r : Nat} {c : Cell} {u : HO} (h : W.η.get r = some c) (hu : W.H (W.μ r) = some u) (z : (∃ ps, u = .tbl ps) ∨ (∃ c q, u = LamX.CodeO c q)) : False := by
  have q := o.cell r c h
  cases c with
  | frz l => obtain ⟨vs, q, _⟩ := q; rw [hu] at q; cases q; rcases z with ⟨_, z⟩ | ⟨_, _, z⟩ <;> cases z
  | lst l => obtain ⟨vs, q, _⟩ := q; rw [hu] at q; cases q; rcases z with ⟨_, z⟩ | ⟨_, _, z⟩ <;> cases z
  | dice => obtain ⟨_, _, _, q⟩ := q; rw [hu] at q; cases q; rcases z with ⟨_, z⟩ | ⟨_, _, z⟩ <;> cases z
  | dct t l =>
    cases t
    · obtain ⟨vs, q, _⟩ := q; rw [hu] at q; cases q; rcases z with ⟨_, z⟩ | ⟨_, _, z⟩ <;> cases z
    · obtain ⟨vs, q, _⟩ := q; rw [hu] at q; cases q; rcases z with ⟨_, z⟩ | ⟨_, _, z⟩ <;> cases z
  | ldc t l =>
    cases t
    · obtain ⟨vs, ob, q, _⟩ := q; rw [hu] at q; cases q; rcases z with ⟨_, z⟩ | ⟨_, _, z⟩ <;> cases z
    · obtain ⟨vs, ob, q, _⟩ := q; rw [hu] at q; cases q; rcases z with ⟨_, z⟩ | ⟨_, _, z⟩ <;> cases z
  | dcr ks => obtain ⟨xs, q, _⟩ := q; rw [hu] at q; cases q; rcases z with ⟨_, z⟩ | ⟨_, _, z⟩; · cases z
              · exact dObj_code z
  | ins c fs => obtain ⟨_, _, q, _⟩ := q; rw [hu] at q; cases q; rcases z with ⟨_, z⟩ | ⟨_, _, z⟩ <;> cases z
/-- another cell does not stand there -/
theorem Wl.Ok.apart (o : W.Ok K N) {r q : Nat} {c d : Cell} (h : W.η.get r = some c) (h2 : W.η.get q = some d) (ne : q ≠ r) : W.μ q ≠ W.μ r := fun z => ne (o.inj q r d c h2 h z)
theorem tabs_keep {T : Tbl} {H H' : Hp} (t : Tabs T H) (k : ∀ b o, H b = some o → (∃ ps, o = .tbl ps) ∨ (∃ c q, o = LamX.CodeO c q) → H' b = some o) : Tabs T H' := fun e he => by
  obtain ⟨ps, h1, h2, h3⟩ := t e he
  refine ⟨ps, k _ _ h1 (.inl ⟨ps, rfl⟩), h2, fun at_ hl cv hc => ?_⟩
  obtain ⟨c, e1, e2⟩ := h3 at_ hl cv hc
  exact ⟨c, e1, k _ _ e2 (.inr ⟨_, _, rfl⟩)⟩
/-! ### the steps of worlds -/
/-- something new that is no cell -/
def Wl.lay (W : Wl) (p : Addr) (o : HO) : Wl := ⟨W.μ, W.η, upd W.H p o⟩
theorem Wl.Ok.lay (o : W.Ok K N) {p : Addr} {ob : HO} (hp : W.H p = none) : Ext W (W.lay p ob) ∧ (W.lay p ob).Ok K N := by
  have up : ∀ a x, W.H a = some x → (W.lay p ob).H a = some x := fun a x e => by
    show upd W.H p ob a = some x
    rw [upd_ne (ne_of_none e hp)]; exact e
  have x : Ext W (W.lay p ob) := ⟨Nat.le_refl _, fun _ _ => rfl, fun a u h _ _ => up a u h, fun a u h t => ⟨u, up a u h, t⟩, fun r c h => .inl ⟨c, h, id⟩⟩
  exact ⟨x, o.lt, fun r c e => (o.cell r c e).mono o x (fun ob _ => up _ ob), o.inj, tabs_keep o.tab fun b u h _ => up b u h⟩
/-- a new cell -/
def Wl.new (W : Wl) (p : Addr) (c : Cell) (o : HO) : Wl := ⟨fun r => if r = W.η.nx then p else W.μ r, W.η.new c, upd W.H p o⟩
theorem Wl.Ok.new (o : W.Ok K N) {p : Addr} {c : Cell} {ob : HO} (hp : W.H p = none) (hc : RelC K N (W.new p c ob) p c) : Ext W (W.new p c ob) ∧ (W.new p c ob).Ok K N := by
  have up : ∀ a x, W.H a = some x → (W.new p c ob).H a = some x := fun a x e => by
    show upd W.H p ob a = some x
    rw [upd_ne (ne_of_none e hp)]; exact e
  have mu : ∀ r, r < W.η.nx → (W.new p c ob).μ r = W.μ r := fun r h => by
    show (if r = W.η.nx then p else W.μ r) = W.μ r
    rw [if_neg (Nat.ne_of_lt h)]
  have gn : ∀ r, (W.new p c ob).η.get r = if r = W.η.nx then some c else W.η.get r := fun r => Hd.get_new _ _ _
  have x : Ext W (W.new p c ob) := by
    refine ⟨Nat.le_succ _, mu, fun a u h _ _ => up a u h, fun a u h t => ⟨u, up a u h, t⟩, fun r d h => ?_⟩
    rw [gn] at h
    by_cases e : r = W.η.nx
    · refine .inr ⟨Nat.le_of_eq e.symm, ?_⟩
      show NoC W.H (if r = W.η.nx then p else W.μ r)
      rw [if_pos e]; exact NoC.of hp
    · rw [if_neg e] at h
      exact .inl ⟨d, h, id⟩
  have pn : ∀ r d, W.η.get r = some d → W.μ r ≠ p := fun r d e => by
    obtain ⟨ob, q, _⟩ := o.there e
    exact ne_of_none q hp
  have mn : (W.new p c ob).μ W.η.nx = p := by
    show (if W.η.nx = W.η.nx then p else W.μ W.η.nx) = p
    rw [if_pos rfl]
  refine ⟨x, fun r d e => ?_, fun r d e => ?_, fun r s c1 d h1 h2 e => ?_, tabs_keep o.tab fun b u h _ => up b u h⟩
  · rw [gn] at e
    show r < Nat.succ W.η.nx
    by_cases h : r = W.η.nx
    · omega
    · rw [if_neg h] at e
      have := o.lt r d e; omega
  · rw [gn] at e
    by_cases h : r = W.η.nx
    · rw [if_pos h] at e; cases e
      rw [h, mn]; exact hc
    · rw [if_neg h] at e
      rw [mu r (o.lt r d e)]
      exact (o.cell r d e).mono o x (fun ob _ => up _ ob)
  · rw [gn] at h1 h2
    by_cases hr : r = W.η.nx
    · by_cases hs : s = W.η.nx
      · exact hr.trans hs.symm
      · rw [if_neg hs] at h2
        rw [hr, mn, mu s (o.lt s d h2)] at e
        exact absurd e.symm (pn s d h2)
    · rw [if_neg hr] at h1
      by_cases hs : s = W.η.nx
      · rw [hs, mn, mu r (o.lt r c1 h1)] at e
        exact absurd e (pn r c1 h1)
      · rw [if_neg hs] at h2
        rw [mu r (o.lt r c1 h1), mu s (o.lt s d h2)] at e
        exact o.inj r s c1 d h1 h2 e
theorem Wl.new_mu (W : Wl) (p : Addr) (c : Cell) (o : HO) : (W.new p c o).μ W.η.nx = p := by
  show (if W.η.nx = W.η.nx then p else W.μ W.η.nx) = p
  rw [if_pos rfl]
theorem Wl.new_ref (W : Wl) (p : Addr) (c : Cell) (o : HO) : RelD (W.new p c o) (.ref W.η.nx) (.ref p) := by
  rw [RelD]; exact ⟨Nat.lt_succ_self _, by rw [Wl.new_mu]⟩
/-- a cell changed -/
def Wl.put (W : Wl) (r : Nat) (c : Cell) (o : HO) : Wl := ⟨W.μ, W.η.set r c, upd W.H (W.μ r) o⟩
theorem Wl.Ok.put (o : W.Ok K N) {r : Nat} {c0 c : Cell} {ob : HO} (h0 : W.η.get r = some c0) (m0 : c0.mut = true) (hc : Ext W (W.put r c ob) → RelC K N (W.put r c ob) (W.μ r) c) (ht : noT ob := by intro _ z; cases z) : Ext W (W.put r c ob) ∧ (W.put r c ob).Ok K N := by
  have ne : ∀ a, a ≠ W.μ r → (W.put r c ob).H a = W.H a := fun a h => upd_ne h
  have gs : ∀ q, (W.put r c ob).η.get q = if q = r then some c else W.η.get q := fun q => by
    have := Hd.get_set W.η r c q
    rw [h0] at this
    exact this
  have x : Ext W (W.put r c ob) := by
    refine ⟨Nat.le_refl _, fun _ _ => rfl, fun a u h _ hn => ?_, fun a u h t => ?_, fun q d h => ?_⟩
    · rw [ne a (Ne.symm (hn r c0 h0 m0))]; exact h
    · by_cases z : a = W.μ r
      · exact ⟨ob, by rw [z]; exact upd_same, ht⟩
      · exact ⟨u, by rw [ne a z]; exact h, t⟩
    · rw [gs] at h
      by_cases z : q = r
      · rw [z]; exact .inl ⟨c0, h0, fun _ => m0⟩
      · rw [if_neg z] at h; exact .inl ⟨d, h, id⟩
  have hc := hc x
  refine ⟨x, fun q d e => ?_, fun q d e => ?_, fun q s c1 d h1 h2 e => ?_, tabs_keep o.tab fun b u h hu => ?_⟩
  · rw [gs] at e
    by_cases z : q = r
    · rw [z]; exact o.lt r c0 h0
    · rw [if_neg z] at e; exact o.lt q d e
  · rw [gs] at e
    by_cases z : q = r
    · rw [if_pos z] at e; cases e; rw [z]; exact hc
    · rw [if_neg z] at e
      exact (o.cell q d e).mono o x (fun ob' _ h' => by rw [ne _ (o.apart h0 e z)]; exact h')
  · rw [gs] at h1 h2
    have e' : W.μ q = W.μ s := e
    by_cases zq : q = r
    · by_cases zs : s = r
      · exact zq.trans zs.symm
      · rw [if_neg zs] at h2
        exact o.inj q s c0 d (by rw [zq]; exact h0) h2 e'
    · rw [if_neg zq] at h1
      by_cases zs : s = r
      · exact o.inj q s c1 c0 h1 (by rw [zs]; exact h0) e'
      · rw [if_neg zs] at h2
        exact o.inj q s c1 d h1 h2 e'
  · rw [ne b (fun z => o.noTab h0 (by rw [← z]; exact h) hu)]; exact h
/-- cells dropped: what is left of a world -/
theorem Ext.drop {η' : Hd} (x : Ext W W') (o' : W'.Ok K N) (nx : η'.nx = W'.η.nx) (sub : ∀ r c, η'.get r = some c → W'.η.get r = some c) : Ext W ⟨W'.μ, η', W'.H⟩ ∧ Wl.Ok K N ⟨W'.μ, η', W'.H⟩ := by
  have y : Ext W' ⟨W'.μ, η', W'.H⟩ := ⟨Nat.le_of_eq nx.symm, fun _ _ => rfl, fun _ _ h _ _ => h, fun a u h t => ⟨u, h, t⟩, fun r c h => .inl ⟨c, sub r c h, id⟩⟩
  refine ⟨⟨by rw [show (Wl.mk W'.μ η' W'.H).η.nx = W'.η.nx from nx]; exact x.nx, x.mu, x.fr, x.th, fun r c h => x.cs r c (sub r c h)⟩, fun r c h => ?_, fun r c h => ?_, fun r s c d h1 h2 e => ?_, o'.tab⟩
  · have := o'.lt r c (sub r c h); show r < η'.nx; omega
  · exact (o'.cell r c (sub r c h)).mono o' y (fun _ _ h => h)
  · exact o'.inj r s c d (sub r c h1) (sub s d h2) e
end

end DL

/-! judgements: a piece of syntax and what it computes over values as trees -/
namespace DL
open PySem PySem.Spec L2

/-- an exception: its class, its one field -/
structure Xc where
  c : Nat
  p : Option D
abbrev SD := List (Option D)
abbrev KV := D → Hd → Bool
abbrev KX := Xc → Hd → Bool
abbrev CE := SD → Hd → KV → KX → Bool
abbrev CT := SD → Hd → (Bool → Hd → Bool) → KX → Bool
abbrev CA := SD → Hd → (List D → Hd → Bool) → KX → Bool
structure KS where
  nx : SD → Hd → Bool
  rt : KV
  bk : SD → Hd → Bool
  ct : SD → Hd → Bool
  xc : KX
abbrev CS := SD → Hd → KS → Bool

structure Nm extends Names where
  xf : Nat → Str

def RelX (N : Nm) (W : Wl) (x : Xc) (cls : Value) (dd : Option Addr) : Prop :=
  cls = .ref (N.cls x.c) ∧ match x.p with
  | none => dd = none
  | some d => ∃ a v, dd = some a ∧ W.H a = some (.xd [(N.xf x.c, v)]) ∧ RelD W d v
structure RelS (W : Wl) (σd : SD) (σ : St) : Prop where
  len : σd.length = σ.length
  get : ∀ (i : Nat) (d : D), σd[i]? = some (some d) → ∃ v, σ[i]? = some (some v) ∧ RelD W d v
theorem RelS.mono {K : PySem.W.Frag} {N : Names} {W W' : Wl} {σd : SD} {σ : St} (o : W.Ok K N) (x : Ext W W') (h : RelS W σd σ) : RelS W' σd σ :=
  ⟨h.len, fun i d e => by obtain ⟨v, e', r⟩ := h.get i d e; exact ⟨v, e', r.mono o x⟩⟩
theorem RelS.set {W : Wl} {σd : SD} {σ : St} {d : D} {v : V} (h : RelS W σd σ) (i : Nat) (r : RelD W d v) : RelS W (σd.set i (some d)) (σ.set i (some v)) := by
  refine ⟨by simpa using h.len, fun j e q => ?_⟩
  by_cases z : i = j
  · subst z
    by_cases hi : i < σd.length
    · rw [List.getElem?_set_self hi] at q; cases q
      exact ⟨v, List.getElem?_set_self (by rw [← h.len]; exact hi), r⟩
    · rw [List.getElem?_eq_none (by simpa using Nat.le_of_not_lt hi)] at q; cases q
  · rw [List.getElem?_set_ne z] at q
    obtain ⟨v', e', r'⟩ := h.get j e q
    exact ⟨v', by rw [List.getElem?_set_ne z]; exact e', r'⟩
/-- the frame of values forgotten at a slot -/
theorem RelS.none_at {W : Wl} {σd : SD} {σ : St} (h : RelS W σd σ) (i : Nat) (x : Option V) : RelS W (σd.set i none) (σ.set i x) := by
  refine ⟨by simpa using h.len, fun j e q => ?_⟩
  by_cases z : i = j
  · subst z
    by_cases hi : i < σd.length
    · rw [List.getElem?_set_self hi] at q; cases q
    · rw [List.getElem?_eq_none (by simpa using Nat.le_of_not_lt hi)] at q; cases q
  · rw [List.getElem?_set_ne z] at q
    obtain ⟨v', e', r'⟩ := h.get j e q
    exact ⟨v', by rw [List.getElem?_set_ne z]; exact e', r'⟩

section
variable (K : PySem.W.Frag) (N : Nm) (E : XK)
/-- what is wanted behind: of a value, of an exception -/
def Vk (W : Wl) (kv : KV) (Q : VK) : Prop := ∀ W' d v, Ext W W' → W'.Ok K N.toNames → RelD W' d v → kv d W'.η = true → Q v W'.H
def Xk (W : Wl) (kx : KX) : Prop := ∀ W' x cls dd, Ext W W' → W'.Ok K N.toNames → RelX N W' x cls dd → kx x W'.η = true → E cls dd W'.H
def tE (c : CE) : TE := fun σ H Q => ∃ W σd kv kx, W.H = H ∧ W.Ok K N.toNames ∧ RelS W σd σ ∧ c σd W.η kv kx = true ∧ Vk K N W kv Q ∧ Xk K N E W kx
def tT (c : CT) : TT := fun σ H Q => ∃ W σd kv kx, W.H = H ∧ W.Ok K N.toNames ∧ RelS W σd σ ∧ c σd W.η kv kx = true ∧ (∀ W' b, Ext W W' → W'.Ok K N.toNames → kv b W'.η = true → Q b W'.H) ∧ Xk K N E W kx
def tAr (c : CA) : TA := fun σ H Q => ∃ W σd kv kx, W.H = H ∧ W.Ok K N.toNames ∧ RelS W σd σ ∧ c σd W.η kv kx = true ∧ (∀ W' ds vs, Ext W W' → W'.Ok K N.toNames → RelDs W' ds vs → kv ds W'.η = true → Q vs W'.H) ∧ Xk K N E W kx
/-- what is wanted behind a statement -/
structure Sk (W : Wl) (k : KS) (Z : Ends) : Prop where
  nx : ∀ W' σd σ, Ext W W' → W'.Ok K N.toNames → RelS W' σd σ → k.nx σd W'.η = true → Z.nx σ W'.H
  rt : Vk K N W k.rt Z.rt
  bk : ∀ W' σd σ, Ext W W' → W'.Ok K N.toNames → RelS W' σd σ → k.bk σd W'.η = true → Z.bk σ W'.H
  ct : ∀ W' σd σ, Ext W W' → W'.Ok K N.toNames → RelS W' σd σ → k.ct σd W'.η = true → Z.ct σ W'.H
  xc : Xk K N E W k.xc
def tS (c : CS) : TS := fun Z σ H => ∃ W σd k, W.H = H ∧ W.Ok K N.toNames ∧ RelS W σd σ ∧ c σd W.η k = true ∧ Sk K N E W k Z
end
def JE (X : Cx) (N : Nm) (E : XK) (e : Expr) (c : CE) : Prop := PE X e (tE X.K N E c)
def JT (X : Cx) (N : Nm) (E : XK) (e : Expr) (c : CT) : Prop := PT X e (tT X.K N E c)
def JA (X : Cx) (N : Nm) (E : XK) (es : List Expr) (c : CA) : Prop := PA X es (tAr X.K N E c)
def JS (X : Cx) (N : Nm) (E : XK) (st : Stmt) (c : CS) : Prop := PS X st (tS X.K N E c)
def JB (X : Cx) (N : Nm) (E : XK) (st : List Stmt) (c : CS) : Prop := PSs X st (tS X.K N E c)

theorem PE.imp {X : Cx} {e : Expr} {t t' : TE} (h : PE X e t) (f : ∀ σ H Q, t' σ H Q → t σ H Q) : PE X e t' := ⟨fun pins s σ H Q I q => h.run pins s σ H Q I (f σ H Q q)⟩
theorem PT.imp {X : Cx} {e : Expr} {t t' : TT} (h : PT X e t) (f : ∀ σ H Q, t' σ H Q → t σ H Q) : PT X e t' := ⟨fun pins s σ H Q I q => h.run pins s σ H Q I (f σ H Q q)⟩
theorem PW.imp {X : Cx} {e : Expr} {t t' : TT} (h : PW X e t) (f : ∀ σ H Q, t' σ H Q → t σ H Q) : PW X e t' := ⟨fun wh pins s σ H Q I q => h.run wh pins s σ H Q I (f σ H Q q)⟩
theorem PA.imp {X : Cx} {e : List Expr} {t t' : TA} (h : PA X e t) (f : ∀ σ H Q, t' σ H Q → t σ H Q) : PA X e t' := ⟨fun pos pins s σ H Q I q => h.run pos pins s σ H Q I (f σ H Q q)⟩
theorem PS.imp {X : Cx} {e : Stmt} {t t' : TS} (h : PS X e t) (f : ∀ D σ H, t' D σ H → t D σ H) : PS X e t' := ⟨fun pins s σ H D I q => h.run pins s σ H D I (f D σ H q)⟩
theorem PSs.imp {X : Cx} {e : List Stmt} {t t' : TS} (h : PSs X e t) (f : ∀ D σ H, t' D σ H → t D σ H) : PSs X e t' := ⟨fun pins s σ H D I q => h.run pins s σ H D I (f D σ H q)⟩

section
variable {K : PySem.W.Frag} {N : Nm} {E : XK} {W W' : Wl} {kv : KV} {kx : KX} {Q : VK}
theorem Vk.mono (o : W.Ok K N.toNames) (o' : W'.Ok K N.toNames) (x : Ext W W') (h : Vk K N W kv Q) : Vk K N W' kv Q := fun W2 d v y => h W2 d v (x.trans o o' y)
theorem Xk.mono (o : W.Ok K N.toNames) (o' : W'.Ok K N.toNames) (x : Ext W W') (h : Xk K N E W kx) : Xk K N E W' kx := fun W2 d v dd y => h W2 d v dd (x.trans o o' y)
theorem Vk.here (o : W.Ok K N.toNames) (h : Vk K N W kv Q) {d : D} {v : V} (r : RelD W d v) (e : kv d W.η = true) : Q v W.H := h W d v (Ext.refl W) o r e
theorem Sk.mono {k : KS} {Z : Ends} (o : W.Ok K N.toNames) (o' : W'.Ok K N.toNames) (x : Ext W W') (h : Sk K N E W k Z) : Sk K N E W' k Z :=
  ⟨fun W2 a b y => h.nx W2 a b (x.trans o o' y), h.rt.mono o o' x, fun W2 a b y => h.bk W2 a b (x.trans o o' y), fun W2 a b y => h.ct W2 a b (x.trans o o' y), h.xc.mono o o' x⟩
/-- a part is read, then the rest -/
theorem tE.bind {c : CE} {σ : St} {σd : SD} {Q' : VK} (o : W.Ok K N.toNames) (s : RelS W σd σ) (hx : Xk K N E W kx) (h : c σd W.η kv kx = true)
    (hq : ∀ W' d v, Ext W W' → W'.Ok K N.toNames → RelD W' d v → RelS W' σd σ → Xk K N E W' kx → kv d W'.η = true → Q' v W'.H) : tE K N E c σ W.H Q' :=
  ⟨W, σd, kv, kx, rfl, o, s, h, fun W' d v x o' r e => hq W' d v x o' r (s.mono o x) (hx.mono o o' x) e, hx⟩
theorem tT.bind {c : CT} {kt : Bool → Hd → Bool} {σ : St} {σd : SD} {Q' : Bool → Hp → Prop} (o : W.Ok K N.toNames) (s : RelS W σd σ) (hx : Xk K N E W kx) (h : c σd W.η kt kx = true)
    (hq : ∀ W' b, Ext W W' → W'.Ok K N.toNames → RelS W' σd σ → Xk K N E W' kx → kt b W'.η = true → Q' b W'.H) : tT K N E c σ W.H Q' :=
  ⟨W, σd, kt, kx, rfl, o, s, h, fun W' b x o' e => hq W' b x o' (s.mono o x) (hx.mono o o' x) e, hx⟩
theorem tAr.bind {c : CA} {kt : List D → Hd → Bool} {σ : St} {σd : SD} {Q' : List V → Hp → Prop} (o : W.Ok K N.toNames) (s : RelS W σd σ) (hx : Xk K N E W kx) (h : c σd W.η kt kx = true)
    (hq : ∀ W' ds vs, Ext W W' → W'.Ok K N.toNames → RelDs W' ds vs → RelS W' σd σ → Xk K N E W' kx → kt ds W'.η = true → Q' vs W'.H) : tAr K N E c σ W.H Q' :=
  ⟨W, σd, kt, kx, rfl, o, s, h, fun W' ds vs x o' r e => hq W' ds vs x o' r (s.mono o x) (hx.mono o o' x) e, hx⟩
end

/-! ### names, constants -/
def cVar (i : Nat) : CE := fun σ η kv _ => match σ[i]? with
  | some (some d) => kv d η
  | _ => false
def cC (d : D) : CE := fun _ η kv _ => kv d η
section
variable {X : Cx} {N : Nm} {E : XK}
theorem je_var {e : Expr} (i : Nat) (h : PE X e (tVar i)) : JE X N E e (cVar i) := PE.imp h fun σ H Q q => by
  obtain ⟨W, σd, kv, kx, rfl, o, s, h, hv, hx⟩ := q
  unfold cVar at h
  cases e : σd[i]? with
  | none => rw [e] at h; cases h
  | some x =>
    cases x with
    | none => rw [e] at h; cases h
    | some d =>
      rw [e] at h
      obtain ⟨v, e', r⟩ := s.get i d e
      exact ⟨v, e', hv.here o r h⟩
theorem je_c {e : Expr} {v : V} {d : D} (h : PE X e (tC v)) (r : ∀ W, RelD W d v) : JE X N E e (cC d) := PE.imp h fun σ H Q q => by
  obtain ⟨W, σd, kv, kx, rfl, o, s, h, hv, hx⟩ := q
  exact hv.here o (r W) h
theorem je_int {i : Int} {j pos} : JE X N E (.Constant (.int i) j pos) (cC (.int i)) := je_c pe_int fun W => by rw [RelD]
theorem je_bl {b : Bool} {j pos} : JE X N E (.Constant (.bool b) j pos) (cC (.bl b)) := je_c pe_bl fun W => by rw [RelD]
theorem je_str {x : Str} {j pos} : JE X N E (.Constant (.str x) j pos) (cC (.str x)) := je_c pe_str fun W => by rw [RelD]

/-! ### operators by values -/
/-- what an operator makes of two values; none: nothing is said -/
abbrev F2 := D → D → Hd → Option (D × Hd)
def r2 (K : PySem.W.Frag) (N : Nm) (f : F2) : R2 := fun x y H Q => ∃ W dx dy d η', W.H = H ∧ W.Ok K N.toNames ∧ RelD W dx x ∧ RelD W dy y ∧ f dx dy W.η = some (d, η') ∧
  (∀ W' v, Ext W W' → W'.Ok K N.toNames → W'.η = η' → RelD W' d v → Q v W'.H)
def cOp (f : F2) (a b : CE) : CE := fun σ η kv kx => a σ η (fun x η1 => b σ η1 (fun y η2 => match f x y η2 with
  | some (d, η3) => kv d η3
  | none => false) kx) kx
theorem tOp_of {f : F2} {ca cb : CE} {K : PySem.W.Frag} {σ : St} {H : Hp} {Q : VK} (h : tE K N E (cOp f ca cb) σ H Q) : tOp (r2 K N f) (tE K N E ca) (tE K N E cb) σ H Q := by
  obtain ⟨W, σd, kv, kx, rfl, o, s, h, hv, hx⟩ := h
  refine tE.bind o s hx h fun W1 dx x x1 o1 r1 s1 hx1 h1 => ?_
  refine tE.bind o1 s1 hx1 h1 fun W2 dy y x2 o2 r2' s2 hx2 h2 => ?_
  cases e : f dx dy W2.η with
  | none => rw [e] at h2; cases h2
  | some p =>
    obtain ⟨d, η'⟩ := p
    rw [e] at h2
    exact ⟨W2, dx, dy, d, η', rfl, o2, r1.mono o1 x2, r2', e, fun W' v x3 o3 e3 r3 => hv W' d v (x1.trans o o1 (x2.trans o1 o2 x3)) o3 r3 (by rw [e3]; exact h2)⟩
theorem je_op {op : Operator} {f : F2} {a b : Expr} {ca cb : CE} {pos : Pos} (ho : OpR X (binaryOp op) (r2 X.K N f)) (ha : JE X N E a ca) (hb : JE X N E b cb) : JE X N E (.BinOp a op b pos) (cOp f ca cb) :=
  PE.imp (pe_op ho ha hb) fun σ H Q q => tOp_of q
theorem je_cmp {op : CmpOp} {f : F2} {a b : Expr} {ca cb : CE} {pos : Pos} (ho : OpR X (compareOp op) (r2 X.K N f)) (ha : JE X N E a ca) (hb : JE X N E b cb) (hm : behindInMarks op b = false) : JE X N E (.Compare a [op] [b] pos) (cOp f ca cb) :=
  PE.imp (pe_cmpR ho ha hb hm) fun σ H Q q => tOp_of q
end
end DL

/-! operators -/
namespace DL
open PySem PySem.Spec L2
section
variable {X : Cx} {N : Nm} {E : XK}
theorem OpR.imp {f : Value → Value → Sem Value} {r r' : R2} (h : OpR X f r) (i : ∀ x y H Q, r' x y H Q → r x y H Q) : OpR X f r' :=
  fun pins s σ H x y v u Q I rx ry q => h pins s σ H x y v u Q I rx ry (i x y H Q q)
/-- the world is as it was -/
theorem same_w {K : PySem.W.Frag} {W : Wl} {Q : VK} {d : D} {v : V} (o : W.Ok K N.toNames) (q : ∀ W' v, Ext W W' → W'.Ok K N.toNames → W'.η = W.η → RelD W' d v → Q v W'.H) (r : RelD W d v) : Q v W.H := q W v (Ext.refl W) o rfl r

def line : Nat := 16777216
/-! ints -/
def fI2 (g : Int → Int → Int) : F2 := fun x y η => match x, y with
  | .int i, .int j => some (.int (g i j), η)
  | _, _ => none
def fI2c (c : Int → Int → Bool) (g : Int → Int → Int) : F2 := fun x y η => match x, y with
  | .int i, .int j => match c i j with
    | true => some (.int (g i j), η)
    | false => none
  | _, _ => none
def fB2 (g : Int → Int → Bool) : F2 := fun x y η => match x, y with
  | .int i, .int j => some (.bl (g i j), η)
  | _, _ => none
theorem relInt {W : Wl} {i : Int} {v : V} (h : RelD W (.int i) v) : v = .int i := by rw [RelD] at h; exact h
theorem relStr {W : Wl} {i : Str} {v : V} (h : RelD W (.str i) v) : v = .str i := by rw [RelD] at h; exact h
theorem relBl {W : Wl} {i : Bool} {v : V} (h : RelD W (.bl i) v) : v = .bl i := by rw [RelD] at h; exact h
theorem relNon {W : Wl} {v : V} (h : RelD W .non v) : v = .non := by rw [RelD] at h; exact h
theorem relRef {W : Wl} {r : Nat} {v : V} (h : RelD W (.ref r) v) : v = .ref (W.μ r) := by rw [RelD] at h; exact h.2
theorem mkInt {W : Wl} {i : Int} : RelD W (.int i) (.int i) := by rw [RelD]
theorem mkBl {W : Wl} {i : Bool} : RelD W (.bl i) (.bl i) := by rw [RelD]
theorem mkStr' {W : Wl} {i : Str} : RelD W (.str i) (.str i) := by rw [RelD]
theorem mkNon {W : Wl} : RelD W .non .non := by rw [RelD]
theorem fI2_inv {g : Int → Int → Int} {x y d : D} {η η' : Hd} (h : fI2 g x y η = some (d, η')) : ∃ i j, x = .int i ∧ y = .int j ∧ d = .int (g i j) ∧ η' = η := by
  cases x with
  | int i =>
    cases y with
    | int j => simp only [fI2, Option.some.injEq, Prod.mk.injEq] at h; exact ⟨i, j, rfl, rfl, h.1.symm, h.2.symm⟩
    | _ => cases h
  | _ => cases h
theorem fB2_inv {g : Int → Int → Bool} {x y d : D} {η η' : Hd} (h : fB2 g x y η = some (d, η')) : ∃ i j, x = .int i ∧ y = .int j ∧ d = .bl (g i j) ∧ η' = η := by
  cases x with
  | int i =>
    cases y with
    | int j => simp only [fB2, Option.some.injEq, Prod.mk.injEq] at h; exact ⟨i, j, rfl, rfl, h.1.symm, h.2.symm⟩
    | _ => cases h
  | _ => cases h
theorem fI2c_inv {c : Int → Int → Bool} {g : Int → Int → Int} {x y d : D} {η η' : Hd} (h : fI2c c g x y η = some (d, η')) : ∃ i j, x = .int i ∧ y = .int j ∧ c i j = true ∧ d = .int (g i j) ∧ η' = η := by
  cases x with
  | int i =>
    cases y with
    | int j =>
      simp only [fI2c] at h
      cases e : c i j with
      | false => rw [e] at h; cases h
      | true => rw [e] at h; simp only [Option.some.injEq, Prod.mk.injEq] at h; exact ⟨i, j, rfl, rfl, e, h.1.symm, h.2.symm⟩
    | _ => cases h
  | _ => cases h
theorem opd_int {f : Value → Value → Sem Value} {g g' : Int → Int → Int} (h : OpR X f (rI0 fun i j => .int (g' i j))) (e : ∀ i j, g' i j = g i j) : OpR X f (r2 X.K N (fI2 g)) := OpR.imp h fun x y H Q q => by
  obtain ⟨W, dx, dy, d, η', rfl, o, rx, ry, hf, hq⟩ := q
  obtain ⟨i, j, rfl, rfl, rfl, rfl⟩ := fI2_inv hf
  rw [relInt rx, relInt ry]
  exact ⟨i, j, rfl, rfl, by show Q (.int (g' i j)) W.H; rw [e]; exact same_w o hq mkInt⟩
theorem opd_intc {f : Value → Value → Sem Value} {C : Int → Int → Prop} {c : Int → Int → Bool} {g g' : Int → Int → Int} (h : OpR X f (rI C fun i j => .int (g' i j))) (hc : ∀ i j, c i j = true → C i j) (e : ∀ i j, g' i j = g i j) : OpR X f (r2 X.K N (fI2c c g)) := OpR.imp h fun x y H Q q => by
  obtain ⟨W, dx, dy, d, η', rfl, o, rx, ry, hf, hq⟩ := q
  obtain ⟨i, j, rfl, rfl, hij, rfl, rfl⟩ := fI2c_inv hf
  rw [relInt rx, relInt ry]
  exact ⟨i, j, rfl, rfl, hc i j hij, by show Q (.int (g' i j)) W.H; rw [e]; exact same_w o hq mkInt⟩
theorem opd_cmp {f : Value → Value → Sem Value} {g g' : Int → Int → Bool} (h : OpR X f (rI0 fun i j => .bl (g' i j))) (e : ∀ i j, g' i j = g i j) : OpR X f (r2 X.K N (fB2 g)) := OpR.imp h fun x y H Q q => by
  obtain ⟨W, dx, dy, d, η', rfl, o, rx, ry, hf, hq⟩ := q
  obtain ⟨i, j, rfl, rfl, rfl, rfl⟩ := fB2_inv hf
  rw [relInt rx, relInt ry]
  exact ⟨i, j, rfl, rfl, by show Q (.bl (g' i j)) W.H; rw [e]; exact same_w o hq mkBl⟩

/-- either of two -/
def fOr (f g : F2) : F2 := fun x y η => match f x y η with
  | some p => some p
  | none => g x y η
theorem opd_or {fv : Value → Value → Sem Value} {f g : F2} (hf : OpR X fv (r2 X.K N f)) (hg : OpR X fv (r2 X.K N g)) : OpR X fv (r2 X.K N (fOr f g)) := OpR.imp (OpR.or hf hg) fun x y H Q q => by
  obtain ⟨W, dx, dy, d, η', rfl, o, rx, ry, h, hq⟩ := q
  unfold fOr at h
  cases e : f dx dy W.η with
  | some p => rw [e] at h; exact .inl ⟨W, dx, dy, d, η', rfl, o, rx, ry, by rw [e]; exact h, hq⟩
  | none => rw [e] at h; exact .inr ⟨W, dx, dy, d, η', rfl, o, rx, ry, h, hq⟩

/-! tuples, lists, texts -/
def fCatT : F2 := fun x y η => match x, y with
  | .tup a, .tup b => match Nat.ble (a.length + b.length) line with
    | true => some (.tup (a ++ b), η)
    | false => none
  | _, _ => none
def fCatL : F2 := fun x y η => match x, y with
  | .ref r, .ref s => match η.get r, η.get s with
    | some (.lst a), some (.lst b) => match Nat.ble (a.length + b.length) line with
      | true => some (.ref η.nx, η.new (.lst (a ++ b)))
      | false => none
    | _, _ => none
  | _, _ => none
def fCatS : F2 := fun x y η => match x, y with
  | .str a, .str b => match Nat.ble (a.length + b.length) line with
    | true => some (.str (a ++ b), η)
    | false => none
  | _, _ => none
def fRepL : F2 := fun x y η => match x, y with
  | .ref r, .int k => match η.get r with
    | some (.lst a) => match Nat.ble k.natAbs 100000, Nat.ble (a.length * k.toNat) line with
      | true, true => some (.ref η.nx, η.new (.lst (List.replicate k.toNat a).flatten))
      | _, _ => none
    | _ => none
  | _, _ => none
theorem relFtup {W : Wl} {ds : List D} {v : V} (h : RelD W (.ftup ds) v) : ∃ a vs o, v = .ref a ∧ W.H a = some (.frz o (.tup vs)) ∧ o.dict = none ∧ RelDs W ds vs := by rw [RelD] at h; exact h
theorem relTup {W : Wl} {ds : List D} {v : V} (h : RelD W (.tup ds) v) : ∃ a vs, v = .ref a ∧ W.H a = some (.tup vs) ∧ RelDs W ds vs := by rw [RelD] at h; exact h
theorem mkTup {W : Wl} {ds : List D} {a : Addr} {vs : List V} (h : W.H a = some (.tup vs)) (r : RelDs W ds vs) : RelD W (.tup ds) (.ref a) := by rw [RelD]; exact ⟨a, vs, rfl, h, r⟩
/-- a new tuple -/
theorem new_tup {K : PySem.W.Frag} {W : Wl} {Q : VK} {ds : List D} {vs : List V} {p : Addr} (o : W.Ok K N.toNames) (q : ∀ W' v, Ext W W' → W'.Ok K N.toNames → W'.η = W.η → RelD W' (.tup ds) v → Q v W'.H) (hp : W.H p = none) (r : RelDs W ds vs) : Q (.ref p) (upd W.H p (.tup vs)) := by
  obtain ⟨x, o'⟩ := o.lay (ob := .tup vs) hp
  exact q (W.lay p (.tup vs)) (.ref p) x o' rfl (mkTup upd_same (r.mono o x))
/-- a new list -/
theorem new_lst {K : PySem.W.Frag} {W : Wl} {Q : VK} {ds : List D} {vs : List V} {p : Addr} (o : W.Ok K N.toNames) (q : ∀ W' v, Ext W W' → W'.Ok K N.toNames → W'.η = W.η.new (.lst ds) → RelD W' (.ref W.η.nx) v → Q v W'.H) (hp : W.H p = none) (r : RelDs W ds vs) (hl : ds.length ≤ sizeLine) : Q (.ref p) (upd W.H p (.lst vs)) := by
  have y : Ext W (W.lay p (.lst vs)) := (o.lay hp).1
  have pre : RelC K N.toNames (W.new p (.lst ds) (.lst vs)) p (.lst ds) := by
    refine ⟨vs, upd_same, ?_, hl⟩
    -- the world before the cell's own relation
    have x : Ext W (W.new p (.lst ds) (.lst vs)) := by
      refine ⟨Nat.le_succ _, fun r h => ?_, fun a u h _ _ => ?_, fun a u h t => ⟨u, ?_, t⟩, fun r d h => ?_⟩
      · show (if r = W.η.nx then p else W.μ r) = W.μ r
        rw [if_neg (Nat.ne_of_lt h)]
      · show upd W.H p _ a = some u
        rw [upd_ne (ne_of_none h hp)]; exact h
      · show upd W.H p _ a = some u
        rw [upd_ne (ne_of_none h hp)]; exact h
      · have h' : (W.η.new (.lst ds)).get r = some d := h
        rw [Hd.get_new] at h'
        by_cases e : r = W.η.nx
        · refine .inr ⟨Nat.le_of_eq e.symm, ?_⟩
          show NoC W.H (if r = W.η.nx then p else W.μ r)
          rw [if_pos e]; exact NoC.of hp
        · rw [if_neg e] at h'
          exact .inl ⟨d, h', id⟩
    exact r.mono o x
  obtain ⟨x, o'⟩ := o.new hp pre
  exact q (W.new p (.lst ds) (.lst vs)) (.ref p) x o' rfl (Wl.new_ref W p _ _)
theorem opd_catT : OpR X (binaryOp .Add) (r2 X.K N fCatT) := OpR.imp op_catA fun x y H Q q => by
  obtain ⟨W, dx, dy, d, η', rfl, o, rx, ry, hf, hq⟩ := q
  cases dx with
  | tup a =>
    cases dy with
    | tup b =>
      simp only [fCatT] at hf
      cases e : Nat.ble (a.length + b.length) line with
      | false => rw [e] at hf; cases hf
      | true =>
        rw [e] at hf
        simp only [Option.some.injEq, Prod.mk.injEq] at hf
        obtain ⟨rfl, rfl⟩ := hf
        obtain ⟨pa, va, rfl, sa, ra⟩ := relTup rx
        obtain ⟨pb, vb, rfl, sb, rb⟩ := relTup ry
        have hl : va.length + vb.length ≤ sizeLine := by
          rw [← ra.length, ← rb.length]; exact Nat.le_of_ble_eq_true e
        refine ⟨pa, pb, va, vb, rfl, rfl, SqT.of sa, SqT.of sb, hl, fun z => ?_, fun _ z => ?_, fun _ _ p hp => new_tup o hq hp (ra.append rb)⟩
        · subst z
          have ea : a = [] := List.eq_nil_of_length_eq_zero (by rw [ra.length]; rfl)
          subst ea
          exact same_w o hq (mkTup sb rb)
        · subst z
          have eb : b = [] := List.eq_nil_of_length_eq_zero (by rw [rb.length]; rfl)
          subst eb
          rw [List.append_nil] at hq
          exact same_w o hq (mkTup sa ra)
    | _ => cases hf
  | _ => cases hf
/-- what is read as a list -/
def Hd.list (η : Hd) (r : Nat) : Option (List D) := match η.get r with
  | some (.lst l) => some l
  | some (.frz l) => some l
  | _ => none
theorem list_of {K : PySem.W.Frag} {W : Wl} {r : Nat} {l : List D} (o : W.Ok K N.toNames) (h : W.η.list r = some l) : ∃ vs, SqL K W.H (W.μ r) vs ∧ RelDs W l vs ∧ l.length ≤ sizeLine := by
  unfold Hd.list at h
  cases e : W.η.get r with
  | none => rw [e] at h; cases h
  | some c =>
    have q := o.cell r c e
    rw [e] at h
    cases c with
    | lst l' => cases h; obtain ⟨vs, h1, h2, h3⟩ := q; exact ⟨vs, .inl (.inl h1), h2, h3⟩
    | frz l' => cases h; obtain ⟨vs, h1, h2, h3⟩ := q; exact ⟨vs, .inl (.inl h1), h2, h3⟩
    | _ => cases h
theorem opd_catL : OpR X (binaryOp .Add) (r2 X.K N fCatL) := OpR.imp op_cat fun x y H Q q => by
  obtain ⟨W, dx, dy, d, η', rfl, o, rx, ry, hf, hq⟩ := q
  cases dx with
  | ref r =>
    cases dy with
    | ref s =>
      simp only [fCatL] at hf
      cases e1 : W.η.get r with
      | none => rw [e1] at hf; cases hf
      | some c1 =>
        cases e2 : W.η.get s with
        | none => rw [e1, e2] at hf; cases c1 <;> cases hf
        | some c2 =>
          rw [e1, e2] at hf
          cases c1 with
          | lst a =>
            cases c2 with
            | lst b =>
              simp only at hf
              cases e : Nat.ble (a.length + b.length) line with
              | false => rw [e] at hf; cases hf
              | true =>
                rw [e] at hf
                simp only [Option.some.injEq, Prod.mk.injEq] at hf
                obtain ⟨rfl, rfl⟩ := hf
                obtain ⟨va, ha, ra, _⟩ := o.cell r _ e1
                obtain ⟨vb, hb, rb, _⟩ := o.cell s _ e2
                have hl : a.length + b.length ≤ sizeLine := Nat.le_of_ble_eq_true e
                rw [relRef rx, relRef ry]
                exact ⟨_, _, va, vb, rfl, rfl, ha, hb, by rw [← ra.length, ← rb.length]; exact hl, fun p hp => new_lst o hq hp (ra.append rb) (by rw [List.length_append]; exact hl)⟩
            | _ => cases hf
          | _ => cases hf
    | _ => cases hf
  | _ => cases hf
theorem opd_catS : OpR X (binaryOp .Add) (r2 X.K N fCatS) := OpR.imp op_add_str fun x y H Q q => by
  obtain ⟨W, dx, dy, d, η', rfl, o, rx, ry, hf, hq⟩ := q
  cases dx with
  | str a =>
    cases dy with
    | str b =>
      simp only [fCatS] at hf
      cases e : Nat.ble (a.length + b.length) line with
      | false => rw [e] at hf; cases hf
      | true =>
        rw [e] at hf
        simp only [Option.some.injEq, Prod.mk.injEq] at hf
        obtain ⟨rfl, rfl⟩ := hf
        rw [relStr rx, relStr ry]
        exact ⟨a, b, rfl, rfl, Nat.le_of_ble_eq_true e, same_w o hq mkStr'⟩
    | _ => cases hf
  | _ => cases hf
theorem RelDs.rep {W : Wl} {ds : List D} {vs : List V} (h : RelDs W ds vs) : ∀ n : Nat, RelDs W (List.replicate n ds).flatten (List.replicate n vs).flatten
  | 0 => .nil
  | n + 1 => by
    rw [List.replicate_succ, List.replicate_succ, List.flatten_cons, List.flatten_cons]
    exact h.append (RelDs.rep h n)
theorem len_rep (a : List D) : ∀ n : Nat, (List.replicate n a).flatten.length = n * a.length
  | 0 => by simp
  | n + 1 => by rw [List.replicate_succ, List.flatten_cons, List.length_append, len_rep a n, Nat.succ_mul, Nat.add_comm]
theorem opd_repL : OpR X (binaryOp .Mult) (r2 X.K N fRepL) := OpR.imp op_rep fun x y H Q q => by
  obtain ⟨W, dx, dy, d, η', rfl, o, rx, ry, hf, hq⟩ := q
  cases dx with
  | ref r =>
    cases dy with
    | int k =>
      simp only [fRepL] at hf
      cases e1 : W.η.get r with
      | none => rw [e1] at hf; cases hf
      | some c1 =>
        rw [e1] at hf
        cases c1 with
        | lst a =>
          simp only at hf
          cases e : Nat.ble k.natAbs 100000 with
          | false => rw [e] at hf; cases hf
          | true =>
            cases e' : Nat.ble (a.length * k.toNat) line with
            | false => rw [e, e'] at hf; cases hf
            | true =>
              rw [e, e'] at hf
              simp only [Option.some.injEq, Prod.mk.injEq] at hf
              obtain ⟨rfl, rfl⟩ := hf
              obtain ⟨va, ha, ra, _⟩ := o.cell r _ e1
              have hk : k.natAbs ≤ 100000 := Nat.le_of_ble_eq_true e
              have hl : a.length * k.toNat ≤ sizeLine := Nat.le_of_ble_eq_true e'
              rw [relRef rx, relInt ry]
              refine ⟨_, k, va, rfl, rfl, ha, by omega, by omega, by rw [← ra.length]; exact hl, fun p hp => new_lst o hq hp (ra.rep _) ?_⟩
              rw [len_rep, Nat.mul_comm]; exact hl
        | _ => cases hf
    | _ => cases hf
  | _ => cases hf

def iadd (i j : Int) : Int := i + j
def fAdd : F2 := fOr (fI2 iadd) (fOr fCatT (fOr fCatL fCatS))
theorem opd_add : OpR X (binaryOp .Add) (r2 X.K N fAdd) := opd_or (opd_int op_add fun _ _ => rfl) (opd_or opd_catT (opd_or opd_catL opd_catS))
def isub (i j : Int) : Int := i - j
def fSub : F2 := fI2 isub
theorem opd_sub : OpR X (binaryOp .Sub) (r2 X.K N fSub) := opd_int op_sub fun _ _ => rfl
def imul (i j : Int) : Int := i * j
def mulOk (i j : Int) : Bool := Nat.ble i.natAbs 1000000000000000000 || Nat.ble j.natAbs 1000000000000000000
theorem mulOk_ok (i j : Int) (h : mulOk i j = true) : CMul i j := by
  unfold mulOk at h
  rcases Bool.or_eq_true_iff.mp h with h | h
  · have := Nat.le_of_ble_eq_true h; exact .inl ⟨by omega, by omega⟩
  · have := Nat.le_of_ble_eq_true h; exact .inr ⟨by omega, by omega⟩
def fMul : F2 := fOr (fI2c mulOk imul) fRepL
theorem opd_mul : OpR X (binaryOp .Mult) (r2 X.K N fMul) := opd_or (opd_intc op_mul mulOk_ok fun _ _ => rfl) opd_repL
def idiv (i j : Int) : Int := i / j
def divOk (i j : Int) : Bool := match j with
  | .ofNat (n + 1) => Nat.ble n 1000000000
  | _ => false
theorem divOk_ok (i j : Int) (h : divOk i j = true) : CDiv i j := by
  unfold divOk at h
  split at h
  · rename_i n
    have := Nat.le_of_ble_eq_true h
    exact ⟨by show (0 : Int) < ((n + 1 : Nat) : Int); omega, by show ((n + 1 : Nat) : Int) < _; omega⟩
  · cases h
def fDiv : F2 := fI2c divOk idiv
theorem opd_div : OpR X (binaryOp .FloorDiv) (r2 X.K N fDiv) := opd_intc op_fdiv divOk_ok fun _ _ => rfl
def imod (i j : Int) : Int := i % j
def modOk (i j : Int) : Bool := match j with
  | .ofNat (_ + 1) => true
  | _ => false
theorem modOk_ok (i j : Int) (h : modOk i j = true) : 0 < j := by
  unfold modOk at h
  split at h
  · rename_i n; show (0 : Int) < ((n + 1 : Nat) : Int); omega
  · cases h
def fMod : F2 := fI2c modOk imod
theorem opd_mod : OpR X (binaryOp .Mod) (r2 X.K N fMod) := opd_intc op_mod modOk_ok fun _ _ => rfl
def ilt (i j : Int) : Bool := decide (i < j)
def ile (i j : Int) : Bool := decide (i ≤ j)
def igt (i j : Int) : Bool := decide (j < i)
def ige (i j : Int) : Bool := decide (j ≤ i)
theorem opd_lt : OpR X (compareOp .Lt) (r2 X.K N (fB2 ilt)) := opd_cmp op_lt fun _ _ => rfl
theorem opd_le : OpR X (compareOp .LtE) (r2 X.K N (fB2 ile)) := opd_cmp op_le fun _ _ => rfl
theorem opd_gt : OpR X (compareOp .Gt) (r2 X.K N (fB2 igt)) := opd_cmp op_gt fun _ _ => rfl
theorem opd_ge : OpR X (compareOp .GtE) (r2 X.K N (fB2 ige)) := opd_cmp op_ge fun _ _ => rfl
end
end DL

/-! ==, in -/
namespace DL
open PySem PySem.Spec L2

mutual
def toPy : D → PyData
  | .non => .none
  | .bl b => .bool b
  | .int i => .int i
  | .str x => .str x
  | .tup l => .tuple (toPys l)
  | .ftup l => .tuple (toPys l)
  | .ref _ => .none
def toPys : List D → List PyData
  | [] => []
  | d :: ds => toPy d :: toPys ds
end
/-- data without a cell, not deeper than n -/
def pur : Nat → D → Bool
  | _, .non => true
  | _, .bl _ => true
  | _, .int _ => true
  | _, .str x => PyData.strOk x
  | n + 1, .tup l => l.all (pur n)
  | n + 1, .ftup l => l.all (pur n)
  | _, _ => false
def purs (n : Nat) (l : List D) : Bool := l.all (pur n)
def ieq : Int → Int → Bool
  | .ofNat a, .ofNat b => Nat.beq a b
  | .negSucc a, .negSucc b => Nat.beq a b
  | _, _ => false
theorem ieq_eq (i j : Int) : ieq i j = (i == j) := by
  cases i with
  | ofNat a =>
    cases j with
    | ofNat b =>
      show Nat.beq a b = _
      by_cases h : a = b
      · subst h; simp
      · have h' : ¬ ((Int.ofNat a) = (Int.ofNat b)) := fun z => h (Int.ofNat.inj z)
        rw [beq_eq_false_iff_ne.mpr h']
        cases e : Nat.beq a b with
        | false => rfl
        | true => exact absurd (Nat.eq_of_beq_eq_true e) h
    | negSucc b =>
      have h' : ¬ (Int.ofNat a = Int.negSucc b) := by intro z; cases z
      rw [beq_eq_false_iff_ne.mpr h']; rfl
  | negSucc a =>
    cases j with
    | ofNat b =>
      have h' : ¬ (Int.negSucc a = Int.ofNat b) := by intro z; cases z
      rw [beq_eq_false_iff_ne.mpr h']; rfl
    | negSucc b =>
      show Nat.beq a b = _
      by_cases h : a = b
      · subst h; simp
      · have h' : ¬ ((Int.negSucc a) = (Int.negSucc b)) := fun z => h (Int.negSucc.inj z)
        rw [beq_eq_false_iff_ne.mpr h']
        cases e : Nat.beq a b with
        | false => rfl
        | true => exact absurd (Nat.eq_of_beq_eq_true e) h
def eqL (f : D → D → Bool) : List D → List D → Bool
  | [], [] => true
  | x :: xs, y :: ys => match f x y with
    | true => eqL f xs ys
    | false => false
  | _, _ => false
def eqn : Nat → D → D → Bool
  | _, .int i, .int j => ieq i j
  | _, .non, .non => true
  | _, .bl a, .bl b => a == b
  | _, .bl a, .int j => (if a then 1 else 0) == j
  | _, .int i, .bl b => i == (if b then 1 else 0)
  | _, .str x, .str y => x == y
  | n + 1, .tup a, .tup b => eqL (eqn n) a b
  | n + 1, .ftup a, .tup b => eqL (eqn n) a b
  | n + 1, .tup a, .ftup b => eqL (eqn n) a b
  | n + 1, .ftup a, .ftup b => eqL (eqn n) a b
  | _, _, _ => false
theorem eqn_py : ∀ (n : Nat) (x y : D), pur n x = true → pur n y = true → eqn n x y = PyData.eqv (toPy x) (toPy y) := by
  intro n
  induction n with
  | zero =>
    intro x y hx hy
    cases x with
    | tup l => cases hx
    | ftup l => cases hx
    | ref r => cases hx
    | non => cases y with
      | tup l => cases hy
      | ftup l => cases hy
      | ref r => cases hy
      | _ => simp [eqn, toPy, PyData.eqv]
    | bl b => cases y with
      | tup l => cases hy
      | ftup l => cases hy
      | ref r => cases hy
      | _ => simp [eqn, toPy, PyData.eqv]
    | int i => cases y with
      | tup l => cases hy
      | ftup l => cases hy
      | ref r => cases hy
      | int j => simp only [eqn, toPy, PyData.eqv]; exact ieq_eq i j
      | _ => simp [eqn, toPy, PyData.eqv]
    | str i => cases y with
      | tup l => cases hy
      | ftup l => cases hy
      | ref r => cases hy
      | _ => simp [eqn, toPy, PyData.eqv]
  | succ n ih =>
    intro x y hx hy
    have all : ∀ (a b : List D), a.all (pur n) = true → b.all (pur n) = true → eqL (eqn n) a b = PyData.eqvAll (toPys a) (toPys b) := by
      intro a
      induction a with
      | nil => intro b _ _; cases b <;> simp [eqL, toPys, PyData.eqvAll]
      | cons u us ihu =>
        intro b ha hb
        cases b with
        | nil => simp [eqL, toPys, PyData.eqvAll]
        | cons v vs =>
          simp only [List.all_cons, Bool.and_eq_true] at ha hb
          simp only [eqL, toPys, PyData.eqvAll]
          rw [← ih u v ha.1 hb.1, ← ihu vs ha.2 hb.2]
          cases eqn n u v <;> rfl
    cases x with
    | ref r => cases hx
    | tup l => cases y with
      | ref r => cases hy
      | tup l' => simp only [eqn, toPy, PyData.eqv]; exact all l l' hx hy
      | ftup l' => simp only [eqn, toPy, PyData.eqv]; exact all l l' hx hy
      | _ => simp [eqn, toPy, PyData.eqv]
    | ftup l => cases y with
      | ref r => cases hy
      | tup l' => simp only [eqn, toPy, PyData.eqv]; exact all l l' hx hy
      | ftup l' => simp only [eqn, toPy, PyData.eqv]; exact all l l' hx hy
      | _ => simp [eqn, toPy, PyData.eqv]
    | non => cases y with
      | ref r => cases hy
      | _ => simp [eqn, toPy, PyData.eqv]
    | bl b => cases y with
      | ref r => cases hy
      | _ => simp [eqn, toPy, PyData.eqv]
    | int i => cases y with
      | ref r => cases hy
      | int j => simp only [eqn, toPy, PyData.eqv]; exact ieq_eq i j
      | _ => simp [eqn, toPy, PyData.eqv]
    | str i => cases y with
      | ref r => cases hy
      | _ => simp [eqn, toPy, PyData.eqv]
theorem eqL_py (n : Nat) : ∀ (a b : List D), purs n a = true → purs n b = true → eqL (eqn n) a b = PyData.eqvAll (toPys a) (toPys b)
  | [], b, _, _ => by cases b <;> simp [eqL, toPys, PyData.eqvAll]
  | u :: us, [], _, _ => by simp [eqL, toPys, PyData.eqvAll]
  | u :: us, v :: vs, ha, hb => by
    simp only [purs, List.all_cons, Bool.and_eq_true] at ha hb
    simp only [eqL, toPys, PyData.eqvAll]
    rw [← eqn_py n u v ha.1 hb.1, ← eqL_py n us vs ha.2 hb.2]
    cases eqn n u v <;> rfl
/-- pure data is data in the machine -/
theorem pur_dp {K : PySem.W.Frag} {W : Wl} : ∀ (n : Nat) (d : D) (v : V), pur n d = true → RelD W d v → Dp K W.H v (toPy d) ∧ PyData.canLay0 (toPy d) = true ∧ PyData.depth (toPy d) ≤ n := by
  intro n
  induction n with
  | zero =>
    intro d v h r
    cases d with
    | tup l => cases h
    | ftup l => cases h
    | ref r => cases h
    | non => rw [RelD] at r; subst r; exact ⟨by rw [toPy]; exact .non, by simp [toPy, PyData.canLay0], by simp [toPy, PyData.depth]⟩
    | bl b => rw [RelD] at r; subst r; exact ⟨by rw [toPy]; exact .bl b, by simp [toPy, PyData.canLay0], by simp [toPy, PyData.depth]⟩
    | int b => rw [RelD] at r; subst r; exact ⟨by rw [toPy]; exact .int b, by simp [toPy, PyData.canLay0], by simp [toPy, PyData.depth]⟩
    | str b => rw [RelD] at r; subst r; exact ⟨by rw [toPy]; exact .str b, by simpa [toPy, PyData.canLay0, pur] using h, by simp [toPy, PyData.depth]⟩
  | succ n ih =>
    intro d v h r
    cases d with
    | ref r => cases h
    | non => rw [RelD] at r; subst r; exact ⟨by rw [toPy]; exact .non, by simp [toPy, PyData.canLay0], by simp [toPy, PyData.depth]⟩
    | bl b => rw [RelD] at r; subst r; exact ⟨by rw [toPy]; exact .bl b, by simp [toPy, PyData.canLay0], by simp [toPy, PyData.depth]⟩
    | int b => rw [RelD] at r; subst r; exact ⟨by rw [toPy]; exact .int b, by simp [toPy, PyData.canLay0], by simp [toPy, PyData.depth]⟩
    | str b => rw [RelD] at r; subst r; exact ⟨by rw [toPy]; exact .str b, by simpa [toPy, PyData.canLay0, pur] using h, by simp [toPy, PyData.depth]⟩
    | ftup l =>
      obtain ⟨a, vs, ob, rfl, hs, _, rs⟩ := relFtup r
      have all : ∀ (l : List D) (vs : List V), l.all (pur n) = true → RelDs W l vs → DpAll K W.H vs (toPys l) ∧ PyData.canLayAll0 (toPys l) = true ∧ PyData.depthAll (toPys l) ≤ n := by
        intro l
        induction l with
        | nil => intro vs _ r; rw [RelDs] at r; subst r; exact ⟨by rw [toPys]; exact .nil, by simp [toPys, PyData.canLayAll0], by simp [toPys, PyData.depthAll]⟩
        | cons x xs ihx =>
          intro vs h r
          rw [RelDs] at r
          obtain ⟨v, vs', rfl, r1, r2⟩ := r
          simp only [List.all_cons, Bool.and_eq_true] at h
          obtain ⟨h1, h2, h3⟩ := ih x v h.1 r1
          obtain ⟨h4, h5, h6⟩ := ihx vs' h.2 r2
          exact ⟨by rw [toPys]; exact .cons h1 h4, by simp [toPys, PyData.canLayAll0, h2, h5], by simp only [toPys, PyData.depthAll]; omega⟩
      obtain ⟨h1, h2, h3⟩ := all l vs h rs
      exact ⟨by rw [toPy]; exact .tup (.inl (.inr ⟨ob, hs⟩)) h1, by simpa [toPy, PyData.canLay0] using h2, by simp only [toPy, PyData.depth]; omega⟩
    | tup l =>
      obtain ⟨a, vs, rfl, hs, rs⟩ := relTup r
      have all : ∀ (l : List D) (vs : List V), l.all (pur n) = true → RelDs W l vs → DpAll K W.H vs (toPys l) ∧ PyData.canLayAll0 (toPys l) = true ∧ PyData.depthAll (toPys l) ≤ n := by
        intro l
        induction l with
        | nil => intro vs _ r; rw [RelDs] at r; subst r; exact ⟨by rw [toPys]; exact .nil, by simp [toPys, PyData.canLayAll0], by simp [toPys, PyData.depthAll]⟩
        | cons x xs ihx =>
          intro vs h r
          rw [RelDs] at r
          obtain ⟨v, vs', rfl, r1, r2⟩ := r
          simp only [List.all_cons, Bool.and_eq_true] at h
          obtain ⟨h1, h2, h3⟩ := ih x v h.1 r1
          obtain ⟨h4, h5, h6⟩ := ihx vs' h.2 r2
          exact ⟨by rw [toPys]; exact .cons h1 h4, by simp [toPys, PyData.canLayAll0, h2, h5], by simp only [toPys, PyData.depthAll]; omega⟩
      obtain ⟨h1, h2, h3⟩ := all l vs h rs
      exact ⟨by rw [toPy]; exact .tup (SqT.of hs) h1, by simpa [toPy, PyData.canLay0] using h2, by simp only [toPy, PyData.depth]; omega⟩
theorem purs_dp {K : PySem.W.Frag} {W : Wl} (n : Nat) : ∀ (l : List D) (vs : List V), purs n l = true → RelDs W l vs → DpAll K W.H vs (toPys l) ∧ PyData.canLayAll0 (toPys l) = true ∧ PyData.depthAll (toPys l) ≤ n
  | [], vs, _, r => by rw [RelDs] at r; subst r; exact ⟨by rw [toPys]; exact .nil, by simp [toPys, PyData.canLayAll0], by simp [toPys, PyData.depthAll]⟩
  | x :: xs, vs, h, r => by
    rw [RelDs] at r
    obtain ⟨v, vs', rfl, r1, r2⟩ := r
    simp only [purs, List.all_cons, Bool.and_eq_true] at h
    obtain ⟨h1, h2, h3⟩ := pur_dp (K := K) n x v h.1 r1
    obtain ⟨h4, h5, h6⟩ := purs_dp n xs vs' h.2 r2
    exact ⟨by rw [toPys]; exact .cons h1 h4, by simp [toPys, PyData.canLayAll0, h2, h5], by simp only [toPys, PyData.depthAll]; omega⟩
theorem shaped_of {d : PyData} (h : d.canLay0 = true) (h2 : d.depth ≤ 64) : SeqAt.shaped d = true := by simp [SeqAt.shaped, h, h2]

/-- what two values' == tells -/
def eqF (η : Hd) : D → D → Option Bool
  | .ref r, .ref s => match η.list r, η.list s with
    | some a, some b => match purs 8 a, purs 8 b with
      | true, true => some (eqL (eqn 8) a b)
      | _, _ => none
    | _, _ => none
  | .ref r, y => match η.list r with
    | some a => match purs 8 a, pur 8 y with
      | true, true => some false
      | _, _ => none
    | _ => none
  | x, .ref r => match η.list r with
    | some a => match purs 8 a, pur 8 x with
      | true, true => some false
      | _, _ => none
    | _ => none
  | x, y => match pur 8 x, pur 8 y with
    | true, true => some (eqn 8 x y)
    | _, _ => none
/-- data of a value: pure, or a list of pure ones -/
def pyOf (η : Hd) : D → Option PyData
  | .ref r => match η.list r with
    | some a => match purs 8 a with
      | true => some (.list (toPys a))
      | false => none
    | none => none
  | x => match pur 8 x with
    | true => some (toPy x)
    | false => none
section
variable {X : Cx} {N : Nm} {E : XK} {K : PySem.W.Frag} {W : Wl}
theorem pyOf_dp (o : W.Ok K N.toNames) {d : D} {v : V} {p : PyData} (r : RelD W d v) (h : pyOf W.η d = some p) : Dp K W.H v p ∧ SeqAt.shaped p = true := by
  have flat : ∀ {d : D}, RelD W d v → pur 8 d = true → some (toPy d) = some p → Dp K W.H v p ∧ SeqAt.shaped p = true := fun {d} r hh e => by
    cases e
    obtain ⟨h1, h2, h3⟩ := pur_dp (K := K) 8 d v hh r
    exact ⟨h1, shaped_of h2 (by omega)⟩
  cases d with
  | ref q =>
    simp only [pyOf] at h
    cases e : W.η.list q with
    | none => rw [e] at h; cases h
    | some a =>
      rw [e] at h
      simp only at h
      cases e2 : purs 8 a with
      | false => rw [e2] at h; cases h
      | true =>
        rw [e2] at h
        cases h
        obtain ⟨vs, h1, h2, h3⟩ := list_of o e
        obtain ⟨g1, g2, g3⟩ := purs_dp (K := K) 8 a vs e2 h2
        rw [relRef r]
        refine ⟨.lst h1 g1, shaped_of (by simpa [PyData.canLay0] using g2) (by simp only [PyData.depth]; omega)⟩
  | non => exact flat r rfl h
  | bl b => exact flat r rfl h
  | int b => exact flat r rfl h
  | str b =>
    simp only [pyOf] at h
    cases e : pur 8 (.str b) with
    | false => rw [e] at h; cases h
    | true => rw [e] at h; exact flat r e h
  | tup b =>
    simp only [pyOf] at h
    cases e : pur 8 (.tup b) with
    | false => rw [e] at h; cases h
    | true => rw [e] at h; exact flat r e h
  | ftup b =>
    simp only [pyOf] at h
    cases e : pur 8 (.ftup b) with
    | false => rw [e] at h; cases h
    | true => rw [e] at h; exact flat r e h
theorem toPy_nolist : ∀ (x : D) (l : List PyData), PyData.eqv (.list l) (toPy x) = false ∧ PyData.eqv (toPy x) (.list l) = false := by
  intro x l
  cases x <;> simp [toPy, PyData.eqv]
theorem eqF_py {η : Hd} {x y : D} {b : Bool} (h : eqF η x y = some b) : ∃ p q, pyOf η x = some p ∧ pyOf η y = some q ∧ PyData.eqv p q = b := by
  have flat : ∀ {x y : D}, (∀ r, x ≠ .ref r) → (∀ r, y ≠ .ref r) → (match pur 8 x, pur 8 y with | true, true => some (eqn 8 x y) | _, _ => none) = some b → ∃ p q, pyOf η x = some p ∧ pyOf η y = some q ∧ PyData.eqv p q = b := by
    intro x y nx ny h
    cases ex : pur 8 x with
    | false => rw [ex] at h; cases h
    | true =>
      cases ey : pur 8 y with
      | false => rw [ex, ey] at h; cases h
      | true =>
        rw [ex, ey] at h
        cases h
        refine ⟨toPy x, toPy y, ?_, ?_, (eqn_py 8 x y ex ey).symm⟩
        · cases x <;> first | exact absurd rfl (nx _) | (simp only [pyOf, ex])
        · cases y <;> first | exact absurd rfl (ny _) | (simp only [pyOf, ey])
  have one : ∀ {r : Nat} {y : D}, (∀ r, y ≠ .ref r) → (match η.list r with | some a => (match purs 8 a, pur 8 y with | true, true => some false | _, _ => none) | _ => none) = some b →
      b = false ∧ ∃ l, pyOf η (.ref r) = some (.list l) ∧ pyOf η y = some (toPy y) := by
    intro r y ny h
    cases e : η.list r with
    | none => rw [e] at h; cases h
    | some a =>
      rw [e] at h
      simp only at h
      cases ex : purs 8 a with
      | false => rw [ex] at h; cases h
      | true =>
        cases ey : pur 8 y with
        | false => rw [ex, ey] at h; cases h
        | true =>
          rw [ex, ey] at h
          cases h
          refine ⟨rfl, toPys a, by simp only [pyOf, e, ex], ?_⟩
          cases y <;> first | exact absurd rfl (ny _) | (simp only [pyOf, ey])
  cases x with
  | ref r =>
    cases y with
    | ref s =>
      simp only [eqF] at h
      cases e1 : η.list r with
      | none => rw [e1] at h; cases h
      | some a =>
        cases e2 : η.list s with
        | none => rw [e1, e2] at h; cases h
        | some c =>
          rw [e1, e2] at h
          simp only at h
          cases ex : purs 8 a with
          | false => rw [ex] at h; cases h
          | true =>
            cases ey : purs 8 c with
            | false => rw [ex, ey] at h; cases h
            | true =>
              rw [ex, ey] at h
              cases h
              refine ⟨.list (toPys a), .list (toPys c), by simp only [pyOf, e1, ex], by simp only [pyOf, e2, ey], ?_⟩
              simp only [PyData.eqv]; exact (eqL_py 8 a c ex ey).symm
    | _ =>
      simp only [eqF] at h
      obtain ⟨rfl, l, h1, h2⟩ := one (by intro r z; cases z) h
      exact ⟨_, _, h1, h2, (toPy_nolist _ l).1⟩
  | non =>
    cases y with
    | ref s =>
      simp only [eqF] at h
      obtain ⟨rfl, l, h1, h2⟩ := one (by intro r z; cases z) h
      exact ⟨_, _, h2, h1, (toPy_nolist _ l).2⟩
    | _ => exact flat (by intro r z; cases z) (by intro r z; cases z) h
  | bl b =>
    cases y with
    | ref s =>
      simp only [eqF] at h
      obtain ⟨rfl, l, h1, h2⟩ := one (by intro r z; cases z) h
      exact ⟨_, _, h2, h1, (toPy_nolist _ l).2⟩
    | _ => exact flat (by intro r z; cases z) (by intro r z; cases z) h
  | int b =>
    cases y with
    | ref s =>
      simp only [eqF] at h
      obtain ⟨rfl, l, h1, h2⟩ := one (by intro r z; cases z) h
      exact ⟨_, _, h2, h1, (toPy_nolist _ l).2⟩
    | _ => exact flat (by intro r z; cases z) (by intro r z; cases z) h
  | str b =>
    cases y with
    | ref s =>
      simp only [eqF] at h
      obtain ⟨rfl, l, h1, h2⟩ := one (by intro r z; cases z) h
      exact ⟨_, _, h2, h1, (toPy_nolist _ l).2⟩
    | _ => exact flat (by intro r z; cases z) (by intro r z; cases z) h
  | ftup b =>
    cases y with
    | ref s =>
      simp only [eqF] at h
      obtain ⟨rfl, l, h1, h2⟩ := one (by intro r z; cases z) h
      exact ⟨_, _, h2, h1, (toPy_nolist _ l).2⟩
    | _ => exact flat (by intro r z; cases z) (by intro r z; cases z) h
  | tup b =>
    cases y with
    | ref s =>
      simp only [eqF] at h
      obtain ⟨rfl, l, h1, h2⟩ := one (by intro r z; cases z) h
      exact ⟨_, _, h2, h1, (toPy_nolist _ l).2⟩
    | _ => exact flat (by intro r z; cases z) (by intro r z; cases z) h
def fEq : F2 := fun x y η => match eqF η x y with
  | some b => some (.bl b, η)
  | none => none
def fNe : F2 := fun x y η => match eqF η x y with
  | some b => some (.bl (!b), η)
  | none => none
theorem opd_eq (hu : X.A.units + 64 < cLine) : OpR X (compareOp .Eq) (r2 X.K N fEq) := OpR.imp (op_eqD hu) fun x y H Q q => by
  obtain ⟨W, dx, dy, d, η', rfl, o, rx, ry, hf, hq⟩ := q
  unfold fEq at hf
  cases e : eqF W.η dx dy with
  | none => rw [e] at hf; cases hf
  | some b =>
    rw [e] at hf
    simp only [Option.some.injEq, Prod.mk.injEq] at hf
    obtain ⟨rfl, rfl⟩ := hf
    obtain ⟨p, q, h1, h2, rfl⟩ := eqF_py e
    obtain ⟨a1, a2⟩ := pyOf_dp o rx h1
    obtain ⟨b1, b2⟩ := pyOf_dp o ry h2
    exact ⟨p, q, a1, b1, a2, b2, same_w o hq mkBl⟩
theorem opd_ne (hu : X.A.units + 64 < cLine) : OpR X (compareOp .NotEq) (r2 X.K N fNe) := OpR.imp (op_neD hu) fun x y H Q q => by
  obtain ⟨W, dx, dy, d, η', rfl, o, rx, ry, hf, hq⟩ := q
  unfold fNe at hf
  cases e : eqF W.η dx dy with
  | none => rw [e] at hf; cases hf
  | some b =>
    rw [e] at hf
    simp only [Option.some.injEq, Prod.mk.injEq] at hf
    obtain ⟨rfl, rfl⟩ := hf
    obtain ⟨p, q, h1, h2, rfl⟩ := eqF_py e
    obtain ⟨a1, a2⟩ := pyOf_dp o rx h1
    obtain ⟨b1, b2⟩ := pyOf_dp o ry h2
    exact ⟨p, q, a1, b1, a2, b2, same_w o hq mkBl⟩
/-! in: lists and tuples of pure data -/
def seqOf (η : Hd) : D → Option (List D)
  | .ref r => η.list r
  | .tup l => some l
  | _ => none
def inF (η : Hd) (x y : D) : Option Bool := match seqOf η y with
  | some a => match pur 8 x, purs 8 a with
    | true, true => some (a.any fun z => eqn 8 z x)
    | _, _ => none
  | none => none
def fNotIn : F2 := fun x y η => match inF η x y with
  | some b => some (.bl (!b), η)
  | none => none
theorem any_py (n : Nat) (x : D) (hx : pur n x = true) : ∀ a : List D, purs n a = true → (a.any fun z => eqn n z x) = ((toPys a).any fun z => PyData.eqv z (toPy x))
  | [], _ => by simp [toPys]
  | u :: us, h => by
    simp only [purs, List.all_cons, Bool.and_eq_true] at h
    simp only [toPys, List.any_cons]
    rw [eqn_py n u x h.1 hx, any_py n x hx us h.2]
/-- x in a list or a tuple, by data -/
def rInA (K : PySem.W.Frag) (neg : Bool) : R2 := fun x y H Q => ∃ d ds, Dp K H x d ∧ (Dp K H y (.list ds) ∨ Dp K H y (.tuple ds)) ∧ SeqAt.shaped d = true ∧ PyData.canLayAll0 ds = true ∧ Q (.bl (if neg then !(ds.any fun z => PyData.eqv z d) else (ds.any fun z => PyData.eqv z d))) H
theorem op_notInA (hu : X.A.units + 65 < cLine) : OpR X (compareOp .NotIn) (rInA X.K true) := by
  intro pins s σ H x y v u Q I rx ry h
  obtain ⟨d, ds, hd, he, sd, se, q⟩ := h
  obtain ⟨as, r1⟩ := Dp.reads I d x v hd rx
  rcases he with he | he
  · obtain ⟨bs, r2⟩ := Dp.reads I (.list ds) y u he ry
    exact SeqAt.notIn_list_reads r2 r1 se (SeqAt.canLay_of_shaped sd) (PyProof.Rows.room_in_shaped sd hu) ⟨.bl _, H, I, rfl, q⟩
  · obtain ⟨bs, r2⟩ := Dp.reads I (.tuple ds) y u he ry
    exact SeqAt.notIn_tuple_reads r2 r1 se (SeqAt.canLay_of_shaped sd) (PyProof.Rows.room_in_shaped sd hu) ⟨.bl _, H, I, rfl, q⟩
theorem inF_py (o : W.Ok K N.toNames) {x y : D} {vx vy : V} {b : Bool} (rx : RelD W x vx) (ry : RelD W y vy) (h : inF W.η x y = some b) :
    ∃ d ds, Dp K W.H vx d ∧ (Dp K W.H vy (.list ds) ∨ Dp K W.H vy (.tuple ds)) ∧ SeqAt.shaped d = true ∧ PyData.canLayAll0 ds = true ∧ b = (ds.any fun z => PyData.eqv z d) := by
  unfold inF at h
  cases e : seqOf W.η y with
  | none => rw [e] at h; cases h
  | some a =>
    rw [e] at h
    simp only at h
    cases ex : pur 8 x with
    | false => rw [ex] at h; cases h
    | true =>
      cases ey : purs 8 a with
      | false => rw [ex, ey] at h; cases h
      | true =>
        rw [ex, ey] at h
        cases h
        obtain ⟨h1, h2, h3⟩ := pur_dp (K := K) 8 x vx ex rx
        refine ⟨toPy x, toPys a, h1, ?_, shaped_of h2 (by omega), ?_, any_py 8 x ex a ey⟩
        · cases y with
          | ref r =>
            obtain ⟨vs, g1, g2, g3⟩ := list_of o e
            rw [relRef ry]
            exact .inl (.lst g1 (purs_dp (K := K) 8 a vs ey g2).1)
          | tup l =>
            cases e
            obtain ⟨q, vs, rfl, hs, rs⟩ := relTup ry
            exact .inr (.tup (SqT.of hs) (purs_dp (K := K) 8 _ vs ey rs).1)
          | _ => cases e
        · cases y with
          | ref r =>
            obtain ⟨vs, g1, g2, g3⟩ := list_of o e
            exact (purs_dp (K := K) 8 a vs ey g2).2.1
          | tup l =>
            cases e
            obtain ⟨q, vs, rfl, hs, rs⟩ := relTup ry
            exact (purs_dp (K := K) 8 _ vs ey rs).2.1
          | _ => cases e
theorem opd_notIn (hu : X.A.units + 65 < cLine) : OpR X (compareOp .NotIn) (r2 X.K N fNotIn) := OpR.imp (op_notInA hu) fun x y H Q q => by
  obtain ⟨W, dx, dy, d, η', rfl, o, rx, ry, hf, hq⟩ := q
  unfold fNotIn at hf
  cases e : inF W.η dx dy with
  | none => rw [e] at hf; cases hf
  | some b =>
    rw [e] at hf
    simp only [Option.some.injEq, Prod.mk.injEq] at hf
    obtain ⟨rfl, rfl⟩ := hf
    obtain ⟨d, ds, h1, h2, h3, h4, rfl⟩ := inF_py o rx ry e
    exact ⟨d, ds, h1, h2, h3, h4, same_w o hq mkBl⟩
end
end DL

/-! expressions -/
namespace DL
open PySem PySem.Spec L2
section
variable {X : Cx} {N : Nm} {E : XK}

/-! ### arguments, displays -/
def cNil : CA := fun _ η k _ => k [] η
def cCons (a : CE) (r : CA) : CA := fun σ η k kx => a σ η (fun x η1 => r σ η1 (fun xs η2 => k (x :: xs) η2) kx) kx
theorem ja_nil : JA X N E [] cNil := PA.imp pa_nil fun σ H Q q => by
  obtain ⟨W, σd, kv, kx, rfl, o, s, h, hv, hx⟩ := q
  exact hv W [] [] (Ext.refl W) o .nil h
theorem ja_cons {e : Expr} {es : List Expr} {c : CE} {cs : CA} (ha : JE X N E e c) (hr : JA X N E es cs) (hs : starEach (e :: es) X.env = (false, eval e X.env) :: starEach es X.env := by rfl) : JA X N E (e :: es) (cCons c cs) :=
  PA.imp (pa_cons ha hr hs) fun σ H Q q => by
    obtain ⟨W, σd, kv, kx, rfl, o, s, h, hv, hx⟩ := q
    refine tE.bind o s hx h fun W1 d v x1 o1 r1 s1 hx1 h1 => ?_
    refine tAr.bind o1 s1 hx1 h1 fun W2 ds vs x2 o2 r2 s2 hx2 h2 => ?_
    exact hv W2 (d :: ds) (v :: vs) (x1.trans o o1 x2) o2 (.cons (r1.mono o1 x2) r2) h2
def cTup (a : CA) : CE := fun σ η kv kx => a σ η (fun ds η1 => match Nat.ble ds.length line with
  | true => kv (.tup ds) η1
  | false => false) kx
def cLst (a : CA) : CE := fun σ η kv kx => a σ η (fun ds η1 => match Nat.ble ds.length line with
  | true => kv (.ref η1.nx) (η1.new (.lst ds))
  | false => false) kx
theorem Vk.tup {K : PySem.W.Frag} {W W0 : Wl} {kv : KV} {Q : VK} {ds : List D} {vs : List V} {p : Addr} (o : W.Ok K N.toNames) (hv : Vk K N W kv Q) (h : kv (.tup ds) W.η = true) (hp : W.H p = none) (r : RelDs W ds vs) : Q (.ref p) (upd W.H p (.tup vs)) :=
  new_tup (N := N) o (fun W' v x o' e r' => hv W' _ v x o' r' (by rw [e]; exact h)) hp r
theorem Vk.lst {K : PySem.W.Frag} {W : Wl} {kv : KV} {Q : VK} {ds : List D} {vs : List V} {p : Addr} (o : W.Ok K N.toNames) (hv : Vk K N W kv Q) (h : kv (.ref W.η.nx) (W.η.new (.lst ds)) = true) (hp : W.H p = none) (r : RelDs W ds vs) (hl : ds.length ≤ sizeLine) : Q (.ref p) (upd W.H p (.lst vs)) :=
  new_lst (N := N) o (fun W' v x o' e r' => hv W' _ v x o' r' (by rw [e]; exact h)) hp r hl
theorem je_tup {es : List Expr} {x1 : Nat} {pos : Pos} {c : CA} (h : JA X N E es c) : JE X N E (.Tuple es x1 pos) (cTup c) := PE.imp (pe_tup h) fun σ H Q q => by
  obtain ⟨W, σd, kv, kx, rfl, o, s, h, hv, hx⟩ := q
  refine tAr.bind o s hx h fun W1 ds vs x1 o1 r1 s1 hx1 h1 => ?_
  cases e : Nat.ble ds.length line with
  | false => rw [e] at h1; cases h1
  | true =>
    rw [e] at h1
    exact ⟨by rw [← r1.length]; exact Nat.le_of_ble_eq_true e, fun p hp => Vk.tup (W0 := W) o1 (hv.mono o o1 x1) h1 hp r1⟩
theorem je_lst {es : List Expr} {pos : Pos} {c : CA} (h : JA X N E es c) : JE X N E (.List es pos) (cLst c) := PE.imp (pe_lst h) fun σ H Q q => by
  obtain ⟨W, σd, kv, kx, rfl, o, s, h, hv, hx⟩ := q
  refine tAr.bind o s hx h fun W1 ds vs x1 o1 r1 s1 hx1 h1 => ?_
  cases e : Nat.ble ds.length line with
  | false => rw [e] at h1; cases h1
  | true =>
    rw [e] at h1
    have hl : ds.length ≤ sizeLine := Nat.le_of_ble_eq_true e
    exact ⟨by rw [← r1.length]; exact hl, fun p hp => Vk.lst o1 (hv.mono o o1 x1) h1 hp r1 hl⟩

/-! ### unary -/
def cNeg (a : CE) : CE := fun σ η kv kx => a σ η (fun x η1 => match x with
  | .int i => kv (.int (Int.neg i)) η1
  | _ => false) kx
theorem je_neg {a : Expr} {c : CE} {pos : Pos} (h : JE X N E a c) : JE X N E (.UnaryOp .USub a pos) (cNeg c) := PE.imp (pe_un un_neg h) fun σ H Q q => by
  obtain ⟨W, σd, kv, kx, rfl, o, s, h, hv, hx⟩ := q
  refine tE.bind o s hx h fun W1 d v x1 o1 r1 s1 hx1 h1 => ?_
  cases d with
  | int i => rw [relInt r1]; exact ⟨i, rfl, (hv.mono o o1 x1).here o1 mkInt h1⟩
  | _ => cases h1
def cNot (a : CE) : CE := fun σ η kv kx => a σ η (fun x η1 => match x with
  | .bl b => kv (.bl (!b)) η1
  | _ => false) kx
theorem je_not {a : Expr} {c : CE} {pos : Pos} (h : JE X N E a c) : JE X N E (.UnaryOp .Not a pos) (cNot c) := PE.imp (pe_not h) fun σ H Q q => by
  obtain ⟨W, σd, kv, kx, rfl, o, s, h, hv, hx⟩ := q
  refine tE.bind o s hx h fun W1 d v x1 o1 r1 s1 hx1 h1 => ?_
  cases d with
  | bl i => rw [relBl r1]; exact ⟨i, rfl, (hv.mono o o1 x1).here o1 mkBl h1⟩
  | _ => cases h1

/-! ### tests -/
def cTst (a : CE) : CT := fun σ η k kx => a σ η (fun x η1 => match x with
  | .bl b => k b η1
  | _ => false) kx
theorem jt_val {e : Expr} {c : CE} (h : JE X N E e c) (he : ∀ whole, isTrue e X.env whole = (do let v ← whole; standAt e.pos; holding [v] (truthy v)) := by intro _; rfl) : JT X N E e (cTst c) := PT.imp (pt_val h he) fun σ H Q q => by
  obtain ⟨W, σd, kv, kx, rfl, o, s, h, hv, hx⟩ := q
  refine tE.bind o s hx h fun W1 d v x1 o1 r1 s1 hx1 h1 => ?_
  cases d with
  | bl i => rw [relBl r1]; exact ⟨i, rfl, hv W1 i x1 o1 h1⟩
  | _ => cases h1
def ctAnd (a b : CT) : CT := fun σ η k kx => a σ η (fun x η1 => match x with
  | true => b σ η1 k kx
  | false => k false η1) kx
def ctOr (a b : CT) : CT := fun σ η k kx => a σ η (fun x η1 => match x with
  | true => k true η1
  | false => b σ η1 k kx) kx
def ctNot (a : CT) : CT := fun σ η k kx => a σ η (fun x η1 => k (!x) η1) kx
def JW (X : Cx) (N : Nm) (E : XK) (e : Expr) (c : CT) : Prop := PW X e (tT X.K N E c)
theorem jt_of {e : Expr} {c : CT} (h : JW X N E e c) : JT X N E e c := PW.pt h
theorem jw_and1 {a : Expr} {c : CT} {pos : Pos} (h : JT X N E a c) : JW X N E (.BoolOp .And [a] pos) c := pw_and1 h
theorem jw_or1 {a : Expr} {c : CT} {pos : Pos} (h : JT X N E a c) : JW X N E (.BoolOp .Or [a] pos) c := pw_or1 h
theorem jw_and {a b : Expr} {rest : List Expr} {c d : CT} {pos : Pos} (h : JT X N E a c) (h2 : JW X N E (.BoolOp .And (b :: rest) pos) d) : JW X N E (.BoolOp .And (a :: b :: rest) pos) (ctAnd c d) := PW.imp (pw_and h h2) fun σ H Q q => by
  obtain ⟨W, σd, kv, kx, rfl, o, s, h, hv, hx⟩ := q
  refine tT.bind o s hx h fun W1 b x1 o1 s1 hx1 h1 => ?_
  cases b with
  | true => rw [if_pos rfl]; exact tT.bind o1 s1 hx1 h1 fun W2 b2 x2 o2 _ _ h2 => hv W2 b2 (x1.trans o o1 x2) o2 h2
  | false => rw [if_neg (by decide)]; exact hv W1 false x1 o1 h1
theorem jw_or {a b : Expr} {rest : List Expr} {c d : CT} {pos : Pos} (h : JT X N E a c) (h2 : JW X N E (.BoolOp .Or (b :: rest) pos) d) : JW X N E (.BoolOp .Or (a :: b :: rest) pos) (ctOr c d) := PW.imp (pw_or h h2) fun σ H Q q => by
  obtain ⟨W, σd, kv, kx, rfl, o, s, h, hv, hx⟩ := q
  refine tT.bind o s hx h fun W1 b x1 o1 s1 hx1 h1 => ?_
  cases b with
  | true => rw [if_pos rfl]; exact hv W1 true x1 o1 h1
  | false => rw [if_neg (by decide)]; exact tT.bind o1 s1 hx1 h1 fun W2 b2 x2 o2 _ _ h2 => hv W2 b2 (x1.trans o o1 x2) o2 h2
theorem jt_not {a : Expr} {c : CT} {pos : Pos} (h : JT X N E a c) : JT X N E (.UnaryOp .Not a pos) (ctNot c) := PT.imp (pt_not h) fun σ H Q q => by
  obtain ⟨W, σd, kv, kx, rfl, o, s, h, hv, hx⟩ := q
  exact tT.bind o s hx h fun W1 b x1 o1 s1 hx1 h1 => hv W1 (!b) x1 o1 h1
def cIf (t : CT) (a b : CE) : CE := fun σ η kv kx => t σ η (fun x η1 => match x with
  | true => a σ η1 kv kx
  | false => b σ η1 kv kx) kx
theorem je_if {c a b : Expr} {ct : CT} {ca cb : CE} {pos : Pos} (hc : JT X N E c ct) (ha : JE X N E a ca) (hb : JE X N E b cb) : JE X N E (.IfExp c a b pos) (cIf ct ca cb) := PE.imp (pe_ifExp hc ha hb) fun σ H Q q => by
  obtain ⟨W, σd, kv, kx, rfl, o, s, h, hv, hx⟩ := q
  refine tT.bind o s hx h fun W1 b x1 o1 s1 hx1 h1 => ?_
  cases b with
  | true => rw [if_pos rfl]; exact tE.bind o1 s1 hx1 h1 fun W2 d2 v2 x2 o2 r2 _ _ h2 => hv W2 d2 v2 (x1.trans o o1 x2) o2 r2 h2
  | false => rw [if_neg (by decide)]; exact tE.bind o1 s1 hx1 h1 fun W2 d2 v2 x2 o2 r2 _ _ h2 => hv W2 d2 v2 (x1.trans o o1 x2) o2 r2 h2
/-- a < b < c -/
def cChain (f g : F2) (a b c : CE) : CE := fun σ η kv kx => a σ η (fun x η1 => b σ η1 (fun y η2 => match f x y η2 with
  | some (.bl true, η3) => c σ η3 (fun z η4 => match g y z η4 with
    | some (d, η5) => kv d η5
    | none => false) kx
  | some (.bl false, η3) => kv (.bl false) η3
  | _ => false) kx) kx
theorem tChain_of {f g : F2} {ca cb cc : CE} {K : PySem.W.Frag} {σ : St} {H : Hp} {Q : VK} (h : tE K N E (cChain f g ca cb cc) σ H Q) : tChain (r2 K N f) (r2 K N g) (tE K N E ca) (tE K N E cb) (tE K N E cc) σ H Q := by
  obtain ⟨W, σd, kv, kx, rfl, o, s, h, hv, hx⟩ := h
  refine tE.bind o s hx h fun W1 dx x x1 o1 r1 s1 hx1 h1 => ?_
  refine tE.bind o1 s1 hx1 h1 fun W2 dy y x2 o2 r2' s2 hx2 h2 => ?_
  have x02 := x1.trans o o1 x2
  cases e : f dx dy W2.η with
  | none => rw [e] at h2; cases h2
  | some p =>
    obtain ⟨d, η'⟩ := p
    rw [e] at h2
    refine ⟨W2, dx, dy, d, η', rfl, o2, r1.mono o1 x2, r2', e, fun W3 v x3 o3 e3 r3 => ?_⟩
    cases d with
    | bl b =>
      rw [relBl r3]
      cases b with
      | true =>
        refine ⟨true, rfl, ?_⟩
        rw [if_pos rfl]
        refine tE.bind o3 (s2.mono o2 x3) (hx2.mono o2 o3 x3) (by rw [e3]; exact h2) fun W4 dz z x4 o4 r4 s4 hx4 h4 => ?_
        have ry : RelD W4 dy y := (r2'.mono o2 x3).mono o3 x4
        cases e4 : g dy dz W4.η with
        | none => rw [e4] at h4; cases h4
        | some p =>
          obtain ⟨d, η'⟩ := p
          rw [e4] at h4
          exact ⟨W4, dy, dz, d, η', rfl, o4, ry, r4, e4, fun W5 v x5 o5 e5 r5 => hv W5 d v (x02.trans o o2 (x3.trans o2 o3 (x4.trans o3 o4 x5))) o5 r5 (by rw [e5]; exact h4)⟩
      | false =>
        refine ⟨false, rfl, ?_⟩
        rw [if_neg (by decide)]
        exact (hv.mono o o3 (x02.trans o o2 x3)).here o3 mkBl (by rw [e3]; exact h2)
    | _ => cases h2
end
end DL

/-! tests by comparison, subscripts, slices, built-ins, methods -/
namespace DL
open PySem PySem.Spec L2
section
variable {X : Cx} {N : Nm} {E : XK}
theorem tTest_of {c : CE} {K : PySem.W.Frag} {σ : St} {H : Hp} {Q : Bool → Hp → Prop} (h : tT K N E (cTst c) σ H Q) : tE K N E c σ H (fun x H' => ∃ k, x = .bl k ∧ Q k H') := by
  obtain ⟨W, σd, kv, kx, rfl, o, s, h, hv, hx⟩ := h
  refine tE.bind o s hx h fun W1 d v x1 o1 r1 s1 hx1 h1 => ?_
  cases d with
  | bl i => rw [relBl r1]; exact ⟨i, rfl, hv W1 i x1 o1 h1⟩
  | _ => cases h1
theorem jt_cmp {op : CmpOp} {f : F2} {a b : Expr} {ca cb : CE} {pos : Pos} (ho : OpR X (compareOp op) (r2 X.K N f)) (ha : JE X N E a ca) (hb : JE X N E b cb) (hm : behindInMarks op b = false) : JT X N E (.Compare a [op] [b] pos) (cTst (cOp f ca cb)) :=
  PT.imp (pt_cmpR ho ha hb hm) fun σ H Q q => tOp_of (tTest_of q)
theorem jt_chain {op op' : CmpOp} {f g : F2} {a b c : Expr} {ca cb cc : CE} {pos : Pos} (ho : OpR X (compareOp op) (r2 X.K N f)) (ho' : OpR X (compareOp op') (r2 X.K N g)) (ha : JE X N E a ca) (hb : JE X N E b cb) (hc : JE X N E c cc)
    (hm : lastMarks [op, op'] [b, c] = false := by with_unfolding_all rfl) : JT X N E (.Compare a [op, op'] [b, c] pos) (cTst (cChain f g ca cb cc)) :=
  PT.imp (pt_chain ho ho' ha hb hc hm) fun σ H Q q => tChain_of (tTest_of q)

/-! ### subscripts -/
def atD (l : List D) : Int → Option D
  | .ofNat n => l[n]?
  | .negSucc n => match Nat.ble (n + 1) l.length with
    | true => l[l.length - (n + 1)]?
    | false => none
theorem atD_atI {W : Wl} {l : List D} {vs : List V} {i : Int} {d : D} (r : RelDs W l vs) (h : atD l i = some d) : ∃ v, atI vs i = some v ∧ RelD W d v := by
  have hl := r.length
  cases i with
  | ofNat n =>
    have h' : l[n]? = some d := h
    obtain ⟨v, e, rv⟩ := r.get' h'
    have hn : n < vs.length := (List.getElem?_eq_some_iff.mp e).1
    refine ⟨v, ?_, rv⟩
    unfold atI ixN
    rw [if_pos (show (0 : Int) ≤ Int.ofNat n from Int.natCast_nonneg n), if_pos (show Int.ofNat n < (vs.length : Int) from by show ((n : Nat) : Int) < _; omega)]
    exact e
  | negSucc n =>
    simp only [atD] at h
    cases e : Nat.ble (n + 1) l.length with
    | false => rw [e] at h; cases h
    | true =>
      rw [e] at h
      have hb : n + 1 ≤ l.length := Nat.le_of_ble_eq_true e
      obtain ⟨v, ev, rv⟩ := r.get' h
      refine ⟨v, ?_, rv⟩
      unfold atI ixN
      have e1 : Int.negSucc n = -((n + 1 : Nat) : Int) := rfl
      rw [if_neg (show ¬ (0 : Int) ≤ Int.negSucc n from by rw [e1]; omega), if_pos (show -(vs.length : Int) ≤ Int.negSucc n from by rw [e1]; omega)]
      have e2 : (Int.negSucc n + (vs.length : Int)).toNat = l.length - (n + 1) := by rw [e1]; omega
      show vs[(Int.negSucc n + (vs.length : Int)).toNat]? = some v
      rw [e2]; exact ev
/-- the value under a key -/
def eqK1 : D → D → Bool
  | .int i, .int j => ieq i j
  | .str a, .str b => decide (a = b)
  | _, _ => false
def eqK : D → D → Bool
  | .tup a, .tup b => eqL eqK1 a b
  | x, y => eqK1 x y
def isKey : Bool → D → Bool
  | false, .int _ => true
  | false, .str _ => true
  | true, .tup l => l.all fun x => match x with
    | .int _ => true
    | .str _ => true
    | _ => false
  | _, _ => false
def dlook (k : D) : List (D × D) → Option D
  | [] => none
  | p :: r => match eqK p.1 k with
    | true => some p.2
    | false => dlook k r
theorem ieq_iff {i j : Int} : ieq i j = true ↔ i = j := by rw [ieq_eq]; exact beq_iff_eq
theorem key0_eq {x y : D} {a b : Key} (hx : D.key x = some a) (hy : D.key y = some b) : eqK1 x y = decide (a = b) := by
  cases x with
  | int i =>
    cases hx
    cases y with
    | int j =>
      cases hy
      show ieq i j = decide ((Sum.inl i : Key) = Sum.inl j)
      rw [ieq_eq, key_ll]
    | str s => cases hy; exact (key_lr i s).symm
    | _ => cases hy
  | str s =>
    cases hx
    cases y with
    | int j => cases hy; exact (key_rl s j).symm
    | str t => cases hy; exact (key_rr s t).symm
    | _ => cases hy
  | _ => cases hx
theorem key1_eq {x y : D} {a b : Key} (hx : D.key x = some a) (hy : D.key y = some b) : eqK x y = decide (a = b) := by
  rw [← key0_eq hx hy]
  cases x <;> cases y <;> first | rfl | (cases hx) | (cases hy)
theorem keysOf_cons {x : D} {xs : List D} {a : List Key} (h : keysOf (x :: xs) = some a) : ∃ k ks, a = k :: ks ∧ D.key x = some k ∧ keysOf xs = some ks := by
  simp only [keysOf] at h
  cases e : D.key x with
  | none => rw [e] at h; cases h
  | some k =>
    cases e2 : keysOf xs with
    | none => rw [e, e2] at h; cases h
    | some ks => rw [e, e2] at h; cases h; exact ⟨k, ks, rfl, rfl, rfl⟩
theorem keyT_eq : ∀ {l m : List D} {a b : List Key}, keysOf l = some a → keysOf m = some b → eqK (.tup l) (.tup m) = decide (a = b)
  | [], m, a, b, hx, hy => by
    cases hx
    cases m with
    | nil => cases hy; rfl
    | cons y ys => obtain ⟨k, ks, rfl, _, _⟩ := keysOf_cons hy; simp [eqK, eqL]
  | x :: xs, m, a, b, hx, hy => by
    obtain ⟨k, ks, rfl, h1, h2⟩ := keysOf_cons hx
    cases m with
    | nil => cases hy; simp [eqK, eqL]
    | cons y ys =>
      obtain ⟨k', ks', rfl, g1, g2⟩ := keysOf_cons hy
      have e1 := key0_eq h1 g1
      have e2 : eqL eqK1 xs ys = decide (ks = ks') := keyT_eq h2 g2
      show eqL eqK1 (x :: xs) (y :: ys) = _
      unfold eqL
      rw [e1]
      by_cases hk : k = k'
      · rw [decide_eq_true hk]
        show eqL eqK1 xs ys = _
        rw [e2]
        by_cases hks : ks = ks'
        · rw [decide_eq_true hks, decide_eq_true (by rw [hk, hks])]
        · rw [decide_eq_false hks, decide_eq_false (by intro z; cases z; exact hks rfl)]
      · rw [decide_eq_false hk]
        exact (decide_eq_false (by intro z; cases z; exact hk rfl)).symm
theorem dlookK {W : Wl} {k : D} {k' : Key} (hk : D.key k = some k') : ∀ {kvs : List (D × D)} {ps : List (Key × V)}, RelK W kvs ps → (∀ d, dlook k kvs = some d → ∃ v, valV ps k' = some v ∧ RelD W d v) ∧ (dlook k kvs = none → valV ps k' = none)
  | [], ps, h => by rw [RelK] at h; subst h; exact ⟨fun d e => (nomatch e), fun _ => rfl⟩
  | (a, b) :: r, ps, h => by
    rw [RelK] at h
    obtain ⟨a', v, ps', rfl, h1, h2, h3⟩ := h
    obtain ⟨ih1, ih2⟩ := dlookK hk h3
    have e := key1_eq h1 hk
    unfold dlook
    by_cases z : a' = k'
    · have e2 : eqK a k = true := by rw [e, decide_eq_true z]
      simp only [e2]
      exact ⟨fun d q => by cases q; exact ⟨v, valV_pos z, h2⟩, fun q => by cases q⟩
    · have e2 : eqK a k = false := by rw [e, decide_eq_false z]
      simp only [e2]
      rw [valV_neg z]
      exact ⟨ih1, ih2⟩
theorem dlookT {W : Wl} {k : D} {k' : List Key} (hk : D.tkey k = some k') : ∀ {kvs : List (D × D)} {ps : List (List Key × V)}, RelT W kvs ps → (∀ d, dlook k kvs = some d → ∃ v, valV ps k' = some v ∧ RelD W d v) ∧ (dlook k kvs = none → valV ps k' = none)
  | [], ps, h => by rw [RelT] at h; subst h; exact ⟨fun d e => (nomatch e), fun _ => rfl⟩
  | (a, b) :: r, ps, h => by
    rw [RelT] at h
    obtain ⟨a', v, ps', rfl, h1, h2, h3⟩ := h
    obtain ⟨ih1, ih2⟩ := dlookT hk h3
    have e : eqK a k = decide (a' = k') := by
      cases a with
      | tup l =>
        cases k with
        | tup m => exact keyT_eq h1 hk
        | _ => cases hk
      | _ => cases h1
    unfold dlook
    by_cases z : a' = k'
    · have e2 : eqK a k = true := by rw [e, decide_eq_true z]
      simp only [e2]
      exact ⟨fun d q => by cases q; exact ⟨v, valV_pos z, h2⟩, fun q => by cases q⟩
    · have e2 : eqK a k = false := by rw [e, decide_eq_false z]
      simp only [e2]
      rw [valV_neg z]
      exact ⟨ih1, ih2⟩
theorem key_rel {W : Wl} {k : D} {k' : Key} {v : V} (hk : D.key k = some k') (r : RelD W k v) : v = kV k' := by
  cases k with
  | int i => cases hk; exact relInt r
  | str i => cases hk; exact relStr r
  | _ => cases hk
theorem keys_rel {W : Wl} : ∀ {l : List D} {ks : List Key} {vs : List V}, keysOf l = some ks → RelDs W l vs → vs = ks.map kV
  | [], ks, vs, h, r => by cases h; rw [RelDs] at r; subst r; rfl
  | x :: xs, ks, vs, h, r => by
    obtain ⟨k, ks', rfl, h1, h2⟩ := keysOf_cons h
    rw [RelDs] at r
    obtain ⟨v, vs', rfl, r1, r2⟩ := r
    rw [key_rel h1 r1, keys_rel h2 r2]; rfl
theorem isKey_key {k : D} (h : isKey false k = true) : ∃ k', D.key k = some k' := by
  cases k with
  | int i => exact ⟨_, rfl⟩
  | str i => exact ⟨_, rfl⟩
  | _ => cases h
theorem isKey_keys : ∀ {l : List D}, isKey true (.tup l) = true → ∃ k', keysOf l = some k'
  | [], _ => ⟨[], rfl⟩
  | x :: xs, h => by
    simp only [isKey, List.all_cons, Bool.and_eq_true] at h
    obtain ⟨ks, e⟩ := isKey_keys (l := xs) h.2
    cases x with
    | int i => exact ⟨.inl i :: ks, by simp only [keysOf, D.key, e]⟩
    | str i => exact ⟨.inr i :: ks, by simp only [keysOf, D.key, e]⟩
    | _ => exact absurd h.1 (by simp)
theorem isKey_tkey {k : D} (h : isKey true k = true) : ∃ k', D.tkey k = some k' := by
  cases k with
  | tup l => exact isKey_keys h
  | _ => cases h
/-- what a dict's cell tells of a key -/
theorem dget_of {K : PySem.W.Frag} {W : Wl} {r : Nat} {t : Bool} {kvs : List (D × D)} {k : D} {v : V} (o : W.Ok K N.toNames) (h : W.η.get r = some (.dct t kvs)) (hk : isKey t k = true) (rk : RelD W k v) :
    (∀ d, dlook k kvs = some d → ∃ w, DGet W.H (W.μ r) v (some w) ∧ RelD W d w) ∧ (dlook k kvs = none → DGet W.H (W.μ r) v none) := by
  have c := o.cell r _ h
  cases t with
  | false =>
    obtain ⟨ps, h1, h2, h3⟩ := c
    obtain ⟨k', hk'⟩ := isKey_key hk
    obtain ⟨a, b⟩ := dlookK hk' h2
    have ev := key_rel hk' rk
    subst ev
    exact ⟨fun d e => by obtain ⟨w, e1, e2⟩ := a d e; exact ⟨w, .inl ⟨ps, k', .inl h1, rfl, e1.symm⟩, e2⟩, fun e => .inl ⟨ps, k', .inl h1, rfl, (b e).symm⟩⟩
  | true =>
    obtain ⟨ps, h1, h2, h3⟩ := c
    obtain ⟨k', hk'⟩ := isKey_tkey hk
    obtain ⟨a, b⟩ := dlookT hk' h2
    cases k with
    | tup l =>
      obtain ⟨q, vs, rfl, hq, rq⟩ := relTup rk
      have ev := keys_rel hk' rq
      subst ev
      exact ⟨fun d e => by obtain ⟨w, e1, e2⟩ := a d e; exact ⟨w, .inr ⟨ps, k', q, .inl h1, rfl, hq, e1.symm⟩, e2⟩, fun e => .inr ⟨ps, k', q, .inl h1, rfl, hq, (b e).symm⟩⟩
    | _ => cases hk
/-- o[i] -/
def fIx : F2 := fun x y η => match x, y with
  | .tup l, .int i => match atD l i with
    | some d => some (d, η)
    | none => none
  | .ftup l, .int i => match atD l i with
    | some d => some (d, η)
    | none => none
  | .ref r, k => match η.get r with
    | some (.lst l) => match k with
      | .int i => match atD l i with
        | some d => some (d, η)
        | none => none
      | _ => none
    | some (.frz l) => match k with
      | .int i => match atD l i with
        | some d => some (d, η)
        | none => none
      | _ => none
    | some (.dct t kvs) => match isKey t k with
      | true => match dlook k kvs with
        | some d => some (d, η)
        | none => none
      | false => none
    | some (.ldc t kvs) => match isKey t k with
      | true => match dlook k kvs with
        | some d => some (d, η)
        | none => none
      | false => none
    | _ => none
  | _, _ => none
/-- the same of a dict that is walked meanwhile -/
theorem dget_ofL {K : PySem.W.Frag} {W : Wl} {r : Nat} {t : Bool} {kvs : List (D × D)} {k : D} {v : V} (o : W.Ok K N.toNames) (h : W.η.get r = some (.ldc t kvs)) (hk : isKey t k = true) (rk : RelD W k v) :
    (∀ d, dlook k kvs = some d → ∃ w, DGet W.H (W.μ r) v (some w) ∧ RelD W d w) ∧ (dlook k kvs = none → DGet W.H (W.μ r) v none) := by
  have c := o.cell r _ h
  cases t with
  | false =>
    obtain ⟨ps, ob, h1, h2, h3⟩ := c
    obtain ⟨k', hk'⟩ := isKey_key hk
    obtain ⟨a, b⟩ := dlookK hk' h2
    have ev := key_rel hk' rk
    subst ev
    exact ⟨fun d e => by obtain ⟨w, e1, e2⟩ := a d e; exact ⟨w, .inl ⟨ps, k', .inr ⟨ob, h1⟩, rfl, e1.symm⟩, e2⟩, fun e => .inl ⟨ps, k', .inr ⟨ob, h1⟩, rfl, (b e).symm⟩⟩
  | true =>
    obtain ⟨ps, ob, h1, h2, h3⟩ := c
    obtain ⟨k', hk'⟩ := isKey_tkey hk
    obtain ⟨a, b⟩ := dlookT hk' h2
    cases k with
    | tup l =>
      obtain ⟨q, vs, rfl, hq, rq⟩ := relTup rk
      have ev := keys_rel hk' rq
      subst ev
      exact ⟨fun d e => by obtain ⟨w, e1, e2⟩ := a d e; exact ⟨w, .inr ⟨ps, k', q, .inr ⟨ob, h1⟩, rfl, hq, e1.symm⟩, e2⟩, fun e => .inr ⟨ps, k', q, .inr ⟨ob, h1⟩, rfl, hq, (b e).symm⟩⟩
    | _ => cases hk
theorem ix_dict (hu : X.A.units + 1 < cLine) : IxR X (fun x y H Q => ∃ a v, x = .ref a ∧ DGet H a y (some v) ∧ Q v H) := by
  intro value slice pins s σ H x y v u Q I rx ry h hs
  obtain ⟨a, w, rfl, g, q⟩ := h
  obtain rfl : v = Value.ref a := rx
  have ht := dict_typeIs I g
  exact PyProof.Rows.tail_any ht PySem.F.slot_dict_getitem.lookup (d_getItem hu I g ry fun w' s3 I3 rw' => ⟨w, H, I3, rw', q⟩) hs
theorem IxR.or {r r' : R2} (h : IxR X r) (h' : IxR X r') : IxR X (fun x y H Q => r x y H Q ∨ r' x y H Q) := by
  intro value slice pins s σ H x y v u Q I rx ry hh hs
  rcases hh with hh | hh
  · exact h value slice pins s σ H x y v u Q I rx ry hh hs
  · exact h' value slice pins s σ H x y v u Q I rx ry hh hs
theorem fIx_ok {K : PySem.W.Frag} {x y : V} {H : Hp} {Q : VK} (q : r2 K N fIx x y H Q) : (rIxL K x y H Q ∨ rIxT K x y H Q) ∨ ∃ a v, x = .ref a ∧ DGet H a y (some v) ∧ Q v H := by
  obtain ⟨W, dx, dy, d, η', rfl, o, rx, ry, hf, hq⟩ := q
  have lcase : ∀ {r : Nat} {l : List D} {k : D}, W.η.list r = some l → RelD W (.ref r) x → RelD W k y → (match k with | .int i => (match atD l i with | some d => some (d, W.η) | none => none) | _ => none) = some (d, η') → rIxL K x y W.H Q := by
    intro r l k hl rx ry hf
    cases k with
    | int i =>
      simp only at hf
      cases e : atD l i with
      | none => rw [e] at hf; cases hf
      | some d' =>
        rw [e] at hf
        simp only [Option.some.injEq, Prod.mk.injEq] at hf
        obtain ⟨rfl, rfl⟩ := hf
        obtain ⟨vs, h1, h2, h3⟩ := list_of o hl
        obtain ⟨v, e1, e2⟩ := atD_atI h2 e
        rw [relRef rx, relInt ry]
        exact ⟨_, vs, i, v, rfl, rfl, h1, e1, same_w o hq e2⟩
    | _ => cases hf
  cases dx with
  | tup l =>
    cases dy with
    | int i =>
      simp only [fIx] at hf
      cases e : atD l i with
      | none => rw [e] at hf; cases hf
      | some d' =>
        rw [e] at hf
        simp only [Option.some.injEq, Prod.mk.injEq] at hf
        obtain ⟨rfl, rfl⟩ := hf
        obtain ⟨p, vs, rfl, hs, rs⟩ := relTup rx
        obtain ⟨v, e1, e2⟩ := atD_atI rs e
        rw [relInt ry]
        exact .inl (.inr ⟨p, vs, i, v, rfl, rfl, SqT.of hs, e1, same_w o hq e2⟩)
    | _ => cases hf
  | ftup l =>
    cases dy with
    | int i =>
      simp only [fIx] at hf
      cases e : atD l i with
      | none => rw [e] at hf; cases hf
      | some d' =>
        rw [e] at hf
        simp only [Option.some.injEq, Prod.mk.injEq] at hf
        obtain ⟨rfl, rfl⟩ := hf
        obtain ⟨p, vs, ob, rfl, hs, _, rs⟩ := relFtup rx
        obtain ⟨v, e1, e2⟩ := atD_atI rs e
        rw [relInt ry]
        exact .inl (.inr ⟨p, vs, i, v, rfl, rfl, (.inl (.inr ⟨ob, hs⟩)), e1, same_w o hq e2⟩)
    | _ => cases hf
  | ref r =>
    simp only [fIx] at hf
    cases e : W.η.get r with
    | none => rw [e] at hf; cases hf
    | some c =>
      rw [e] at hf
      cases c with
      | lst l => exact .inl (.inl (lcase (r := r) (l := l) (k := dy) (by unfold Hd.list; rw [e]) rx ry hf))
      | frz l => exact .inl (.inl (lcase (r := r) (l := l) (k := dy) (by unfold Hd.list; rw [e]) rx ry hf))
      | dct t kvs =>
        simp only at hf
        cases ek : isKey t dy with
        | false => rw [ek] at hf; cases hf
        | true =>
          rw [ek] at hf
          simp only at hf
          cases el : dlook dy kvs with
          | none => rw [el] at hf; cases hf
          | some d' =>
            rw [el] at hf
            simp only [Option.some.injEq, Prod.mk.injEq] at hf
            obtain ⟨rfl, rfl⟩ := hf
            obtain ⟨w, g, rw'⟩ := (dget_of o e ek ry).1 _ el
            rw [relRef rx]
            exact .inr ⟨_, w, rfl, g, same_w o hq rw'⟩
      | ldc t kvs =>
        simp only at hf
        cases ek : isKey t dy with
        | false => rw [ek] at hf; cases hf
        | true =>
          rw [ek] at hf
          simp only at hf
          cases el : dlook dy kvs with
          | none => rw [el] at hf; cases hf
          | some d' =>
            rw [el] at hf
            simp only [Option.some.injEq, Prod.mk.injEq] at hf
            obtain ⟨rfl, rfl⟩ := hf
            obtain ⟨w, g, rw'⟩ := (dget_ofL o e ek ry).1 _ el
            rw [relRef rx]
            exact .inr ⟨_, w, rfl, g, same_w o hq rw'⟩
      | _ => cases hf
  | _ => cases hf
theorem je_ix {a b : Expr} {ca cb : CE} {pos : Pos} (hu : X.A.units + 1 < cLine) (ha : JE X N E a ca) (hb : JE X N E b cb) (hs : PlainIx b) : JE X N E (.Subscript a b pos) (cOp fIx ca cb) :=
  PE.imp (pe_ix (IxR.or (IxR.or ix_list ix_tup) (ix_dict hu)) ha hb hs) fun σ H Q q => by
    have h := tOp_of q
    obtain ⟨W, σd, kv, kx, e1, o, s, h1, hv, hx⟩ := h
    exact ⟨W, σd, kv, kx, e1, o, s, h1, fun W1 d v x1 o1 r1 h2 => by
      obtain ⟨W', σd', kv', kx', e1', o', s', h1', hv', hx'⟩ := hv W1 d v x1 o1 r1 h2
      exact ⟨W', σd', kv', kx', e1', o', s', h1', fun W2 d2 v2 x2 o2 r2 h3 => fIx_ok (hv' W2 d2 v2 x2 o2 r2 h3), hx'⟩, hx⟩
end
end DL

/-! slices, built-ins, methods -/
namespace DL
open PySem PySem.Spec L2
section
variable {X : Cx} {N : Nm} {E : XK}
/-! ### slices -/
abbrev CO := SD → Hd → (Option Int → Hd → Bool) → KX → Bool
def tO (K : PySem.W.Frag) (N : Nm) (E : XK) (c : CO) : TO := fun σ H Q => ∃ W σd kv kx, W.H = H ∧ W.Ok K N.toNames ∧ RelS W σd σ ∧ c σd W.η kv kx = true ∧ (∀ W' b, Ext W W' → W'.Ok K N.toNames → kv b W'.η = true → Q b W'.H) ∧ Xk K N E W kx
def JO (X : Cx) (N : Nm) (E : XK) (e : Option Expr) (c : CO) : Prop := PO X e (tO X.K N E c)
theorem PO.imp {X : Cx} {e : Option Expr} {t t' : TO} (h : PO X e t) (f : ∀ σ H Q, t' σ H Q → t σ H Q) : PO X e t' := ⟨fun pins s σ H Q I q => h.run pins s σ H Q I (f σ H Q q)⟩
def coN : CO := fun _ η k _ => k none η
def coS (c : CE) : CO := fun σ η k kx => c σ η (fun x η1 => match x with
  | .int i => k (some i) η1
  | _ => false) kx
theorem jo_none : JO X N E none coN := PO.imp po_none fun σ H Q q => by
  obtain ⟨W, σd, kv, kx, rfl, o, s, h, hv, hx⟩ := q
  exact hv W none (Ext.refl W) o h
theorem jo_some {e : Expr} {c : CE} (h : JE X N E e c) : JO X N E (some e) (coS c) := PO.imp (po_some h) fun σ H Q q => by
  obtain ⟨W, σd, kv, kx, rfl, o, s, h, hv, hx⟩ := q
  refine tE.bind o s hx h fun W1 d v x1 o1 r1 s1 hx1 h1 => ?_
  cases d with
  | int i => rw [relInt r1]; exact ⟨i, rfl, hv W1 (some i) x1 o1 h1⟩
  | _ => cases h1
theorem tO.bind {K : PySem.W.Frag} {W : Wl} {kx : KX} {c : CO} {kt : Option Int → Hd → Bool} {σ : St} {σd : SD} {Q' : Option Int → Hp → Prop} (o : W.Ok K N.toNames) (s : RelS W σd σ) (hx : Xk K N E W kx) (h : c σd W.η kt kx = true)
    (hq : ∀ W' b, Ext W W' → W'.Ok K N.toNames → RelS W' σd σ → Xk K N E W' kx → kt b W'.η = true → Q' b W'.H) : tO K N E c σ W.H Q' :=
  ⟨W, σd, kt, kx, rfl, o, s, h, fun W' b x o' e => hq W' b x o' (s.mono o x) (hx.mono o o' x) e, hx⟩
def cutD (xs : List D) (lo hi : Option Int) : List D := (xs.drop (HT.sIx xs.length 0 lo)).take (HT.sIx xs.length xs.length hi - HT.sIx xs.length 0 lo)
theorem cutD_rel {W : Wl} {xs : List D} {vs : List V} (r : RelDs W xs vs) (lo hi : Option Int) : RelDs W (cutD xs lo hi) (cutV vs lo hi) := by
  unfold cutD cutV
  rw [r.length]
  exact (r.drop _).take _
theorem cutD_len (xs : List D) (lo hi : Option Int) : (cutD xs lo hi).length ≤ xs.length := by
  unfold cutD
  rw [List.length_take, List.length_drop]; omega
def slF (η : Hd) (x : D) (lo hi : Option Int) : Option (D × Hd) := match x with
  | .tup l => some (.tup (cutD l lo hi), η)
  | .ref r => match η.list r with
    | some l => some (.ref η.nx, η.new (.lst (cutD l lo hi)))
    | none => none
  | _ => none
def cSl (a : CE) (lo hi : CO) : CE := fun σ η kv kx => a σ η (fun x η1 => lo σ η1 (fun l η2 => hi σ η2 (fun h η3 => match slF η3 x l h with
  | some (d, η4) => kv d η4
  | none => false) kx) kx) kx
theorem SlR.or {r r' : V → Option Int → Option Int → Hp → VK → Prop} (h : SlR X r) (h' : SlR X r') : SlR X (fun x l u H Q => r x l u H Q ∨ r' x l u H Q) := by
  intro pins s σ H x v vl vu lo hi sl Q I rx hs p1 p2 hh
  rcases hh with hh | hh
  · exact h pins s σ H x v vl vu lo hi sl Q I rx hs p1 p2 hh
  · exact h' pins s σ H x v vl vu lo hi sl Q I rx hs p1 p2 hh
theorem je_slice {a : Expr} {lo hi : Option Expr} {ca : CE} {cl ch : CO} {pos p2 : Pos} (ha : JE X N E a ca) (hl : JO X N E lo cl) (hh : JO X N E hi ch) : JE X N E (.Subscript a (.Slice lo hi none p2) pos) (cSl ca cl ch) :=
  PE.imp (pe_slice (SlR.or sl_list sl_tupA) ha hl hh) fun σ H Q q => by
    obtain ⟨W, σd, kv, kx, rfl, o, s, h, hv, hx⟩ := q
    refine tE.bind o s hx h fun W1 d v x1 o1 r1 s1 hx1 h1 => ?_
    refine tO.bind o1 s1 hx1 h1 fun W2 l x2 o2 s2 hx2 h2 => ?_
    refine tO.bind o2 s2 hx2 h2 fun W3 u x3 o3 s3 hx3 h3 => ?_
    have r3 : RelD W3 d v := (r1.mono o1 x2).mono o2 x3
    have x03 := x1.trans o o1 (x2.trans o1 o2 x3)
    have hv3 := hv.mono o o3 x03
    cases e : slF W3.η d l u with
    | none => rw [e] at h3; cases h3
    | some p =>
      obtain ⟨d', η'⟩ := p
      rw [e] at h3
      cases d with
      | tup xs =>
        simp only [slF, Option.some.injEq, Prod.mk.injEq] at e
        obtain ⟨rfl, rfl⟩ := e
        obtain ⟨p, vs, rfl, hs, rs⟩ := relTup r3
        refine .inr ⟨p, vs, rfl, SqT.of hs, fun hc => ?_, fun _ p hp => Vk.tup (W0 := W) o3 hv3 h3 hp (cutD_rel rs l u)⟩
        have e1 : cutD xs l u = xs := by
          unfold cutD
          rw [rs.length, hc.1, hc.2, List.drop_zero]
          exact List.take_of_length_le (by rw [rs.length]; exact Nat.le_refl _)
        rw [e1] at h3
        exact hv3.here o3 (mkTup hs rs) h3
      | ref r =>
        simp only [slF] at e
        cases el : W3.η.list r with
        | none => rw [el] at e; cases e
        | some xs =>
          rw [el] at e
          simp only [Option.some.injEq, Prod.mk.injEq] at e
          obtain ⟨rfl, rfl⟩ := e
          obtain ⟨vs, g1, g2, g3⟩ := list_of o3 el
          rw [relRef r3]
          exact .inl ⟨_, vs, rfl, g1, fun p hp => Vk.lst o3 hv3 h3 hp (cutD_rel g2 l u) (Nat.le_trans (cutD_len xs l u) g3)⟩
      | _ => cases e

/-! ### built-ins by values -/
abbrev FN := List D → Hd → Option (D × Hd)
def rN (K : PySem.W.Frag) (N : Nm) (f : FN) : List V → Hp → VK → Prop := fun xs H Q => ∃ W ds d η', W.H = H ∧ W.Ok K N.toNames ∧ RelDs W ds xs ∧ f ds W.η = some (d, η') ∧
  (∀ W' v, Ext W W' → W'.Ok K N.toNames → W'.η = η' → RelD W' d v → Q v W'.H)
def cFn (f : FN) (a : CA) : CE := fun σ η kv kx => a σ η (fun ds η1 => match f ds η1 with
  | some (d, η2) => kv d η2
  | none => false) kx
theorem CallR.imp {f : Value} {r r' : List V → Hp → VK → Prop} (h : CallR X f r) (i : ∀ x H Q, r' x H Q → r x H Q) : CallR X f r' :=
  fun pins s σ H x v Q I rx q => h pins s σ H x v Q I rx (i x H Q q)
theorem CallR.or {f : Value} {r r' : List V → Hp → VK → Prop} (h : CallR X f r) (h' : CallR X f r') : CallR X f (fun x H Q => r x H Q ∨ r' x H Q) :=
  fun pins s σ H x v Q I rx q => q.elim (h pins s σ H x v Q I rx) (h' pins s σ H x v Q I rx)
theorem tCB_of {f : FN} {c : CA} {K : PySem.W.Frag} {σ : St} {H : Hp} {Q : VK} (h : tE K N E (cFn f c) σ H Q) : tCB (rN K N f) (tAr K N E c) σ H Q := by
  obtain ⟨W, σd, kv, kx, rfl, o, s, h, hv, hx⟩ := h
  refine tAr.bind o s hx h fun W1 ds vs x1 o1 r1 s1 hx1 h1 => ?_
  cases e : f ds W1.η with
  | none => rw [e] at h1; cases h1
  | some p =>
    obtain ⟨d, η'⟩ := p
    rw [e] at h1
    exact ⟨W1, ds, d, η', rfl, o1, r1, e, fun W' v x3 o3 e3 r3 => hv W' d v (x1.trans o o1 x3) o3 r3 (by rw [e3]; exact h1)⟩
theorem je_blt {x : Str} {id : String} {f : FN} {e : Expr} {es : List Expr} {c : CA} {p pos : Pos} (hc : CallR X (.builtin id) (rN X.K N f)) (hg : Gl X x) (hm : X.mg x = none) (hv : bootBuiltins x = some (.builtin id)) (ha : JA X N E (e :: es) c)
    (hn : x ≠ "__name__" := by decide) (hdb : (x == ("__debug__" : Str)) = false := by decide) (hs : starEach (e :: es) X.env = (false, eval e X.env) :: starEach es X.env := by rfl)
    (hpl : (backTo pos (starEach es X.env)).any (·.1) = false := by rfl) : JE X N E (.Call (.Name x p) (e :: es) [] pos) (cFn f c) :=
  PE.imp (pe_callB hc hg hm hv ha hn hdb hs hpl) fun σ H Q q => tCB_of q
theorem je_ty {x : Str} {T : String} {f : FN} {e : Expr} {es : List Expr} {c : CA} {p pos : Pos} (hc : CallR X (.type T) (rN X.K N f)) (hg : Gl X x) (hm : X.mg x = none) (hv : bootBuiltins x = some (.type T)) (ha : JA X N E (e :: es) c)
    (hn : x ≠ "__name__" := by decide) (hdb : (x == ("__debug__" : Str)) = false := by decide) (hs : starEach (e :: es) X.env = (false, eval e X.env) :: starEach es X.env := by rfl)
    (hpl : (backTo pos (starEach es X.env)).any (·.1) = false := by rfl) : JE X N E (.Call (.Name x p) (e :: es) [] pos) (cFn f c) :=
  PE.imp (pe_callTy hc hg hm hv ha hn hdb hs hpl) fun σ H Q q => tCB_of q
theorem rel1 {W : Wl} {d : D} {vs : List V} (h : RelDs W [d] vs) : ∃ v, vs = [v] ∧ RelD W d v := by
  rw [RelDs] at h
  obtain ⟨v, vs', rfl, h1, h2⟩ := h
  rw [RelDs] at h2
  subst h2
  exact ⟨v, rfl, h1⟩
theorem rel2 {W : Wl} {d e : D} {vs : List V} (h : RelDs W [d, e] vs) : ∃ v u, vs = [v, u] ∧ RelD W d v ∧ RelD W e u := by
  rw [RelDs] at h
  obtain ⟨v, vs', rfl, h1, h2⟩ := h
  obtain ⟨u, rfl, h3⟩ := rel1 h2
  exact ⟨v, u, rfl, h1, h3⟩
/-- f(one thing) -/
def f1 (g : D → Hd → Option (D × Hd)) : FN := fun ds η => match ds with
  | [d] => g d η
  | _ => none
theorem f1_inv {g : D → Hd → Option (D × Hd)} {ds : List D} {η : Hd} {p : D × Hd} (h : f1 g ds η = some p) : ∃ d, ds = [d] ∧ g d η = some p := by
  match ds, h with
  | [d], h => exact ⟨d, rfl, h⟩
  | [], h => cases h
  | _ :: _ :: _, h => cases h
def gLen (d : D) (η : Hd) : Option (D × Hd) := match d with
  | .tup l => some (.int (Int.ofNat l.length), η)
  | .ref r => match η.get r with
    | some (.lst l) => some (.int (Int.ofNat l.length), η)
    | some (.frz l) => some (.int (Int.ofNat l.length), η)
    | _ => none
  | .str z => match Nat.ble z.length line with
    | true => some (.int (Int.ofNat z.length), η)
    | false => none
  | _ => none
def fLen : FN := f1 gLen
theorem blt_len : CallR X (.builtin "len") (rN X.K N fLen) := CallR.imp (CallR.or call_len_seq call_len_str) fun xs H Q q => by
  obtain ⟨W, ds, d, η', rfl, o, rs, hf, hq⟩ := q
  obtain ⟨x, rfl, hg⟩ := f1_inv hf
  clear hf
  have hf := hg
  clear hg
  obtain ⟨v, rfl, rx⟩ := rel1 rs
  cases x with
  | tup l =>
    simp only [gLen, Option.some.injEq, Prod.mk.injEq] at hf
    obtain ⟨rfl, rfl⟩ := hf
    obtain ⟨p, vs, rfl, hs, rs⟩ := relTup rx
    refine .inl ⟨p, vs, rfl, .inr (SqT.of hs), ?_⟩
    rw [← rs.length]; exact same_w o hq mkInt
  | ref r =>
    simp only [gLen] at hf
    cases e : W.η.get r with
    | none => rw [e] at hf; cases hf
    | some c =>
      rw [e] at hf
      have go : ∀ {l : List D}, W.η.list r = some l → some (D.int (Int.ofNat l.length), W.η) = some (d, η') → (∃ p ys, [v] = [V.ref p] ∧ (SqL X.K W.H p ys ∨ SqT X.K W.H p ys) ∧ Q (.int ys.length) W.H) ∨ (∃ z, [v] = [V.str z] ∧ z.length ≤ sizeLine ∧ Q (.int z.length) W.H) := fun {l} hl hf => by
        simp only [Option.some.injEq, Prod.mk.injEq] at hf
        obtain ⟨rfl, rfl⟩ := hf
        obtain ⟨vs, g1, g2, g3⟩ := list_of o hl
        rw [relRef rx]
        refine .inl ⟨_, vs, rfl, .inl g1, ?_⟩
        rw [← g2.length]; exact same_w o hq mkInt
      cases c with
      | lst l => exact go (by unfold Hd.list; rw [e]) hf
      | frz l => exact go (by unfold Hd.list; rw [e]) hf
      | _ => cases hf
  | str z =>
    simp only [gLen] at hf
    cases e : Nat.ble z.length line with
    | false => rw [e] at hf; cases hf
    | true =>
      rw [e] at hf
      simp only [Option.some.injEq, Prod.mk.injEq] at hf
      obtain ⟨rfl, rfl⟩ := hf
      rw [relStr rx]
      exact .inr ⟨z, rfl, Nat.le_of_ble_eq_true e, same_w o hq mkInt⟩
  | _ => cases hf
def gAbs (d : D) (η : Hd) : Option (D × Hd) := match d with
  | .int i => some (.int (if i < 0 then -i else i), η)
  | _ => none
theorem blt_abs : CallR X (.builtin "abs") (rN X.K N (f1 gAbs)) := CallR.imp call_abs fun xs H Q q => by
  obtain ⟨W, ds, d, η', rfl, o, rs, hf, hq⟩ := q
  obtain ⟨x, rfl, hg⟩ := f1_inv hf
  clear hf
  have hf := hg
  clear hg
  obtain ⟨v, rfl, rx⟩ := rel1 rs
  cases x with
  | int i =>
    simp only [gAbs, Option.some.injEq, Prod.mk.injEq] at hf
    obtain ⟨rfl, rfl⟩ := hf
    rw [relInt rx]
    exact ⟨i, rfl, same_w o hq mkInt⟩
  | _ => cases hf
def gInt (d : D) (η : Hd) : Option (D × Hd) := match d with
  | .int i => some (.int i, η)
  | .bl true => some (.int 1, η)
  | .bl false => some (.int 0, η)
  | _ => none
theorem ty_int : CallR X (.type "int") (rN X.K N (f1 gInt)) := CallR.imp call_int1 fun xs H Q q => by
  obtain ⟨W, ds, d, η', rfl, o, rs, hf, hq⟩ := q
  obtain ⟨x, rfl, hg⟩ := f1_inv hf
  clear hf
  have hf := hg
  clear hg
  obtain ⟨v, rfl, rx⟩ := rel1 rs
  cases x with
  | int i =>
    simp only [gInt, Option.some.injEq, Prod.mk.injEq] at hf
    obtain ⟨rfl, rfl⟩ := hf
    rw [relInt rx]
    exact .inl ⟨i, rfl, same_w o hq mkInt⟩
  | bl b =>
    rw [relBl rx]
    cases b with
    | true =>
      simp only [gInt, Option.some.injEq, Prod.mk.injEq] at hf
      obtain ⟨rfl, rfl⟩ := hf
      exact .inr ⟨true, rfl, same_w o hq mkInt⟩
    | false =>
      simp only [gInt, Option.some.injEq, Prod.mk.injEq] at hf
      obtain ⟨rfl, rfl⟩ := hf
      exact .inr ⟨false, rfl, same_w o hq mkInt⟩
  | _ => cases hf
/-- tuple(x), list(x) of a list, a tuple -/
def gTuple (d : D) (η : Hd) : Option (D × Hd) := match d with
  | .tup l => some (.tup l, η)
  | .ref r => match η.list r with
    | some l => some (.tup l, η)
    | none => none
  | _ => none
theorem ty_tuple : CallR X (.type "tuple") (rN X.K N (f1 gTuple)) := CallR.imp call_tuple_of fun xs H Q q => by
  obtain ⟨W, ds, d, η', rfl, o, rs, hf, hq⟩ := q
  obtain ⟨x, rfl, hg⟩ := f1_inv hf
  clear hf
  have hf := hg
  clear hg
  obtain ⟨v, rfl, rx⟩ := rel1 rs
  cases x with
  | tup l =>
    simp only [gTuple, Option.some.injEq, Prod.mk.injEq] at hf
    obtain ⟨rfl, rfl⟩ := hf
    obtain ⟨p, vs, rfl, hs, rs⟩ := relTup rx
    exact ⟨p, vs, rfl, .inr ⟨SqT.of hs, same_w o hq (mkTup hs rs)⟩⟩
  | ref r =>
    simp only [gTuple] at hf
    cases e : W.η.list r with
    | none => rw [e] at hf; cases hf
    | some l =>
      rw [e] at hf
      simp only [Option.some.injEq, Prod.mk.injEq] at hf
      obtain ⟨rfl, rfl⟩ := hf
      obtain ⟨vs, g1, g2, g3⟩ := list_of o e
      rw [relRef rx]
      exact ⟨_, vs, rfl, .inl ⟨g1, fun p hp => new_tup o hq hp g2⟩⟩
  | _ => cases hf
/-! ### methods of lists -/
abbrev FM := D → List D → Hd → Option (D × Hd)
def rM (K : PySem.W.Frag) (N : Nm) (f : FM) : V → List V → Hp → VK → Prop := fun x xs H Q => ∃ W dx ds d η', W.H = H ∧ W.Ok K N.toNames ∧ RelD W dx x ∧ RelDs W ds xs ∧ f dx ds W.η = some (d, η') ∧
  (∀ W' v, Ext W W' → W'.Ok K N.toNames → W'.η = η' → RelD W' d v → Q v W'.H)
def isL (η : Hd) : D → Bool
  | .ref r => (η.list r).isSome
  | _ => false
def cMt (f : FM) (o : CE) (a : CA) : CE := fun σ η kv kx => o σ η (fun x η1 => match isL η1 x with
  | true => a σ η1 (fun ds η2 => match f x ds η2 with
    | some (d, η3) => kv d η3
    | none => false) kx
  | false => false) kx
theorem MtR.imp {id : String} {r r' : V → List V → Hp → VK → Prop} (h : MtR X id r) (i : ∀ x xs H Q, r' x xs H Q → r x xs H Q) : MtR X id r' :=
  fun pins s σ H x xs v us Q I rx rxs q => h pins s σ H x xs v us Q I rx rxs (i x xs H Q q)
theorem isL_ty {K : PySem.W.Frag} {W : Wl} {d : D} {v : V} (o : W.Ok K N.toNames) (r : RelD W d v) (h : isL W.η d = true) : tyV K "list" v W.H := by
  cases d with
  | ref q =>
    simp only [isL] at h
    obtain ⟨l, e⟩ := Option.isSome_iff_exists.mp h
    obtain ⟨vs, g1, g2, g3⟩ := list_of o e
    rw [relRef r]
    exact .inl ⟨rfl, vs, g1⟩
  | _ => cases h
theorem tBM_of {f : FM} {co : CE} {c : CA} {K : PySem.W.Frag} {σ : St} {H : Hp} {Q : VK} (h : tE K N E (cMt f co c) σ H Q) : tBM K "list" (rM K N f) (tE K N E co) (tAr K N E c) σ H Q := by
  obtain ⟨W, σd, kv, kx, rfl, o, s, h, hv, hx⟩ := h
  refine tE.bind o s hx h fun W1 d v x1 o1 r1 s1 hx1 h1 => ?_
  cases el : isL W1.η d with
  | false => rw [el] at h1; cases h1
  | true =>
    rw [el] at h1
    refine ⟨isL_ty o1 r1 el, ?_⟩
    refine tAr.bind o1 s1 hx1 h1 fun W2 ds vs x2 o2 r2 s2 hx2 h2 => ?_
    cases e : f d ds W2.η with
    | none => rw [e] at h2; cases h2
    | some p =>
      obtain ⟨d', η'⟩ := p
      rw [e] at h2
      exact ⟨W2, d, ds, d', η', rfl, o2, r1.mono o1 x2, r2, e, fun W' v x3 o3 e3 r3 => hv W' d' v ((x1.trans o o1 x2).trans o o2 x3) o3 r3 (by rw [e3]; exact h2)⟩
/-- a list's cell changed -/
theorem put_lst {K : PySem.W.Frag} {W : Wl} {Q : VK} {r : Nat} {l l' : List D} {vs' : List V} {d : D} {v : V} (o : W.Ok K N.toNames) (e : W.η.get r = some (.lst l))
    (q : ∀ W' v, Ext W W' → W'.Ok K N.toNames → W'.η = W.η.set r (.lst l') → RelD W' d v → Q v W'.H) (rl : RelDs W l' vs') (hl : l'.length ≤ sizeLine) (rd : RelD W d v) : Q v (upd W.H (W.μ r) (.lst vs')) := by
  obtain ⟨x, o'⟩ := o.put (c := .lst l') (ob := .lst vs') e rfl (fun x => ⟨vs', upd_same, rl.mono o x, hl⟩)
  exact q (W.put r (.lst l') (.lst vs')) v x o' rfl (rd.mono o x)
def fAppend : FM := fun x ds η => match x, ds with
  | .ref r, [d] => match η.get r with
    | some (.lst l) => match Nat.blt l.length line with
      | true => some (.non, η.set r (.lst (l ++ [d])))
      | false => none
    | _ => none
  | _, _ => none
theorem mtd_append : MtR X "list.append" (rM X.K N fAppend) := MtR.imp mt_append fun x xs H Q q => by
  obtain ⟨W, dx, ds, d, η', rfl, o, rx, rs, hf, hq⟩ := q
  cases dx with
  | ref r =>
    match ds, rs, hf with
    | [y], rs, hf =>
      obtain ⟨v, rfl, ry⟩ := rel1 rs
      simp only [fAppend] at hf
      cases e : W.η.get r with
      | none => rw [e] at hf; cases hf
      | some c =>
        rw [e] at hf
        cases c with
        | lst l =>
          simp only at hf
          cases eb : Nat.blt l.length line with
          | false => rw [eb] at hf; cases hf
          | true =>
            rw [eb] at hf
            simp only [Option.some.injEq, Prod.mk.injEq] at hf
            obtain ⟨rfl, rfl⟩ := hf
            obtain ⟨vs, g1, g2, g3⟩ := o.cell r _ e
            have hb : l.length < sizeLine := Nat.le_of_ble_eq_true eb
            rw [relRef rx]
            refine ⟨_, vs, v, rfl, rfl, g1, by rw [← g2.length]; exact hb, ?_⟩
            exact put_lst o e hq (g2.append (.cons ry .nil)) (by rw [List.length_append]; show l.length + 1 ≤ sizeLine; omega) mkNon
        | _ => cases hf
    | [], rs, hf => cases hf
    | _ :: _ :: _, rs, hf => cases hf
  | _ => cases hf
def fPop : FM := fun x ds η => match x, ds with
  | .ref r, [] => match η.get r with
    | some (.lst l) => match l[l.length - 1]? with
      | some d => some (d, η.set r (.lst l.dropLast))
      | none => none
    | _ => none
  | _, _ => none
theorem RelDs.dropLast {W : Wl} {ds : List D} {vs : List V} (h : RelDs W ds vs) : RelDs W ds.dropLast vs.dropLast := by
  rw [List.dropLast_eq_take, List.dropLast_eq_take, h.length]; exact h.take _
theorem mtd_pop : MtR X "list.pop" (rM X.K N fPop) := MtR.imp mt_pop fun x xs H Q q => by
  obtain ⟨W, dx, ds, d, η', rfl, o, rx, rs, hf, hq⟩ := q
  cases dx with
  | ref r =>
    match ds, rs, hf with
    | [], rs, hf =>
      rw [RelDs] at rs; subst rs
      simp only [fPop] at hf
      cases e : W.η.get r with
      | none => rw [e] at hf; cases hf
      | some c =>
        rw [e] at hf
        cases c with
        | lst l =>
          simp only at hf
          cases eb : l[l.length - 1]? with
          | none => rw [eb] at hf; cases hf
          | some y =>
            rw [eb] at hf
            simp only [Option.some.injEq, Prod.mk.injEq] at hf
            obtain ⟨rfl, rfl⟩ := hf
            obtain ⟨vs, g1, g2, g3⟩ := o.cell r _ e
            obtain ⟨v, ev, rv⟩ := g2.get' eb
            rw [relRef rx]
            refine ⟨_, vs, v, rfl, rfl, g1, by rw [← g2.length]; exact ev, ?_⟩
            exact put_lst o e hq g2.dropLast (by rw [List.length_dropLast]; omega) rv
        | _ => cases hf
    | _ :: _, rs, hf => cases hf
  | _ => cases hf
def ixD (n : Nat) : Int → Option Nat
  | .ofNat k => match Nat.blt k n with
    | true => some k
    | false => none
  | .negSucc k => match Nat.ble (k + 1) n with
    | true => some (n - (k + 1))
    | false => none
theorem ixD_seq {n : Nat} {i : Int} {k : Nat} (hn : n ≤ sizeLine) (h : ixD n i = some k) : seqIndex? i n = some k ∧ -2 ^ 63 ≤ i ∧ i < 2 ^ 63 ∧ k < n := by
  have hs : sizeLine = 16777216 := rfl
  cases i with
  | ofNat j =>
    simp only [ixD] at h
    cases e : Nat.blt j n with
    | false => rw [e] at h; cases h
    | true =>
      rw [e] at h
      have ek : j = k := Option.some.inj h
      subst ek
      have hb : j < n := Nat.le_of_ble_eq_true e
      have e1 : Int.ofNat j = (j : Int) := rfl
      refine ⟨?_, by rw [e1]; omega, by rw [e1]; omega, hb⟩
      unfold seqIndex?
      rw [e1]
      simp only [show ¬ ((j : Int) < 0) from by omega, if_false]
      rw [if_pos (by simp; omega)]
      simp
  | negSucc j =>
    simp only [ixD] at h
    cases e : Nat.ble (j + 1) n with
    | false => rw [e] at h; cases h
    | true =>
      rw [e] at h; cases h
      have hb : j + 1 ≤ n := Nat.le_of_ble_eq_true e
      have e1 : Int.negSucc j = -((j + 1 : Nat) : Int) := rfl
      refine ⟨?_, by rw [e1]; omega, by rw [e1]; omega, by omega⟩
      unfold seqIndex?
      rw [e1]
      simp only [show (-((j + 1 : Nat) : Int) < 0) from by omega, if_true]
      rw [if_pos (by simp; omega)]
      congr 1; omega
def fPopAt : FM := fun x ds η => match x, ds with
  | .ref r, [.int i] => match η.get r with
    | some (.lst l) => match ixD l.length i with
      | some k => match l[k]? with
        | some d => some (d, η.set r (.lst (l.eraseIdx k)))
        | none => none
      | none => none
    | _ => none
  | _, _ => none
theorem RelDs.erase {W : Wl} : ∀ {ds : List D} {vs : List V} (k : Nat), RelDs W ds vs → RelDs W (ds.eraseIdx k) (vs.eraseIdx k)
  | [], _, _, h => by rw [RelDs] at h; subst h; exact .nil
  | d :: ds, _, 0, h => by
    rw [RelDs] at h
    obtain ⟨v', vs', rfl, h1, h3⟩ := h
    exact h3
  | d :: ds, _, n + 1, h => by
    rw [RelDs] at h
    obtain ⟨v', vs', rfl, h1, h3⟩ := h
    exact RelDs.cons h1 (RelDs.erase n h3)
theorem mtd_popAt : MtR X "list.pop" (rM X.K N fPopAt) := MtR.imp mt_popAt fun x xs H Q q => by
  obtain ⟨W, dx, ds, d, η', rfl, o, rx, rs, hf, hq⟩ := q
  cases dx with
  | ref r =>
    match ds, rs, hf with
    | [.int i], rs, hf =>
      obtain ⟨v, rfl, ry⟩ := rel1 rs
      rw [relInt ry]
      simp only [fPopAt] at hf
      cases e : W.η.get r with
      | none => rw [e] at hf; cases hf
      | some c =>
        rw [e] at hf
        cases c with
        | lst l =>
          simp only at hf
          cases ek : ixD l.length i with
          | none => rw [ek] at hf; cases hf
          | some k =>
            rw [ek] at hf
            simp only at hf
            cases eb : l[k]? with
            | none => rw [eb] at hf; cases hf
            | some y =>
              rw [eb] at hf
              simp only [Option.some.injEq, Prod.mk.injEq] at hf
              obtain ⟨rfl, rfl⟩ := hf
              obtain ⟨vs, g1, g2, g3⟩ := o.cell r _ e
              obtain ⟨w, ev, rv⟩ := g2.get' eb
              obtain ⟨i1, i2, i3, i4⟩ := ixD_seq g3 ek
              rw [relRef rx]
              refine ⟨_, vs, i, k, w, rfl, rfl, g1, i2, i3, by rw [← g2.length]; exact i1, ev, ?_⟩
              exact put_lst o e hq (g2.erase k) (by rw [List.length_eraseIdx]; split <;> omega) rv
        | _ => cases hf
    | [], rs, hf => cases hf
    | [.non], rs, hf => cases hf
    | [.bl _], rs, hf => cases hf
    | [.str _], rs, hf => cases hf
    | [.tup _], rs, hf => cases hf
    | [.ref _], rs, hf => cases hf
    | _ :: _ :: _, rs, hf => simp [fPopAt] at hf
  | _ => cases hf
end
end DL

/-! cells frozen, dropped and laid again -/
namespace DL
open PySem PySem.Spec L2
section
variable {K : PySem.W.Frag} {N : Names} {W W1 W2 Wg : Wl}
/-! ### what a value's relation leans on -/
structure Tx (W W' : Wl) : Prop where
  nx : W.η.nx ≤ W'.η.nx
  mu : ∀ r, r < W.η.nx → W'.μ r = W.μ r
  tp : ∀ a vs, W.H a = some (.tup vs) → W'.H a = some (.tup vs)
  tf : ∀ a ob vs, W.H a = some (.frz ob (.tup vs)) → W'.H a = some (.frz ob (.tup vs))
theorem Ext.tx (o : W.Ok K N) (x : Ext W W1) : Tx W W1 := ⟨x.nx, x.mu, fun a vs h => x.sqT o h, fun a ob vs h => x.fr a _ h (fun _ z => nomatch z) (o.nocell h (.inr (.inl ⟨_, _, rfl⟩)))⟩
mutual
theorem RelD.tx (x : Tx W W1) : ∀ {d : D} {v : V}, RelD W d v → RelD W1 d v
  | .non, v, h => by rw [RelD] at *; exact h
  | .bl b, v, h => by rw [RelD] at *; exact h
  | .int i, v, h => by rw [RelD] at *; exact h
  | .str s, v, h => by rw [RelD] at *; exact h
  | .ref r, v, h => by rw [RelD] at *; exact ⟨Nat.lt_of_lt_of_le h.1 x.nx, by rw [x.mu r h.1]; exact h.2⟩
  | .tup ds, v, h => by
    rw [RelD] at *
    obtain ⟨a, vs, e, h1, h2⟩ := h
    exact ⟨a, vs, e, x.tp a vs h1, RelDs.tx x h2⟩
  | .ftup ds, v, h => by
    rw [RelD] at *
    obtain ⟨a, vs, ob, e, h1, h3, h2⟩ := h
    exact ⟨a, vs, ob, e, x.tf a ob vs h1, h3, RelDs.tx x h2⟩
theorem RelDs.tx (x : Tx W W1) : ∀ {ds : List D} {vs : List V}, RelDs W ds vs → RelDs W1 ds vs
  | [], vs, h => by rw [RelDs] at *; exact h
  | d :: ds, vs, h => by
    rw [RelDs] at *
    obtain ⟨v, vs', e, h1, h2⟩ := h
    exact ⟨v, vs', e, RelD.tx x h1, RelDs.tx x h2⟩
end
theorem RelFs.tx (x : Tx W W1) : ∀ {fs : List (Nat × D)} {gs : List (Str × V)}, RelFs W N fs gs → RelFs W1 N fs gs
  | [], vs, h => by rw [RelFs] at *; exact h
  | (k, d) :: ds, vs, h => by
    rw [RelFs] at *
    obtain ⟨v, vs', e, h1, h2⟩ := h
    exact ⟨v, vs', e, RelD.tx x h1, RelFs.tx x h2⟩
theorem RelK.tx (x : Tx W W1) : ∀ {fs : List (D × D)} {gs : List (Key × V)}, RelK W fs gs → RelK W1 fs gs
  | [], vs, h => by rw [RelK] at *; exact h
  | (k, d) :: ds, vs, h => by
    rw [RelK] at *
    obtain ⟨k', v, vs', e, h0, h1, h2⟩ := h
    exact ⟨k', v, vs', e, h0, RelD.tx x h1, RelK.tx x h2⟩
theorem RelT.tx (x : Tx W W1) : ∀ {fs : List (D × D)} {gs : List (List Key × V)}, RelT W fs gs → RelT W1 fs gs
  | [], vs, h => by rw [RelT] at *; exact h
  | (k, d) :: ds, vs, h => by
    rw [RelT] at *
    obtain ⟨k', v, vs', e, h0, h1, h2⟩ := h
    exact ⟨k', v, vs', e, h0, RelD.tx x h1, RelT.tx x h2⟩
theorem TupA.tx (x : Tx W W1) {a : Addr} {vs : List V} (h : TupA W.H a vs) : TupA W1.H a vs := x.tp a vs h
theorem RowsV.tx (x : Tx W W1) : ∀ {k : RK} {vs : List V}, RowsV W.H k vs → RowsV W1.H k vs
  | [], vs, h => by rw [RowsV] at *; exact h
  | k :: ks, vs, h => by
    rw [RowsV] at *
    obtain ⟨c, vs', e, h1, h2⟩ := h
    exact ⟨c, vs', e, h1.tx x, RowsV.tx x h2⟩
theorem RowsA.tx (x : Tx W W1) {a : Addr} {k : RK} (h : RowsA W.H a k) : RowsA W1.H a k := by
  obtain ⟨vs, h1, h2⟩ := h
  exact ⟨vs, h1.tx x, h2.tx x⟩
theorem RelC.tx (x : Tx W W1) {a : Addr} {c : Cell} (h : RelC K N W a c) (e : ∀ ob, noT ob → W.H a = some ob → W1.H a = some ob) : RelC K N W1 a c := by
  cases c with
  | lst l => obtain ⟨vs, h1, h2, h3⟩ := h; exact ⟨vs, e _ (fun _ z => nomatch z) h1, h2.tx x, h3⟩
  | frz l => obtain ⟨vs, h1, h2, h3⟩ := h; exact ⟨vs, e _ (fun _ z => nomatch z) h1, h2.tx x, h3⟩
  | dice => obtain ⟨p, q, r, h⟩ := h; exact ⟨p, q, r, e _ (fun _ z => nomatch z) h⟩
  | dct t l =>
    cases t
    · obtain ⟨vs, h1, h2, h3⟩ := h; exact ⟨vs, e _ (fun _ z => nomatch z) h1, h2.tx x, h3⟩
    · obtain ⟨vs, h1, h2, h3⟩ := h; exact ⟨vs, e _ (fun _ z => nomatch z) h1, h2.tx x, h3⟩
  | ldc t l =>
    cases t
    · obtain ⟨vs, ob, h1, h2, h3⟩ := h; exact ⟨vs, ob, e _ (fun _ z => nomatch z) h1, h2.tx x, h3⟩
    · obtain ⟨vs, ob, h1, h2, h3⟩ := h; exact ⟨vs, ob, e _ (fun _ z => nomatch z) h1, h2.tx x, h3⟩
  | dcr ks => obtain ⟨xs, h1, h2, h3, h4⟩ := h; exact ⟨xs, e _ (fun _ z => nomatch z) h1, h2, fun y hy => (h3 y hy).tx x, h4⟩
  | ins c l => obtain ⟨dx, vs, h1, h2, h3⟩ := h; exact ⟨dx, vs, e _ (fun _ z => nomatch z) h1, h2.tx x, h3⟩
/-! ### a cell dropped and laid again -/
def Hd.add (η : Hd) (g : Nat) (c : Cell) : Hd := ⟨η.nx, (g, c) :: η.cs⟩
theorem Hd.get_add (η : Hd) (g : Nat) (c : Cell) (q : Nat) : (η.add g c).get q = if q = g then some c else η.get q := by
  unfold Hd.get Hd.add
  by_cases h : q = g
  · subst h
    have e2 : Nat.beq q q = true := Nat.beq_refl _
    simp [look, e2]
  · have e2 : Nat.beq g q = false := by
      cases z : Nat.beq g q with
      | false => rfl
      | true => exact absurd (Nat.eq_of_beq_eq_true z).symm h
    simp [look, e2, h]
/-- W is Wg without the cell g; behind a step the cell is laid again -/
theorem Wl.Ok.readd (o : Wg.Ok K N) {g : Nat} {c : Cell} (h : Wg.η.get g = some c) {η0 : Hd} (hn : η0.nx = Wg.η.nx) (h0 : ∀ q, η0.get q = if q = g then none else Wg.η.get q)
    (x : Ext ⟨Wg.μ, η0, Wg.H⟩ W2) (o2 : W2.Ok K N) : Ext Wg ⟨W2.μ, W2.η.add g c, W2.H⟩ ∧ Wl.Ok K N ⟨W2.μ, W2.η.add g c, W2.H⟩ := by
  have hg : g < Wg.η.nx := o.lt g c h
  have nx : Wg.η.nx ≤ W2.η.nx := by have := x.nx; show Wg.η.nx ≤ _; rw [← hn]; exact this
  have mu : ∀ r, r < Wg.η.nx → W2.μ r = Wg.μ r := fun r hr => x.mu r (by show r < η0.nx; rw [hn]; exact hr)
  have keep : ∀ ob, noT ob → Wg.H (Wg.μ g) = some ob → W2.H (Wg.μ g) = some ob := fun ob ht hb => x.fr _ _ hb ht fun q d e md => by
    have e' : η0.get q = some d := e
    rw [h0] at e'
    by_cases z : q = g
    · rw [if_pos z] at e'; cases e'
    · rw [if_neg z] at e'; exact o.apart h e' z
  have ga : ∀ q, (W2.η.add g c).get q = if q = g then some c else W2.η.get q := fun q => Hd.get_add _ _ _ _
  have xx : Ext Wg ⟨W2.μ, W2.η.add g c, W2.H⟩ := by
    refine ⟨nx, mu, fun a u ha ht hna => ?_, fun a u ha => x.th a u ha, fun q d e => ?_⟩
    · exact x.fr a u ha ht fun q d e md => by
        have e' : η0.get q = some d := e
        rw [h0] at e'
        by_cases z : q = g
        · rw [if_pos z] at e'; cases e'
        · rw [if_neg z] at e'; exact hna q d e' md
    · have e' : (W2.η.add g c).get q = some d := e
      rw [ga] at e'
      by_cases z : q = g
      · rw [if_pos z] at e'; cases e'; exact .inl ⟨c, by rw [z]; exact h, id⟩
      · rw [if_neg z] at e'
        rcases x.cs q d e' with ⟨c0, e0, m0⟩ | ⟨h1, h2⟩
        · have e0' : η0.get q = some c0 := e0
          rw [h0, if_neg z] at e0'
          exact .inl ⟨c0, e0', m0⟩
        · exact .inr ⟨by have : η0.nx ≤ q := h1; omega, h2⟩
  have tg : Tx Wg ⟨W2.μ, W2.η.add g c, W2.H⟩ := xx.tx o
  have t2 : Tx W2 ⟨W2.μ, W2.η.add g c, W2.H⟩ := ⟨Nat.le_refl _, fun _ _ => rfl, fun _ _ e => e, fun _ _ _ e => e⟩
  have ap : ∀ q d, W2.η.get q = some d → q ≠ g → W2.μ q ≠ Wg.μ g := fun q d e y z => by
    rcases x.cs q d e with ⟨c0, e0, m0⟩ | ⟨h1, h2⟩
    · have e0' : η0.get q = some c0 := e0
      rw [h0, if_neg y] at e0'
      rw [mu q (o.lt q c0 e0')] at z
      exact o.apart h e0' y z
    · obtain ⟨ob, hob, ht⟩ := o.there h
      have h2' : NoC Wg.H (W2.μ q) := h2
      rw [z] at h2'; exact h2' ob hob ht
  refine ⟨xx, fun q d e => ?_, fun q d e => ?_, fun q s d1 d2 e1 e2 e => ?_, o2.tab⟩
  · have e' : (W2.η.add g c).get q = some d := e
    rw [ga] at e'
    show q < W2.η.nx
    by_cases z : q = g
    · omega
    · rw [if_neg z] at e'; exact o2.lt q d e'
  · have e' : (W2.η.add g c).get q = some d := e
    rw [ga] at e'
    by_cases z : q = g
    · rw [if_pos z] at e'; cases e'
      show RelC K N _ (W2.μ q) c
      rw [z, mu g hg]
      exact (o.cell g c h).tx tg keep
    · rw [if_neg z] at e'; exact (o2.cell q d e').tx t2 (fun _ _ e => e)
  · have e1' : (W2.η.add g c).get q = some d1 := e1
    have e2' : (W2.η.add g c).get s = some d2 := e2
    have e' : W2.μ q = W2.μ s := e
    rw [ga] at e1' e2'
    by_cases z : q = g
    · by_cases y : s = g
      · exact z.trans y.symm
      · rw [if_neg y] at e2'
        rw [z, mu g hg] at e'
        exact absurd e'.symm (ap s d2 e2' y)
    · rw [if_neg z] at e1'
      by_cases y : s = g
      · rw [y, mu g hg] at e'
        exact absurd e' (ap q d1 e1' z)
      · rw [if_neg y] at e2'
        exact o2.inj q s d1 d2 e1' e2' e'
/-! ### freeze -/
def frzAt (r : Nat) (l : List D) (η : Hd) : Hd := η.set r (.frz l)
def unfAt (r : Nat) (l : List D) (η : Hd) : Hd := η.set r (.lst l)
theorem Wl.Ok.freeze (o : W.Ok K N) {r : Nat} {l : List D} (h : W.η.get r = some (.lst l)) : Ext W ⟨W.μ, frzAt r l W.η, W.H⟩ ∧ Wl.Ok K N ⟨W.μ, frzAt r l W.η, W.H⟩ := by
  have gs : ∀ q, (frzAt r l W.η).get q = if q = r then some (.frz l) else W.η.get q := fun q => by
    have := Hd.get_set W.η r (.frz l) q
    rw [h] at this
    exact this
  have x : Ext W ⟨W.μ, frzAt r l W.η, W.H⟩ := by
    refine ⟨Nat.le_refl _, fun _ _ => rfl, fun _ _ e _ _ => e, fun a u e t => ⟨u, e, t⟩, fun q c e => ?_⟩
    have e' : (frzAt r l W.η).get q = some c := e
    rw [gs] at e'
    by_cases z : q = r
    · rw [if_pos z] at e'; cases e'; exact .inl ⟨.lst l, by rw [z]; exact h, fun m => by cases m⟩
    · rw [if_neg z] at e'; exact .inl ⟨c, e', id⟩
  have orig : ∀ q c, (frzAt r l W.η).get q = some c → ∃ c0, W.η.get q = some c0 := fun q c e => by
    rw [gs] at e
    by_cases z : q = r
    · exact ⟨_, by rw [z]; exact h⟩
    · rw [if_neg z] at e; exact ⟨c, e⟩
  refine ⟨x, fun q c e => ?_, fun q c e => ?_, fun q s c d e1 e2 e => ?_, o.tab⟩
  · obtain ⟨c0, e0⟩ := orig q c e; exact o.lt q c0 e0
  · have e' : (frzAt r l W.η).get q = some c := e
    rw [gs] at e'
    by_cases z : q = r
    · rw [if_pos z] at e'; cases e'
      obtain ⟨vs, h1, h2, h3⟩ := o.cell r _ h
      exact ⟨vs, by rw [z]; exact h1, h2.mono o x, h3⟩
    · rw [if_neg z] at e'; exact (o.cell q c e').mono o x (fun _ _ e => e)
  · obtain ⟨c0, e0⟩ := orig q c e1
    obtain ⟨d0, f0⟩ := orig s d e2
    exact o.inj q s c0 d0 e0 f0 e
theorem Wl.Ok.unfreeze (o : W.Ok K N) {r : Nat} {l : List D} (h : W.η.get r = some (.lst l)) (x1 : Ext ⟨W.μ, frzAt r l W.η, W.H⟩ W1) (o1 : W1.Ok K N) : Ext W ⟨W1.μ, unfAt r l W1.η, W1.H⟩ ∧ Wl.Ok K N ⟨W1.μ, unfAt r l W1.η, W1.H⟩ := by
  obtain ⟨xf, of⟩ := o.freeze h
  have x01 : Ext W W1 := xf.trans o of x1
  have hr : r < W.η.nx := o.lt r _ h
  have hm : W1.μ r = W.μ r := x01.mu r hr
  obtain ⟨vs, h1, h2, h3⟩ := o.cell r _ h
  have gf : ∀ q, (frzAt r l W.η).get q = if q = r then some (.frz l) else W.η.get q := fun q => by
    have := Hd.get_set W.η r (.frz l) q
    rw [h] at this
    exact this
  have hH : W1.H (W.μ r) = some (.lst vs) := x1.fr _ _ h1 (fun _ z => nomatch z) fun q c e m z => by
    have e' : (frzAt r l W.η).get q = some c := e
    rw [gf] at e'
    by_cases y : q = r
    · rw [if_pos y] at e'; cases e'; cases m
    · rw [if_neg y] at e'
      exact o.apart h e' y z
  have gs : ∀ q, (unfAt r l W1.η).get q = if q = r then (W1.η.get r).map (fun _ => Cell.lst l) else W1.η.get q := fun q => Hd.get_set W1.η r (.lst l) q
  have x2 : Ext W ⟨W1.μ, unfAt r l W1.η, W1.H⟩ := by
    refine ⟨x01.nx, x01.mu, x01.fr, x01.th, fun q c e => ?_⟩
    have e' : (unfAt r l W1.η).get q = some c := e
    rw [gs] at e'
    by_cases z : q = r
    · exact .inl ⟨.lst l, by rw [z]; exact h, fun _ => rfl⟩
    · rw [if_neg z] at e'; exact x01.cs q c e'
  have t2 : Tx W1 ⟨W1.μ, unfAt r l W1.η, W1.H⟩ := ⟨Nat.le_refl _, fun _ _ => rfl, fun _ _ e => e, fun _ _ _ e => e⟩
  have orig : ∀ q c, (unfAt r l W1.η).get q = some c → ∃ c0, W1.η.get q = some c0 := fun q c e => by
    rw [gs] at e
    by_cases z : q = r
    · rw [if_pos z] at e
      cases y : W1.η.get r with
      | none => rw [y] at e; cases e
      | some c0 => exact ⟨c0, by rw [z]; exact y⟩
    · rw [if_neg z] at e; exact ⟨c, e⟩
  refine ⟨x2, fun q c e => ?_, fun q c e => ?_, fun q s c d e1 e2 e => ?_, o1.tab⟩
  · obtain ⟨c0, e0⟩ := orig q c e; exact o1.lt q c0 e0
  · have e' : (unfAt r l W1.η).get q = some c := e
    rw [gs] at e'
    by_cases z : q = r
    · rw [if_pos z] at e'
      cases y : W1.η.get r with
      | none => rw [y] at e'; cases e'
      | some c0 =>
        rw [y] at e'; cases e'
        refine ⟨vs, ?_, h2.mono o x2, h3⟩
        show W1.H (W1.μ q) = some (.lst vs)
        rw [z, hm]; exact hH
    · rw [if_neg z] at e'; exact (o1.cell q c e').tx t2 (fun _ _ e => e)
  · obtain ⟨c0, e0⟩ := orig q c e1
    obtain ⟨d0, f0⟩ := orig s d e2
    exact o1.inj q s c0 d0 e0 f0 e
end
end DL

/-! statements, loops -/
namespace DL
open PySem PySem.Spec L2
section
variable {X : Cx} {N : Nm} {E : XK}
/-! ### blocks -/
def sNil : CS := fun σ η k => k.nx σ η
def sSeq (a b : CS) : CS := fun σ η k => a σ η { k with nx := fun σ1 η1 => b σ1 η1 k }
theorem Sk.next {K : PySem.W.Frag} {W : Wl} {k : KS} {Z : Ends} {nx : SD → Hd → Bool} {Qn : St → Hp → Prop} (h : Sk K N E W k Z) (hn : ∀ W' σd σ, Ext W W' → W'.Ok K N.toNames → RelS W' σd σ → nx σd W'.η = true → Qn σ W'.H) : Sk K N E W { k with nx := nx } { Z with nx := Qn } :=
  ⟨hn, h.rt, h.bk, h.ct, h.xc⟩
theorem jb_nil : JB X N E [] sNil := PSs.imp pss_nil fun Z σ H q => by
  obtain ⟨W, σd, k, rfl, o, s, h, hk⟩ := q
  exact hk.nx W σd σ (Ext.refl W) o s h
theorem jb_cons {st : Stmt} {rest : List Stmt} {a b : CS} (h1 : JS X N E st a) (h2 : JB X N E rest b) : JB X N E (st :: rest) (sSeq a b) := PSs.imp (pss_cons h1 h2) fun Z σ H q => by
  obtain ⟨W, σd, k, rfl, o, s, h, hk⟩ := q
  exact ⟨W, σd, { k with nx := fun σ1 η1 => b σ1 η1 k }, rfl, o, s, h, hk.next fun W1 σd1 σ1 x1 o1 s1 e1 => ⟨W1, σd1, k, rfl, o1, s1, e1, hk.mono o o1 x1⟩⟩
theorem jb_one {st : Stmt} {a : CS} (h1 : JS X N E st a) : JB X N E [st] a := pss_one h1
def sExpr (c : CE) : CS := fun σ η k => c σ η (fun _ η1 => k.nx σ η1) k.xc
theorem js_expr {e : Expr} {c : CE} {pos : Pos} (h : JE X N E e c) (hs : swapsWith e none pos.line X.env = pure false := by rfl) : JS X N E (.Expr e pos) (sExpr c) := PS.imp (ps_expr h hs) fun Z σ H q => by
  obtain ⟨W, σd, k, rfl, o, s, h, hk⟩ := q
  exact tE.bind o s hk.xc h fun W1 d v x1 o1 r1 s1 hx1 h1 => hk.nx W1 σd σ x1 o1 s1 h1
def sRet (c : CE) : CS := fun σ η k => c σ η k.rt k.xc
theorem js_ret {e : Expr} {c : CE} {pos : Pos} (h : JE X N E e c) : JS X N E (.Return (some e) pos) (sRet c) := PS.imp (ps_ret h) fun Z σ H q => by
  obtain ⟨W, σd, k, rfl, o, s, h, hk⟩ := q
  exact tE.bind o s hk.xc h fun W1 d v x1 o1 r1 s1 hx1 h1 => hk.rt W1 d v x1 o1 r1 h1
def sIf (t : CT) (a b : CS) : CS := fun σ η k => t σ η (fun x η1 => match x with
  | true => a σ η1 k
  | false => b σ η1 k) k.xc
theorem js_if {c : Expr} {a b : List Stmt} {ct : CT} {ca cb : CS} {pos : Pos} (hc : JT X N E c ct) (ha : JB X N E a ca) (hb : JB X N E b cb) : JS X N E (.If c a b pos) (sIf ct ca cb) := PS.imp (ps_if hc ha hb) fun Z σ H q => by
  obtain ⟨W, σd, k, rfl, o, s, h, hk⟩ := q
  refine tT.bind o s hk.xc h fun W1 b x1 o1 s1 hx1 h1 => ?_
  cases b with
  | true => rw [if_pos rfl]; exact ⟨W1, σd, k, rfl, o1, s1, h1, hk.mono o o1 x1⟩
  | false => rw [if_neg (by decide)]; exact ⟨W1, σd, k, rfl, o1, s1, h1, hk.mono o o1 x1⟩

/-! ### targets -/
abbrev CG := D → SD → Hd → (SD → Hd → Bool) → KX → Bool
abbrev CGs := List D → SD → Hd → (SD → Hd → Bool) → KX → Bool
def Gk (K : PySem.W.Frag) (N : Nm) (W : Wl) (k : SD → Hd → Bool) (Q : St → Hp → Prop) : Prop := ∀ W' σd σ, Ext W W' → W'.Ok K N.toNames → RelS W' σd σ → k σd W'.η = true → Q σ W'.H
theorem Gk.mono {K : PySem.W.Frag} {W W' : Wl} {k : SD → Hd → Bool} {Q : St → Hp → Prop} (o : W.Ok K N.toNames) (o' : W'.Ok K N.toNames) (x : Ext W W') (h : Gk K N W k Q) : Gk K N W' k Q := fun W2 a b y => h W2 a b (x.trans o o' y)
def tG (K : PySem.W.Frag) (N : Nm) (E : XK) (c : CG) : TG := fun v σ H Q => ∃ W d σd k kx, W.H = H ∧ W.Ok K N.toNames ∧ RelD W d v ∧ RelS W σd σ ∧ c d σd W.η k kx = true ∧ Gk K N W k Q ∧ Xk K N E W kx
def tGs (K : PySem.W.Frag) (N : Nm) (E : XK) (c : CGs) : TGs := fun vs σ H Q => ∃ W ds σd k kx, W.H = H ∧ W.Ok K N.toNames ∧ RelDs W ds vs ∧ RelS W σd σ ∧ c ds σd W.η k kx = true ∧ Gk K N W k Q ∧ Xk K N E W kx
def JG (X : Cx) (N : Nm) (E : XK) (e : Expr) (c : CG) : Prop := PG X e (tG X.K N E c)
def JGs (X : Cx) (N : Nm) (E : XK) (e : List Expr) (c : CGs) : Prop := PGs X e (tGs X.K N E c)
theorem PG.imp {e : Expr} {t t' : TG} (h : PG X e t) (f : ∀ v σ H Q, t' v σ H Q → t v σ H Q) : PG X e t' := ⟨fun pins s σ H v u Q I r q => h.run pins s σ H v u Q I r (f v σ H Q q)⟩
theorem PGs.imp {e : List Expr} {t t' : TGs} (h : PGs X e t) (f : ∀ v σ H Q, t' v σ H Q → t v σ H Q) : PGs X e t' := ⟨fun pins s σ H v u Q I r q => h.run pins s σ H v u Q I r (f v σ H Q q)⟩
def gNm (i : Nat) : CG := fun d σ η k _ => k (σ.set i (some d)) η
theorem jg_name {i : Nat} {x : Str} {pos : Pos} (h : PG X (.Name x pos) (gName i)) : JG X N E (.Name x pos) (gNm i) := PG.imp h fun v σ H Q q => by
  obtain ⟨W, d, σd, k, kx, rfl, o, r, s, h, hk, hx⟩ := q
  exact hk W _ _ (Ext.refl W) o (s.set i r) h
def gsNil : CGs := fun ds σ η k _ => match ds with
  | [] => k σ η
  | _ => false
def gsCons (g : CG) (r : CGs) : CGs := fun ds σ η k kx => match ds with
  | d :: ds' => g d σ η (fun σ1 η1 => r ds' σ1 η1 k kx) kx
  | [] => false
theorem jgs_nil : JGs X N E [] gsNil := PGs.imp pgs_nil fun v σ H Q q => by
  obtain ⟨W, ds, σd, k, kx, rfl, o, r, s, h, hk, hx⟩ := q
  cases ds with
  | nil => rw [RelDs] at r; exact ⟨r, hk W _ _ (Ext.refl W) o s h⟩
  | cons _ _ => cases h
theorem jgs_cons {e : Expr} {es : List Expr} {g : CG} {r : CGs} (hg : JG X N E e g) (hr : JGs X N E es r) (ha : ((assignEach (e :: es) X.env).map (·.2)) = assign e X.env :: ((assignEach es X.env).map (·.2)) := by rfl) : JGs X N E (e :: es) (gsCons g r) := PGs.imp (pgs_cons hg hr ha) fun v σ H Q q => by
  obtain ⟨W, ds, σd, k, kx, rfl, o, rr, s, h, hk, hx⟩ := q
  cases ds with
  | nil => cases h
  | cons d ds =>
    rw [RelDs] at rr
    obtain ⟨v, vs, rfl, r1, r2⟩ := rr
    exact ⟨v, vs, rfl, W, d, σd, _, kx, rfl, o, r1, s, h, fun W1 σd1 σ1 x1 o1 s1 h1 => ⟨W1, ds, σd1, k, kx, rfl, o1, r2.mono o x1, s1, h1, hk.mono o o1 x1, hx.mono o o1 x1⟩, hx⟩
def gTp (n : Nat) (r : CGs) : CG := fun d σ η k kx => match d with
  | .tup ds => match Nat.beq ds.length n with
    | true => r ds σ η k kx
    | false => false
  | _ => false
theorem jg_tup {es : List Expr} {kk : Nat} {pos : Pos} {r : CGs} {n : Nat} (hc : X.calm = true) (h : JGs X N E es r) (hl : (assignEach es X.env).length = n := by rfl) (hf : (assignEach es X.env).findIdx? (·.1) = none := by rfl) : JG X N E (.Tuple es kk pos) (gTp n r) :=
  PG.imp (pg_tup (n := n) hc h hl hf) fun v σ H Q q => by
    obtain ⟨W, d, σd, k, kx, rfl, o, rr, s, h, hk, hx⟩ := q
    cases d with
    | tup ds =>
      simp only [gTp] at h
      cases e : Nat.beq ds.length n with
      | false => rw [e] at h; cases h
      | true =>
        rw [e] at h
        obtain ⟨a, vs, rfl, hs, rs⟩ := relTup rr
        exact ⟨a, vs, rfl, SqT.of hs, by rw [← rs.length]; exact Nat.eq_of_beq_eq_true e, W, ds, σd, k, kx, rfl, o, rs, s, h, hk, hx⟩
    | _ => cases h
/-! a store to o[i] -/
def dput (k v : D) (kvs : List (D × D)) : List (D × D) := match kvs.any (fun p => eqK p.1 k) with
  | true => kvs.map fun p => match eqK p.1 k with
    | true => (p.1, v)
    | false => p
  | false => kvs ++ [(k, v)]
theorem any_relK {W : Wl} {k : D} {k' : Key} (hk : D.key k = some k') : ∀ {kvs : List (D × D)} {ps : List (Key × V)}, RelK W kvs ps → kvs.any (fun p => eqK p.1 k) = ps.any (fun kv => decide (kv.1 = k'))
  | [], ps, h => by rw [RelK] at h; subst h; rfl
  | (a, b) :: r, ps, h => by
    rw [RelK] at h
    obtain ⟨a', v, ps', rfl, h1, h2, h3⟩ := h
    simp only [List.any_cons]
    rw [key1_eq h1 hk, any_relK hk h3]
theorem any_relT {W : Wl} {l : List D} {k' : List Key} (hk : keysOf l = some k') : ∀ {kvs : List (D × D)} {ps : List (List Key × V)}, RelT W kvs ps → kvs.any (fun p => eqK p.1 (.tup l)) = ps.any (fun kv => decide (kv.1 = k'))
  | [], ps, h => by rw [RelT] at h; subst h; rfl
  | (a, b) :: r, ps, h => by
    rw [RelT] at h
    obtain ⟨a', v, ps', rfl, h1, h2, h3⟩ := h
    simp only [List.any_cons]
    cases a with
    | tup m => rw [keyT_eq h1 hk, any_relT hk h3]
    | _ => cases h1
theorem map_relK {W : Wl} {k : D} {k' : Key} {d : D} {w : V} (hk : D.key k = some k') (rd : RelD W d w) : ∀ {kvs : List (D × D)} {ps : List (Key × V)}, RelK W kvs ps →
    RelK W (kvs.map fun p => match eqK p.1 k with | true => (p.1, d) | false => p) (ps.map fun kv => if kv.1 = k' then (kv.1, w) else kv)
  | [], ps, h => by rw [RelK] at h; subst h; rw [List.map_nil, List.map_nil, RelK]
  | (a, b) :: r, ps, h => by
    rw [RelK] at h
    obtain ⟨a', v, ps', rfl, h1, h2, h3⟩ := h
    rw [List.map_cons, List.map_cons]
    have e := key1_eq h1 hk
    by_cases z : a' = k'
    · have e2 : eqK a k = true := by rw [e, decide_eq_true z]
      simp only [e2, if_pos z]
      rw [RelK]; exact ⟨a', w, _, rfl, h1, rd, map_relK hk rd h3⟩
    · have e2 : eqK a k = false := by rw [e, decide_eq_false z]
      simp only [e2, if_neg z]
      rw [RelK]; exact ⟨a', v, _, rfl, h1, h2, map_relK hk rd h3⟩
theorem map_relT {W : Wl} {l : List D} {k' : List Key} {d : D} {w : V} (hk : keysOf l = some k') (rd : RelD W d w) : ∀ {kvs : List (D × D)} {ps : List (List Key × V)}, RelT W kvs ps →
    RelT W (kvs.map fun p => match eqK p.1 (.tup l) with | true => (p.1, d) | false => p) (ps.map fun kv => if kv.1 = k' then (kv.1, w) else kv)
  | [], ps, h => by rw [RelT] at h; subst h; rw [List.map_nil, List.map_nil, RelT]
  | (a, b) :: r, ps, h => by
    rw [RelT] at h
    obtain ⟨a', v, ps', rfl, h1, h2, h3⟩ := h
    rw [List.map_cons, List.map_cons]
    have e : eqK a (.tup l) = decide (a' = k') := by
      cases a with
      | tup m => exact keyT_eq h1 hk
      | _ => cases h1
    by_cases z : a' = k'
    · have e2 : eqK a (.tup l) = true := by rw [e, decide_eq_true z]
      simp only [e2, if_pos z]
      rw [RelT]; exact ⟨a', w, _, rfl, h1, rd, map_relT hk rd h3⟩
    · have e2 : eqK a (.tup l) = false := by rw [e, decide_eq_false z]
      simp only [e2, if_neg z]
      rw [RelT]; exact ⟨a', v, _, rfl, h1, h2, map_relT hk rd h3⟩
theorem app_relK {W : Wl} {k : D} {k' : Key} {d : D} {w : V} (hk : D.key k = some k') (rd : RelD W d w) : ∀ {kvs : List (D × D)} {ps : List (Key × V)}, RelK W kvs ps → RelK W (kvs ++ [(k, d)]) (ps ++ [(k', w)])
  | [], ps, h => by rw [RelK] at h; subst h; rw [List.nil_append, List.nil_append, RelK]; exact ⟨k', w, [], rfl, hk, rd, by rw [RelK]⟩
  | (a, b) :: r, ps, h => by
    rw [RelK] at h
    obtain ⟨a', v, ps', rfl, h1, h2, h3⟩ := h
    rw [List.cons_append, List.cons_append, RelK]
    exact ⟨a', v, _, rfl, h1, h2, app_relK hk rd h3⟩
theorem app_relT {W : Wl} {k : D} {k' : List Key} {d : D} {w : V} (hk : D.tkey k = some k') (rd : RelD W d w) : ∀ {kvs : List (D × D)} {ps : List (List Key × V)}, RelT W kvs ps → RelT W (kvs ++ [(k, d)]) (ps ++ [(k', w)])
  | [], ps, h => by rw [RelT] at h; subst h; rw [List.nil_append, List.nil_append, RelT]; exact ⟨k', w, [], rfl, hk, rd, by rw [RelT]⟩
  | (a, b) :: r, ps, h => by
    rw [RelT] at h
    obtain ⟨a', v, ps', rfl, h1, h2, h3⟩ := h
    rw [List.cons_append, List.cons_append, RelT]
    exact ⟨a', v, _, rfl, h1, h2, app_relT hk rd h3⟩
theorem dput_relK {W : Wl} {k : D} {k' : Key} {d : D} {w : V} {kvs : List (D × D)} {ps : List (Key × V)} (hk : D.key k = some k') (rd : RelD W d w) (h : RelK W kvs ps) : RelK W (dput k d kvs) (putK ps k' w) := by
  unfold dput putK
  rw [any_relK hk h]
  cases e : ps.any (fun kv => decide (kv.1 = k')) with
  | true => rw [if_pos rfl]; exact map_relK hk rd h
  | false => rw [if_neg (by decide)]; exact app_relK hk rd h
theorem dput_relT {W : Wl} {l : List D} {k' : List Key} {d : D} {w : V} {kvs : List (D × D)} {ps : List (List Key × V)} (hk : keysOf l = some k') (rd : RelD W d w) (h : RelT W kvs ps) : RelT W (dput (.tup l) d kvs) (putK ps k' w) := by
  unfold dput putK
  rw [any_relT hk h]
  cases e : ps.any (fun kv => decide (kv.1 = k')) with
  | true => rw [if_pos rfl]; exact map_relT hk rd h
  | false => rw [if_neg (by decide)]; exact app_relT (k := .tup l) hk rd h
theorem dput_len (k d : D) (kvs : List (D × D)) : (dput k d kvs).length ≤ kvs.length + 1 := by
  unfold dput
  split
  · rw [List.length_map]; omega
  · rw [List.length_append]; exact Nat.le_refl _
theorem relK_len {W : Wl} : ∀ {kvs : List (D × D)} {ps : List (Key × V)}, RelK W kvs ps → kvs.length = ps.length
  | [], ps, h => by rw [RelK] at h; subst h; rfl
  | (a, b) :: r, ps, h => by rw [RelK] at h; obtain ⟨a', v, ps', rfl, h1, h2, h3⟩ := h; simp [relK_len h3]
theorem relT_len {W : Wl} : ∀ {kvs : List (D × D)} {ps : List (List Key × V)}, RelT W kvs ps → kvs.length = ps.length
  | [], ps, h => by rw [RelT] at h; subst h; rfl
  | (a, b) :: r, ps, h => by rw [RelT] at h; obtain ⟨a', v, ps', rfl, h1, h2, h3⟩ := h; simp [relT_len h3]
def fSet (o i v : D) (η : Hd) : Option Hd := match o with
  | .ref r => match η.get r with
    | some (.lst l) => match i with
      | .int j => match ixD l.length j with
        | some n => some (η.set r (.lst (l.set n v)))
        | none => none
      | _ => none
    | some (.dct t kvs) => match isKey t i, Nat.blt kvs.length line with
      | true, true => some (η.set r (.dct t (dput i v kvs)))
      | _, _ => none
    | _ => none
  | _ => none
theorem ixD_ixN {n : Nat} {i : Int} {k : Nat} (h : ixD n i = some k) : ixN n i = some k := by
  unfold ixN
  cases i with
  | ofNat j =>
    simp only [ixD] at h
    cases e : Nat.blt j n with
    | false => rw [e] at h; cases h
    | true =>
      rw [e] at h
      have hb : j < n := Nat.le_of_ble_eq_true e
      rw [if_pos (show (0 : Int) ≤ Int.ofNat j from Int.natCast_nonneg j), if_pos (show Int.ofNat j < (n : Int) from by show ((j : Nat) : Int) < _; omega)]
      exact h
  | negSucc j =>
    simp only [ixD] at h
    cases e : Nat.ble (j + 1) n with
    | false => rw [e] at h; cases h
    | true =>
      rw [e] at h
      have hb : j + 1 ≤ n := Nat.le_of_ble_eq_true e
      have e1 : Int.negSucc j = -((j + 1 : Nat) : Int) := rfl
      rw [if_neg (show ¬ (0 : Int) ≤ Int.negSucc j from by rw [e1]; omega), if_pos (show -(n : Int) ≤ Int.negSucc j from by rw [e1]; omega), ← h]
      congr 1; rw [e1]; omega
def tSet (K : PySem.W.Frag) (N : Nm) : TSet := fun o i v H Q => ∃ W dq di dv η', W.H = H ∧ W.Ok K N.toNames ∧ RelD W dq o ∧ RelD W di i ∧ RelD W dv v ∧ fSet dq di dv W.η = some η' ∧ (∀ W', Ext W W' → W'.Ok K N.toNames → W'.η = η' → Q W'.H)
theorem PSet.or {t t' : TSet} (h : PSet X t) (h' : PSet X t') : PSet X (fun o i v H Q => t o i v H Q ∨ t' o i v H Q) :=
  fun pins s σ H o i v ov iv u Q I r1 r2 r3 q => q.elim (h pins s σ H o i v ov iv u Q I r1 r2 r3) (h' pins s σ H o i v ov iv u Q I r1 r2 r3)
theorem PSet.imp {t t' : TSet} (h : PSet X t) (f : ∀ o i v H Q, t' o i v H Q → t o i v H Q) : PSet X t' :=
  fun pins s σ H o i v ov iv u Q I r1 r2 r3 q => h pins s σ H o i v ov iv u Q I r1 r2 r3 (f o i v H Q q)
theorem pset_all (hu : X.A.units + 1 < cLine) : PSet X (tSet X.K N) := PSet.imp (PSet.or set_list (set_dict hu)) fun vo vi vv H Q q => by
  obtain ⟨W, dq, di, dv, η', rfl, o, ro, ri, rv, hf, hq⟩ := q
  cases dq with
  | ref r =>
    simp only [fSet] at hf
    cases e : W.η.get r with
    | none => rw [e] at hf; cases hf
    | some c =>
      rw [e] at hf
      rw [relRef ro]
      cases c with
      | lst l =>
        cases di with
        | int j =>
          simp only at hf
          cases ek : ixD l.length j with
          | none => rw [ek] at hf; cases hf
          | some n =>
            rw [ek] at hf
            cases hf
            obtain ⟨vs, g1, g2, g3⟩ := o.cell r _ e
            rw [relInt ri]
            refine .inl ⟨_, vs, j, n, rfl, rfl, g1, by rw [← g2.length]; exact ixD_ixN ek, ?_⟩
            obtain ⟨x, o'⟩ := o.put (c := .lst (l.set n dv)) (ob := .lst (vs.set n vv)) e rfl (fun x => ⟨_, upd_same, (g2.mono o x).set (rv.mono o x) n, by rw [List.length_set]; exact g3⟩)
            exact hq _ x o' rfl
        | _ => cases hf
      | dct t kvs =>
        simp only at hf
        cases ek : isKey t di with
        | false => rw [ek] at hf; cases hf
        | true =>
          cases el : Nat.blt kvs.length line with
          | false => rw [ek, el] at hf; cases hf
          | true =>
            rw [ek, el] at hf
            cases hf
            have hl : kvs.length < sizeLine := Nat.le_of_ble_eq_true el
            have hl2 : (dput di dv kvs).length ≤ sizeLine := Nat.le_trans (dput_len _ _ _) hl
            have c := o.cell r _ e
            cases t with
            | false =>
              obtain ⟨ps, h1, h2, h3⟩ := c
              obtain ⟨k', hk'⟩ := isKey_key ek
              have ev := key_rel hk' ri
              subst ev
              refine .inr ⟨W.μ r, _, rfl, .inl ⟨ps, k', h1, rfl, by rw [← relK_len h2]; exact hl, rfl⟩, ?_⟩
              obtain ⟨x, o'⟩ := o.put (c := .dct false (dput di dv kvs)) (ob := .dK (putK ps k' vv)) e rfl (fun x => ⟨_, upd_same, dput_relK hk' (rv.mono o x) (h2.mono o x), hl2⟩)
              exact hq _ x o' rfl
            | true =>
              obtain ⟨ps, h1, h2, h3⟩ := c
              cases di with
              | tup l =>
                obtain ⟨k', hk'⟩ := isKey_keys ek
                obtain ⟨q, vs, rfl, hqs, rq⟩ := relTup ri
                have ev := keys_rel hk' rq
                subst ev
                refine .inr ⟨W.μ r, _, rfl, .inr ⟨ps, k', q, h1, rfl, hqs, by rw [← relT_len h2]; exact hl, rfl⟩, ?_⟩
                obtain ⟨x, o'⟩ := o.put (c := .dct true (dput (.tup l) dv kvs)) (ob := .dT (putK ps k' vv)) e rfl (fun x => ⟨_, upd_same, dput_relT hk' (rv.mono o x) (h2.mono o x), hl2⟩)
                exact hq _ x o' rfl
              | _ => cases ek
      | _ => cases hf
  | _ => cases hf
def gSb (co ci : CE) : CG := fun d σ η k kx => co σ η (fun x η1 => ci σ η1 (fun y η2 => match fSet x y d η2 with
  | some η3 => k σ η3
  | none => false) kx) kx
theorem jg_sub {o i : Expr} {co ci : CE} {pos : Pos} (hu : X.A.units + 1 < cLine) (ho : JE X N E o co) (hi : JE X N E i ci)
    (hs : ∀ v, assign (.Subscript o i pos) X.env v = (do let ov ← holding [v] (eval o X.env); let iv ← holding [v, ov] (eval i X.env); standAt pos; holding [v, ov, iv] (setItem ov iv v); release [v, ov, iv] []) := by intro _; rfl) : JG X N E (.Subscript o i pos) (gSb co ci) :=
  PG.imp (pg_sub ho hi (pset_all (N := N) hu) hs) fun v σ H Q q => by
    obtain ⟨W, d, σd, k, kx, rfl, o, r, s, h, hk, hx⟩ := q
    refine tE.bind o s hx h fun W1 dx x x1 o1 r1 s1 hx1 h1 => ?_
    refine tE.bind o1 s1 hx1 h1 fun W2 dy y x2 o2 r2 s2 hx2 h2 => ?_
    cases e : fSet dx dy d W2.η with
    | none => rw [e] at h2; cases h2
    | some η' =>
      rw [e] at h2
      have x02 := x1.trans o o1 x2
      exact ⟨W2, dx, dy, d, η', rfl, o2, r1.mono o1 x2, r2, r.mono o x02, e, fun W3 x3 o3 e3 => hk W3 σd σ (x02.trans o o2 x3) o3 (s2.mono o2 x3) (by rw [e3]; exact h2)⟩

/-! ### assignments -/
def sAsg (c : CE) (g : CG) : CS := fun σ η k => c σ η (fun d η1 => g d σ η1 k.nx k.xc) k.xc
theorem tAsg_of {K : PySem.W.Frag} {c : CE} {g : CG} {Z : Ends} {σ : St} {H : Hp} (h : tS K N E (sAsg c g) Z σ H) : tAsg (tE K N E c) (tG K N E g) Z σ H := by
  obtain ⟨W, σd, k, rfl, o, s, h, hk⟩ := h
  exact tE.bind o s hk.xc h fun W1 d v x1 o1 r1 s1 hx1 h1 => ⟨W1, d, σd, k.nx, k.xc, rfl, o1, r1, s1, h1, fun W2 σd2 σ2 x2 o2 s2 h2 => hk.nx W2 σd2 σ2 (x1.trans o o1 x2) o2 s2 h2, hx1⟩
theorem js_asg {tg e : Expr} {c : CE} {g : CG} {pos : Pos} (he : JE X N E e c) (hg : JG X N E tg g) (h1 : swapsWithSole [tg] e pos.line X.env = pure false := by rfl) (h2 : swappedStores [tg] e X.env = pure none := by rfl)
    (h3 : (assignEach [tg] X.env).map (·.2) = [assign tg X.env] := by rfl) : JS X N E (.Assign [tg] e pos) (sAsg c g) := PS.imp (ps_asg he hg h1 h2 h3) fun Z σ H q => tAsg_of q
theorem tAsg_name {K : PySem.W.Frag} {c : CE} {i : Nat} {te : TE} {Z : Ends} {σ : St} {H : Hp} (ht : ∀ σ H Q, tE K N E c σ H Q → te σ H Q) (h : tS K N E (sAsg c (gNm i)) Z σ H) : tAsg te (gName i) Z σ H := by
  obtain ⟨W, σd, k, rfl, o, s, h, hk⟩ := h
  exact ht _ _ _ (tE.bind o s hk.xc h fun W1 d v x1 o1 r1 s1 hx1 h1 => hk.nx W1 _ _ x1 o1 (s1.set i r1) h1)
theorem js_set {i : Nat} {x : Str} {e : Expr} {c : CE} {pos pos' : Pos} (hN : X.N.Nodup) (hi : X.N[i]? = some x) (hx : L2.Loc X.env.scope x) (he : JE X N E e c) (h1 : swapsWith e (some (.Name x pos')) pos.line X.env = pure false := by rfl)
    (hf : X.fn x = true ∨ X.env.scope.names.lookup x = some .local := by first | exact .inl rfl | exact .inr rfl | assumption) : JS X N E (.Assign [.Name x pos'] e pos) (sAsg c (gNm i)) := PS.imp (ps_set hN hi hx he h1 hf) fun Z σ H q => tAsg_name (fun _ _ _ h => h) q
def sPar (i j : Nat) (a : CA) : CS := fun σ η k => a σ η (fun ds η1 => match ds with
  | [x, y] => k.nx ((σ.set i (some x)).set j (some y)) η1
  | _ => false) k.xc
theorem js_par {i j : Nat} {x y : Str} {a b : Expr} {ca : CA} {px py pt pos : Pos} {kt k2 pt2} (hc : X.calm = true) (hN : X.N.Nodup) (hi : X.N[i]? = some x) (hj : X.N[j]? = some y) (hij : i ≠ j) (hx : X.env.scope.names.lookup x = some .local) (hy : X.env.scope.names.lookup y = some .local)
    (ha : JA X N E [a, b] ca) (hw : swappedStores [.Tuple [.Name x px, .Name y py] kt pt] (.Tuple [a, b] k2 pt2) X.env = pure (some [x, y])) : JS X N E (.Assign [.Tuple [.Name x px, .Name y py] kt pt] (.Tuple [a, b] k2 pt2) pos) (sPar i j ca) :=
  PS.imp (ps_par hc hN hi hj hij hx hy ha hw) fun Z σ H q => by
    obtain ⟨W, σd, k, rfl, o, s, h, hk⟩ := q
    refine tAr.bind o s hk.xc h fun W1 ds vs x1 o1 r1 s1 hx1 h1 => ?_
    match ds, r1, h1 with
    | [d, e], r1, h1 =>
      obtain ⟨v, u, rfl, ra, rb⟩ := rel2 r1
      exact ⟨v, u, rfl, hk.nx W1 _ _ x1 o1 ((s1.set i ra).set j rb) h1⟩
    | [], _, h1 => cases h1
    | [_], _, h1 => cases h1
    | _ :: _ :: _ :: _, _, h1 => cases h1
/-! x op= e -/
def sAug (i : Nat) (f : F2) (c : CE) : CS := fun σ η k => match σ[i]? with
  | some (some x) => c σ η (fun y η1 => match f x y η1 with
    | some (d, η2) => k.nx (σ.set i (some d)) η2
    | none => false) k.xc
  | _ => false
theorem js_aug {i : Nat} {x : Str} {e : Expr} {c : CE} {op : Operator} {f : F2} {pos pos' : Pos} (hN : X.N.Nodup) (hi : X.N[i]? = some x) (hx : L2.Loc X.env.scope x) (he : JE X N E e c) (ho : OpR X (inplaceOp op) (r2 X.K N f))
    (hf : X.fn x = true ∨ X.env.scope.names.lookup x = some .local := by first | exact .inl rfl | exact .inr rfl | assumption) : JS X N E (.AugAssign (.Name x pos') op e pos) (sAug i f c) :=
  PS.imp (ps_aug hN hi hx he ho hf) fun Z σ H q => by
    obtain ⟨W, σd, k, rfl, o, s, h, hk⟩ := q
    simp only [sAug] at h
    cases e : σd[i]? with
    | none => rw [e] at h; cases h
    | some y =>
      cases y with
      | none => rw [e] at h; cases h
      | some d =>
        rw [e] at h
        obtain ⟨v, ev, rv⟩ := s.get i d e
        refine ⟨v, ev, tE.bind o s hk.xc h fun W1 dy y x1 o1 r1 s1 hx1 h1 => ?_⟩
        cases ef : f d dy W1.η with
        | none => rw [ef] at h1; cases h1
        | some p =>
          obtain ⟨z, η'⟩ := p
          rw [ef] at h1
          exact ⟨W1, d, dy, z, η', rfl, o1, rv.mono o x1, r1, ef, fun W' w x3 o3 e3 r3 => hk.nx W' _ _ (x1.trans o o1 x3) o3 ((s1.mono o1 x3).set i r3) (by rw [e3]; exact h1)⟩
theorem opd_idiv : OpR X (inplaceOp .FloorDiv) (r2 X.K N (fI2c divOk idiv)) := opd_intc iop_fdiv divOk_ok fun _ _ => rfl
end
end DL

/-! what a for walks, for, while, comprehensions -/
namespace DL
open PySem PySem.Spec L2
/-- what is walked: the items; a cell that must not change meanwhile, with its list -/
structure Its where
  l : List D
  fz : Option (Nat × List D)
def Its.fr (it : Its) (η : Hd) : Hd := match it.fz with
  | none => η
  | some (r, l) => frzAt r l η
def Its.un (it : Its) (η : Hd) : Hd := match it.fz with
  | none => η
  | some (r, l) => unfAt r l η
def FzOk (W : Wl) (it : Its) : Prop := ∀ r l, it.fz = some (r, l) → W.η.get r = some (.lst l)
def Its.w (it : Its) (W : Wl) : Wl := ⟨W.μ, it.fr W.η, W.H⟩
/-- what a walk leans on stays -/
structure Sty (Wf W1 : Wl) : Prop where
  tx : Tx Wf W1
  fz : ∀ r l vs, Wf.η.get r = some (.frz l) → Wf.H (Wf.μ r) = some (.lst vs) → W1.H (Wf.μ r) = some (.lst vs)
  ld : ∀ r t l ob u, Wf.η.get r = some (.ldc t l) → Wf.H (Wf.μ r) = some (.frz ob u) → W1.H (Wf.μ r) = some (.frz ob u)
theorem Ext.sty {K : PySem.W.Frag} {N : Names} {W W1 : Wl} (o : W.Ok K N) (x : Ext W W1) : Sty W W1 := ⟨x.tx o, fun r l vs h hv => x.fr _ _ hv (fun _ z => nomatch z) fun q c e m z => by
  by_cases y : q = r
  · rw [y, h] at e; cases e; cases m
  · exact o.apart h e y z, fun r t l ob u h hv => x.fr _ _ hv (fun _ z => nomatch z) fun q c e m z => by
  by_cases y : q = r
  · rw [y, h] at e; cases e; cases m
  · exact o.apart h e y z⟩
structure WalkD (K : PySem.W.Frag) (N : Nm) (Wf : Wl) (l : List D) (J : It) : Prop where
  go : ∀ W1 i, Sty Wf W1 → W1.Ok K N.toNames → i < l.length → J.go i W1.H
  stop : ∀ W1, Sty Wf W1 → W1.Ok K N.toNames → J.stop l.length W1.H
  yld : ∀ W1 i x H', Sty Wf W1 → W1.Ok K N.toNames → i < l.length → J.yld i W1.H x H' → ∃ W2 d, l[i]? = some d ∧ Ext W1 W2 ∧ W2.Ok K N.toNames ∧ W2.H = H' ∧ W2.η = W1.η ∧ RelD W2 d x
abbrev CI := SD → Hd → (Its → Hd → Bool) → KX → Bool
def tI (K : PySem.W.Frag) (N : Nm) (E : XK) (c : CI) : TI := fun σ H R => ∃ W σd k kx, W.H = H ∧ W.Ok K N.toNames ∧ RelS W σd σ ∧ c σd W.η k kx = true ∧
  (∀ W' it J, Ext W W' → W'.Ok K N.toNames → FzOk W' it → WalkD K N (it.w W') it.l J → k it W'.η = true → R J W'.H) ∧ Xk K N E W kx
def JI (X : Cx) (N : Nm) (E : XK) (tg iter : Expr) (c : CI) : Prop := PI X tg iter (tI X.K N E c)
section
variable {X : Cx} {N : Nm} {E : XK}
theorem PI.imp {tg iter : Expr} {t t' : TI} (h : PI X tg iter t) (f : ∀ σ H R, t' σ H R → t σ H R) : PI X tg iter t' := ⟨fun pins s σ H R I q => h.run pins s σ H R I (f σ H R q)⟩
/-- frozen and thawed -/
theorem Its.froze {K : PySem.W.Frag} {W : Wl} {it : Its} (o : W.Ok K N.toNames) (h : FzOk W it) : Ext W (it.w W) ∧ (it.w W).Ok K N.toNames := by
  unfold Its.w Its.fr
  cases e : it.fz with
  | none => exact ⟨Ext.refl W, o⟩
  | some p => obtain ⟨r, l⟩ := p; exact o.freeze (h r l e)
theorem Its.thaw {K : PySem.W.Frag} {W W1 : Wl} {it : Its} (o : W.Ok K N.toNames) (h : FzOk W it) (x : Ext (it.w W) W1) (o1 : W1.Ok K N.toNames) : Ext W ⟨W1.μ, it.un W1.η, W1.H⟩ ∧ Wl.Ok K N.toNames ⟨W1.μ, it.un W1.η, W1.H⟩ := by
  unfold Its.un
  unfold Its.w Its.fr at x
  cases e : it.fz with
  | none => rw [e] at x; exact ⟨x, o1⟩
  | some p => obtain ⟨r, l⟩ := p; rw [e] at x; exact o.unfreeze (h r l e) x o1
theorem Its.un_nx (it : Its) (η : Hd) : (it.un η).nx = η.nx := by
  unfold Its.un; cases it.fz with
  | none => rfl
  | some p => rfl
theorem thaw_tx {W1 : Wl} (it : Its) : Tx W1 ⟨W1.μ, it.un W1.η, W1.H⟩ := ⟨Nat.le_of_eq (Its.un_nx it W1.η).symm, fun _ _ => rfl, fun _ _ e => e, fun _ _ _ e => e⟩
theorem RelS.tx {W W1 : Wl} {σd : SD} {σ : St} (x : Tx W W1) (h : RelS W σd σ) : RelS W1 σd σ := ⟨h.len, fun i d e => by obtain ⟨v, e', r⟩ := h.get i d e; exact ⟨v, e', r.tx x⟩⟩
theorem RelX.tx {W W1 : Wl} {x : Xc} {cls : Value} {dd : Option Addr} (t : Tx W W1) (hx : ∀ a f, W.H a = some (.xd f) → W1.H a = some (.xd f)) (h : RelX N W x cls dd) : RelX N W1 x cls dd := by
  obtain ⟨h1, h2⟩ := h
  refine ⟨h1, ?_⟩
  cases e : x.p with
  | none => rw [e] at h2; exact h2
  | some d => rw [e] at h2; obtain ⟨a, v, q1, q2, q3⟩ := h2; exact ⟨a, v, q1, hx a _ q2, q3.tx t⟩
/-- what is wanted behind, where a cell is frozen meanwhile -/
def KS.thaw (k : KS) (it : Its) : KS := ⟨fun σ η => k.nx σ (it.un η), fun d η => k.rt d (it.un η), fun σ η => k.bk σ (it.un η), fun σ η => k.ct σ (it.un η), fun x η => k.xc x (it.un η)⟩
theorem Sk.thaw {K : PySem.W.Frag} {W : Wl} {k : KS} {Z : Ends} {it : Its} (o : W.Ok K N.toNames) (h : FzOk W it) (hk : Sk K N E W k Z) : Sk K N E (it.w W) (k.thaw it) Z where
  nx := fun W1 σd σ x o1 s e => by
    obtain ⟨x2, o2⟩ := Its.thaw o h x o1
    exact hk.nx ⟨W1.μ, it.un W1.η, W1.H⟩ σd σ x2 o2 (s.tx (thaw_tx it)) e
  rt := fun W1 d v x o1 r e => by
    obtain ⟨x2, o2⟩ := Its.thaw o h x o1
    exact hk.rt ⟨W1.μ, it.un W1.η, W1.H⟩ d v x2 o2 (r.tx (thaw_tx it)) e
  bk := fun W1 σd σ x o1 s e => by
    obtain ⟨x2, o2⟩ := Its.thaw o h x o1
    exact hk.bk ⟨W1.μ, it.un W1.η, W1.H⟩ σd σ x2 o2 (s.tx (thaw_tx it)) e
  ct := fun W1 σd σ x o1 s e => by
    obtain ⟨x2, o2⟩ := Its.thaw o h x o1
    exact hk.ct ⟨W1.μ, it.un W1.η, W1.H⟩ σd σ x2 o2 (s.tx (thaw_tx it)) e
  xc := fun W1 xx cls dd x o1 r e => by
    obtain ⟨x2, o2⟩ := Its.thaw o h x o1
    exact hk.xc ⟨W1.μ, it.un W1.η, W1.H⟩ xx cls dd x2 o2 (r.tx (thaw_tx it) fun _ _ e => e) e

/-! ### the sources -/
/-- a list or a tuple -/
def iSeq (K : PySem.W.Frag) (tl : TE) : TI := fun σ H R => tl σ H fun x H1 => (∃ a, x = .ref a ∧ (∃ xs, SqL K H1 a xs) ∧ R (Itl K a) H1) ∨ (∃ a, x = .ref a ∧ (∃ xs, SqT K H1 a xs) ∧ R (Itt K a) H1)
theorem pi_seq {tg l : Expr} {tl : TE} (hl : PE X l tl) : PI X tg l (iSeq X.K tl) := by
  refine ⟨fun pins s σ H R I h => ?_⟩
  refine thn (hl.run pins s σ H _ I h) fun v s1 ⟨x, H1, I1, r1, q1⟩ => ?_
  rcases q1 with ⟨a, e, ⟨xs, hq⟩, q⟩ | ⟨a, e, ⟨xs, hq⟩, q⟩
  · subst e
    cases r1
    obtain ⟨its, rv, p, hz⟩ := I1.list hq
    refine wpAny_pyIter_list p.isList ?_
    refine ⟨s1.heap.objs.size, [s1.heap.objs.size], _, _, H1, rfl, I1.kept (t' := s1.toks) fun b o e => Heap.get?_push_of_some _ e, turn_list a _, ⟨_, Heap.get?_push_size _ rfl, rfl, rfl⟩, fun b hb => ?_, q⟩
    have e : b = s1.heap.objs.size := by simpa using hb
    subst e
    exact I1.fpOk (Nat.le_refl _) (I1.hok.fresh (Nat.le_refl _))
  · subst e
    cases r1
    obtain ⟨its, rv, p, hz⟩ := I1.tuple hq
    refine wpAny_pyIter_tuple (show s1.heap.IsTuple a its.toArray from p) ?_
    refine ⟨s1.heap.objs.size, [s1.heap.objs.size], _, _, H1, rfl, I1.kept (t' := s1.toks) fun b o e => Heap.get?_push_of_some _ e, turn_tuple a _, ⟨_, Heap.get?_push_size _ rfl, rfl, rfl⟩, fun b hb => ?_, q⟩
    have e : b = s1.heap.objs.size := by simpa using hb
    subst e
    exact I1.fpOk (Nat.le_refl _) (I1.hok.fresh (Nat.le_refl _))
/-- what a value gives to walk -/
def itsOf (η : Hd) : D → Option Its
  | .tup l => some ⟨l, none⟩
  | .ref r => match η.get r with
    | some (.lst l) => some ⟨l, some (r, l)⟩
    | some (.frz l) => some ⟨l, none⟩
    | _ => none
  | _ => none
def ciSeq (c : CE) : CI := fun σ η k kx => c σ η (fun d η1 => match itsOf η1 d with
  | some it => k it η1
  | none => false) kx
/-- a list that stays -/
theorem walkD_list {K : PySem.W.Frag} {Wf : Wl} {a : Addr} {l : List D} {vs : List V} (st : ∀ W1, Sty Wf W1 → W1.H a = some (.lst vs)) (r : RelDs Wf l vs) : WalkD K N Wf l (Itl K a) := by
  have hl := r.length
  refine ⟨fun W1 i x o hi => ?_, fun W1 x o => ?_, fun W1 i y H' x o hi hy => ?_⟩
  · exact ⟨vs, vs[i]'(by omega), SqL.of (st W1 x), by simp [show i < vs.length by omega]⟩
  · exact ⟨vs, SqL.of (st W1 x), by omega⟩
  · obtain ⟨e1, e2⟩ := hy
    obtain ⟨d, e3, e4⟩ := (r.tx x.tx).get (e2 vs (SqL.of (st W1 x)))
    exact ⟨W1, d, e3, Ext.refl W1, o, e1.symm, rfl, e4⟩
theorem walkD_tup {K : PySem.W.Frag} {Wf : Wl} {a : Addr} {l : List D} {vs : List V} (h : Wf.H a = some (.tup vs)) (r : RelDs Wf l vs) : WalkD K N Wf l (Itt K a) := by
  have hl := r.length
  refine ⟨fun W1 i x o hi => ?_, fun W1 x o => ?_, fun W1 i y H' x o hi hy => ?_⟩
  · exact ⟨vs, vs[i]'(by omega), SqT.of (x.tx.tp _ _ h), by simp [show i < vs.length by omega]⟩
  · exact ⟨vs, SqT.of (x.tx.tp _ _ h), by omega⟩
  · obtain ⟨e1, e2⟩ := hy
    obtain ⟨d, e3, e4⟩ := (r.tx x.tx).get (e2 vs (SqT.of (x.tx.tp _ _ h)))
    exact ⟨W1, d, e3, Ext.refl W1, o, e1.symm, rfl, e4⟩
theorem its_walk {K : PySem.W.Frag} {W : Wl} {d : D} {v : V} {it : Its} (o : W.Ok K N.toNames) (r : RelD W d v) (h : itsOf W.η d = some it) : FzOk W it ∧
    ((∃ a, v = .ref a ∧ (∃ xs, SqL K W.H a xs) ∧ WalkD K N (it.w W) it.l (Itl K a)) ∨ (∃ a, v = .ref a ∧ (∃ xs, SqT K W.H a xs) ∧ WalkD K N (it.w W) it.l (Itt K a))) := by
  cases d with
  | tup l =>
    cases h
    obtain ⟨a, vs, rfl, hs, rs⟩ := relTup r
    exact ⟨(fun r l e => nomatch e), .inr ⟨a, rfl, ⟨vs, SqT.of hs⟩, walkD_tup (Wf := W) hs rs⟩⟩
  | ref q =>
    simp only [itsOf] at h
    cases e : W.η.get q with
    | none => rw [e] at h; cases h
    | some c =>
      rw [e] at h
      rw [relRef r]
      cases c with
      | lst l =>
        cases h
        have fz : FzOk W ⟨l, some (q, l)⟩ := fun r l' e' => by cases e'; exact e
        obtain ⟨vs, h1, h2, h3⟩ := o.cell q _ e
        obtain ⟨xf, of⟩ := Its.froze o fz
        have gq : (Its.w ⟨l, some (q, l)⟩ W).η.get q = some (.frz l) := by
          show (frzAt q l W.η).get q = some (.frz l)
          unfold frzAt
          rw [Hd.get_set, if_pos rfl, e]; rfl
        exact ⟨fz, .inl ⟨_, rfl, ⟨vs, SqL.of h1⟩, walkD_list (fun W1 x => x.fz q l _ gq h1) (h2.mono o xf)⟩⟩
      | frz l =>
        cases h
        obtain ⟨vs, h1, h2, h3⟩ := o.cell q _ e
        exact ⟨(fun r l e => nomatch e), .inl ⟨_, rfl, ⟨vs, SqL.of h1⟩, walkD_list (Wf := W) (fun W1 x => x.fz q l _ e h1) h2⟩⟩
      | _ => cases h
  | _ => cases h
theorem ji_seq {tg e : Expr} {c : CE} (h : JE X N E e c) : JI X N E tg e (ciSeq c) := PI.imp (pi_seq h) fun σ H R q => by
  obtain ⟨W, σd, k, kx, rfl, o, s, h, hk, hx⟩ := q
  refine tE.bind o s hx h fun W1 d v x1 o1 r1 s1 hx1 h1 => ?_
  cases e : itsOf W1.η d with
  | none => rw [e] at h1; cases h1
  | some it =>
    rw [e] at h1
    obtain ⟨fz, h | h⟩ := its_walk o1 r1 e
    · obtain ⟨a, e1, e2, e3⟩ := h
      exact .inl ⟨a, e1, e2, hk W1 it _ x1 o1 fz e3 h1⟩
    · obtain ⟨a, e1, e2, e3⟩ := h
      exact .inr ⟨a, e1, e2, hk W1 it _ x1 o1 fz e3 h1⟩
/-- range -/
def rangeD : Nat → Int → List D
  | 0, _ => []
  | n + 1, i => .int i :: rangeD n (i + 1)
theorem rangeD_len : ∀ (n : Nat) (i : Int), (rangeD n i).length = n
  | 0, _ => rfl
  | n + 1, i => by rw [rangeD, List.length_cons, rangeD_len n (i + 1)]
theorem rangeD_get : ∀ (n : Nat) (i : Int) (k : Nat), k < n → (rangeD n i)[k]? = some (.int (i + k))
  | 0, _, k, h => absurd h (by omega)
  | n + 1, i, 0, h => by rw [rangeD]; simp
  | n + 1, i, k + 1, h => by
    rw [rangeD]
    show (rangeD n (i + 1))[k]? = _
    rw [rangeD_get n (i + 1) k (by omega)]
    congr 2; omega
def rOk (i : Int) : Bool := Nat.ble i.natAbs 1000000000000000000
theorem rOk_ok {i : Int} (h : rOk i = true) : -(2 ^ 62) ≤ i ∧ i < 2 ^ 62 := by
  have := Nat.le_of_ble_eq_true h
  omega
def ciR1 (a : CA) : CI := fun σ η k kx => a σ η (fun ds η1 => match ds with
  | [.int j] => match rOk j with
    | true => k ⟨rangeD j.toNat 0, none⟩ η1
    | false => false
  | _ => false) kx
def ciR2 (a : CA) : CI := fun σ η k kx => a σ η (fun ds η1 => match ds with
  | [.int i, .int j] => match rOk i, rOk j with
    | true, true => k ⟨rangeD (j - i).toNat i, none⟩ η1
    | _, _ => false
  | _ => false) kx
theorem walkD_range {K : PySem.W.Frag} {Wf : Wl} {n : Nat} {i : Int} : WalkD K N Wf (rangeD n i) (Itr i n) := by
  refine ⟨fun W1 k x o hi => ?_, fun W1 x o => ?_, fun W1 k y H' x o hi hy => ?_⟩
  · rw [rangeD_len] at hi; exact hi
  · rw [rangeD_len]; exact Nat.le_refl _
  · obtain ⟨e1, e2⟩ := hy
    rw [rangeD_len] at hi
    exact ⟨W1, .int (i + k), rangeD_get n i k hi, Ext.refl W1, o, e1.symm, rfl, by rw [e2]; exact mkInt⟩
theorem ji_range1 {tg a : Expr} {ca : CA} {p pos : Pos} (hg : Gl X "range") (hm : X.mg "range" = none) (ha : JA X N E [a] ca) (hs : starEach [a] X.env = [(false, eval a X.env)] := by rfl) : JI X N E tg (.Call (.Name "range" p) [a] [] pos) (ciR1 ca) :=
  PI.imp (pi_range1 hg hm ha hs) fun σ H R q => by
    obtain ⟨W, σd, k, kx, rfl, o, s, h, hk, hx⟩ := q
    refine tAr.bind o s hx h fun W1 ds vs x1 o1 r1 s1 hx1 h1 => ?_
    match ds, r1, h1 with
    | [.int j], r1, h1 =>
      simp only at h1
      cases e : rOk j with
      | false => rw [e] at h1; cases h1
      | true =>
        rw [e] at h1
        obtain ⟨v, rfl, r⟩ := rel1 r1
        rw [relInt r]
        exact ⟨j, rfl, (rOk_ok e).1, (rOk_ok e).2, hk W1 _ _ x1 o1 (by intro r l e; cases e) walkD_range h1⟩
    | [], _, h1 => cases h1
    | [.non], _, h1 => cases h1
    | [.bl _], _, h1 => cases h1
    | [.str _], _, h1 => cases h1
    | [.tup _], _, h1 => cases h1
    | [.ref _], _, h1 => cases h1
    | _ :: _ :: _, _, h1 => simp at h1
theorem ji_range2 {tg a b : Expr} {ca : CA} {p pos : Pos} (hg : Gl X "range") (hm : X.mg "range" = none) (ha : JA X N E [a, b] ca) (hs : starEach [a, b] X.env = [(false, eval a X.env), (false, eval b X.env)] := by rfl) (hs2 : starEach [b] X.env = [(false, eval b X.env)] := by rfl) : JI X N E tg (.Call (.Name "range" p) [a, b] [] pos) (ciR2 ca) :=
  PI.imp (pi_range2 hg hm ha hs hs2) fun σ H R q => by
    obtain ⟨W, σd, k, kx, rfl, o, s, h, hk, hx⟩ := q
    refine tAr.bind o s hx h fun W1 ds vs x1 o1 r1 s1 hx1 h1 => ?_
    match ds, r1, h1 with
    | [x, y], r1, h1 =>
      obtain ⟨v, u, rfl, ra, rb⟩ := rel2 r1
      cases x with
      | int i =>
        cases y with
        | int j =>
          simp only at h1
          cases e : rOk i with
          | false => rw [e] at h1; cases h1
          | true =>
            cases e2 : rOk j with
            | false => rw [e, e2] at h1; cases h1
            | true =>
              rw [e, e2] at h1
              rw [relInt ra, relInt rb]
              exact ⟨i, j, rfl, ⟨(rOk_ok e).1, (rOk_ok e).2, (rOk_ok e2).1, (rOk_ok e2).2⟩, hk W1 _ _ x1 o1 (by intro r l e; cases e) walkD_range h1⟩
        | _ => cases h1
      | _ => cases h1
    | [], _, h1 => cases h1
    | [_], _, h1 => simp at h1
    | _ :: _ :: _ :: _, _, h1 => simp at h1
/-- reversed(list or tuple) -/
def itsRev (η : Hd) (d : D) : Option Its := match itsOf η d with
  | some it => some ⟨it.l.reverse, it.fz⟩
  | none => none
def ciRev (c : CE) : CI := fun σ η k kx => c σ η (fun d η1 => match itsRev η1 d with
  | some it => k it η1
  | none => false) kx
theorem rev_get {W : Wl} {l : List D} {vs : List V} {i : Nat} {x : V} (r : RelDs W l vs) (hi : i < l.length) (h : vs[vs.length - 1 - i]? = some x) : ∃ d, l.reverse[i]? = some d ∧ RelD W d x := by
  obtain ⟨d, e1, e2⟩ := r.get h
  refine ⟨d, ?_, e2⟩
  rw [List.getElem?_reverse hi, r.length]; exact e1
theorem ji_rev {tg e : Expr} {c : CE} {p pos : Pos} (hg : Gl X "reversed") (hm : X.mg "reversed" = none) (he : JE X N E e c) (hs : starEach [e] X.env = (false, eval e X.env) :: starEach [] X.env := by rfl) : JI X N E tg (.Call (.Name "reversed" p) [e] [] pos) (ciRev c) :=
  PI.imp (RT.pi_revA hg hm he hs) fun σ H R q => by
    obtain ⟨W, σd, k, kx, rfl, o, s, h, hk, hx⟩ := q
    refine tE.bind o s hx h fun W1 d v x1 o1 r1 s1 hx1 h1 => ?_
    unfold itsRev at h1
    cases e : itsOf W1.η d with
    | none => rw [e] at h1; cases h1
    | some it =>
      rw [e] at h1
      simp only at h1
      cases d with
      | tup l =>
        cases e
        obtain ⟨a, vs, rfl, hs, rs⟩ := relTup r1
        refine ⟨a, vs, rfl, .inr ⟨SqT.of hs, hk W1 ⟨l.reverse, none⟩ _ x1 o1 (fun r l e => nomatch e) ?_ h1⟩⟩
        have hl := rs.length
        refine ⟨fun W2 i x o hi => ?_, fun W2 x o => ?_, fun W2 i y H' x o hi hy => ?_⟩
        · rw [List.length_reverse] at hi
          exact ⟨by omega, vs, vs[vs.length - 1 - i]'(by omega), SqT.of (x.tx.tp _ _ hs), by simp [show vs.length - 1 - i < vs.length by omega]⟩
        · show vs.length ≤ l.reverse.length
          rw [List.length_reverse]; omega
        · rw [List.length_reverse] at hi
          obtain ⟨e1, e2⟩ := hy
          obtain ⟨d, e3, e4⟩ := rev_get (rs.tx x.tx) hi (e2 vs (SqT.of (x.tx.tp _ _ hs)))
          exact ⟨W2, d, e3, Ext.refl W2, o, e1.symm, rfl, e4⟩
      | ref q =>
        rw [relRef r1]
        have go : ∀ (it : Its) (vs : List V), FzOk W1 it → W1.H (W1.μ q) = some (.lst vs) → RelDs (it.w W1) it.l vs → (it.w W1).Ok X.K N.toNames → (∀ W2, Sty (it.w W1) W2 → W2.H (W1.μ q) = some (.lst vs)) → k ⟨it.l.reverse, it.fz⟩ W1.η = true → RT.iRevA X.K (fun σ H Q => Q (.ref (W1.μ q)) H) σ W1.H R := by
          intro it vs fz h1 rs of st hk1
          have hl := rs.length
          refine ⟨W1.μ q, vs, rfl, .inl ⟨SqL.of h1, hk W1 ⟨it.l.reverse, it.fz⟩ _ x1 o1 fz ?_ hk1⟩⟩
          show WalkD X.K N (it.w W1) it.l.reverse (Itv X.K (W1.μ q) vs.length)
          refine ⟨fun W2 i x o hi => ?_, fun W2 x o => ?_, fun W2 i y H' x o hi hy => ?_⟩
          · rw [List.length_reverse] at hi
            exact ⟨by omega, vs, vs[vs.length - 1 - i]'(by omega), SqL.of (st W2 x), by simp [show vs.length - 1 - i < vs.length by omega]⟩
          · show vs.length ≤ it.l.reverse.length
            rw [List.length_reverse]; omega
          · rw [List.length_reverse] at hi
            obtain ⟨e1, e2⟩ := hy
            obtain ⟨d, e3, e4⟩ := rev_get (rs.tx x.tx) hi (e2 vs (SqL.of (st W2 x)))
            exact ⟨W2, d, e3, Ext.refl W2, o, e1.symm, rfl, e4⟩
        simp only [itsOf] at e
        cases eg : W1.η.get q with
        | none => rw [eg] at e; cases e
        | some c =>
          rw [eg] at e
          cases c with
          | lst l =>
            cases e
            have fz : FzOk W1 ⟨l, some (q, l)⟩ := fun r l' e' => by cases e'; exact eg
            obtain ⟨vs, g1, g2, g3⟩ := o1.cell q _ eg
            obtain ⟨xf, of⟩ := Its.froze o1 fz
            have gq : (Its.w ⟨l, some (q, l)⟩ W1).η.get q = some (.frz l) := by
              show (frzAt q l W1.η).get q = some (.frz l)
              unfold frzAt
              rw [Hd.get_set, if_pos rfl, eg]; rfl
            exact go ⟨l, some (q, l)⟩ vs fz g1 (g2.mono o1 xf) of (fun W2 x => x.fz q l _ gq g1) h1
          | frz l =>
            cases e
            obtain ⟨vs, g1, g2, g3⟩ := o1.cell q _ eg
            exact go ⟨l, none⟩ vs (fun r l e => nomatch e) g1 g2 o1 (fun W2 x => x.fz q l _ eg g1) h1
          | _ => cases e
      | _ => cases e

/-! ### for -/
def forD (g : CG) (b : CS) (k : KS) : List D → SD → Hd → Bool
  | [], σ, η => k.nx σ η
  | d :: ds, σ, η => g d σ η (fun σ1 η1 => b σ1 η1 { k with nx := forD g b k ds, ct := forD g b k ds, bk := k.nx }) k.xc
def sFor (i : CI) (g : CG) (b : CS) : CS := fun σ η k => i σ η (fun it η1 => forD g b (k.thaw it) it.l σ (it.fr η1)) k.xc
theorem js_for {tg iter : Expr} {body : List Stmt} {ci : CI} {g : CG} {b : CS} {pos : Pos} (hp : PassesOwn (model X.prog X.w) X.A X.env X.xe) (hc : X.calm = true) (hi : JI X N E tg iter ci) (hg : JG X N E tg g) (hb : JB X N E body b)
    (hs : ∀ x, foldedSetIterable iter X.env x = pure x := by intro _; rfl) : JS X N E (.For tg iter body [] pos) (sFor ci g b) := PS.imp (ps_for hp hc hi hg hb hs) fun Z σ H q => by
  obtain ⟨W, σd, k, rfl, o, s, h, hk⟩ := q
  refine ⟨W, σd, _, k.xc, rfl, o, s, h, fun W1 it J x1 o1 fz wk h1 => ?_, hk.xc⟩
  obtain ⟨xf, of⟩ := Its.froze o1 fz
  have hk1 : Sk X.K N E (it.w W1) (k.thaw it) Z := (hk.mono o o1 x1).thaw o1 fz
  have s1 : RelS (it.w W1) σd σ := ((s.mono o x1).mono o1 xf)
  refine ⟨fun i m σ2 H2 => m = it.l.length - i ∧ i ≤ it.l.length ∧ ∃ W2 σd2, W2.H = H2 ∧ Ext (it.w W1) W2 ∧ W2.Ok X.K N.toNames ∧ RelS W2 σd2 σ2 ∧ forD g b (k.thaw it) (it.l.drop i) σd2 W2.η = true,
    ⟨it.l.length, by omega, Nat.zero_le _, it.w W1, σd, rfl, Ext.refl _, of, s1, h1⟩, ?_⟩
  rintro i m σ2 H2 ⟨rfl, hi, W2, σd2, rfl, x2, o2, s2, h2⟩
  by_cases hlt : i < it.l.length
  · refine .inr ⟨wk.go W2 i (x2.sty of) o2 hlt, fun σ3 H3 => ∃ W3 σd3, W3.H = H3 ∧ Ext (it.w W1) W3 ∧ W3.Ok X.K N.toNames ∧ RelS W3 σd3 σ3 ∧ forD g b (k.thaw it) (it.l.drop (i + 1)) σd3 W3.η = true, fun σ3 H3 p3 => ⟨it.l.length - (i + 1), by omega, rfl, hlt, p3⟩, fun y H3 hy => ?_⟩
    obtain ⟨W3, d, e3, x3, o3, eH, eη, r3⟩ := wk.yld W2 i y H3 (x2.sty of) o2 hlt hy
    subst eH
    have ed : it.l.drop i = d :: it.l.drop (i + 1) := by
      rw [List.drop_eq_getElem_cons hlt]
      have : it.l[i] = d := by
        have := List.getElem?_eq_getElem hlt
        rw [this] at e3; exact Option.some.inj e3
      rw [this]
    rw [ed] at h2
    have x03 := x2.trans of o2 x3
    have hk3 := hk1.mono of o3 x03
    refine ⟨W3, d, σd2, _, (k.thaw it).xc, rfl, o3, r3, s2.mono o2 x3, (by rw [eη]; exact h2), fun W4 σd4 σ4 x4 o4 s4 h4 => ?_, hk3.xc⟩
    have hk4 := hk3.mono o3 o4 x4
    have x04 := x03.trans of o3 x4
    exact ⟨W4, σd4, _, rfl, o4, s4, h4, ⟨fun W5 σd5 σ5 x5 o5 s5 h5 => ⟨W5, σd5, rfl, x04.trans of o4 x5, o5, s5, h5⟩, hk4.rt, hk4.nx, fun W5 σd5 σ5 x5 o5 s5 h5 => ⟨W5, σd5, rfl, x04.trans of o4 x5, o5, s5, h5⟩, hk4.xc⟩⟩
  · have e : i = it.l.length := by omega
    subst e
    rw [List.drop_length] at h2
    exact .inl ⟨wk.stop W2 (x2.sty of) o2, hk1.nx W2 σd2 σ2 x2 o2 s2 h2⟩

/-! ### while -/
def whileD (t : CT) (b : CS) (k : KS) : Nat → SD → Hd → Bool
  | 0, _, _ => false
  | n + 1, σ, η => t σ η (fun x η1 => match x with
    | true => b σ η1 { k with nx := whileD t b k n, ct := whileD t b k n, bk := k.nx }
    | false => k.nx σ η1) k.xc
def fuelW : Nat := 1000000
def sWhile (t : CT) (b : CS) : CS := fun σ η k => whileD t b k fuelW σ η
theorem js_while {c : Expr} {body : List Stmt} {t : CT} {b : CS} {pos : Pos} (hp : PassesOwn (model X.prog X.w) X.A X.env X.xe) (hc : JT X N E c t) (hb : JB X N E body b) : JS X N E (.While c body [] pos) (sWhile t b) := PS.imp (ps_while hp hc hb) fun Z σ H q => by
  obtain ⟨W, σd, k, rfl, o, s, h, hk⟩ := q
  refine ⟨fun m σ2 H2 => ∃ W2 σd2, W2.H = H2 ∧ Ext W W2 ∧ W2.Ok X.K N.toNames ∧ RelS W2 σd2 σ2 ∧ whileD t b k m σd2 W2.η = true, ⟨fuelW, W, σd, rfl, Ext.refl W, o, s, h⟩, ?_⟩
  rintro m σ2 H2 ⟨W2, σd2, rfl, x2, o2, s2, h2⟩
  cases m with
  | zero => cases h2
  | succ m =>
    have hk2 := hk.mono o o2 x2
    refine tT.bind o2 s2 hk2.xc h2 fun W3 y x3 o3 s3 hx3 h3 => ?_
    have x03 := x2.trans o o2 x3
    have hk3 := hk2.mono o2 o3 x3
    cases y with
    | true =>
      rw [if_pos rfl]
      refine ⟨fun σ4 H4 => ∃ W4 σd4, W4.H = H4 ∧ Ext W W4 ∧ W4.Ok X.K N.toNames ∧ RelS W4 σd4 σ4 ∧ whileD t b k m σd4 W4.η = true, fun σ4 H4 p => ⟨m, Nat.lt_succ_self m, p⟩, ?_⟩
      exact ⟨W3, σd2, _, rfl, o3, s3, h3, ⟨fun W5 σd5 σ5 x5 o5 s5 h5 => ⟨W5, σd5, rfl, x03.trans o o3 x5, o5, s5, h5⟩, hk3.rt, hk3.nx, fun W5 σd5 σ5 x5 o5 s5 h5 => ⟨W5, σd5, rfl, x03.trans o o3 x5, o5, s5, h5⟩, hk3.xc⟩⟩
    | false =>
      rw [if_neg (by decide)]
      exact hk3.nx W3 σd2 σ2 (Ext.refl W3) o3 s3 h3
end
end DL

/-! comprehensions -/
namespace DL
open PySem PySem.Spec L2
section
variable {X : Cx} {N : Nm} {E : XK}
/-! ### targets that store to slots of vs alone -/
def tGw (K : PySem.W.Frag) (N : Nm) (vs : List Nat) (c : CG) : TG := fun v σ H Q => ∃ W d σd k, W.H = H ∧ W.Ok K N.toNames ∧ RelD W d v ∧ RelS W σd σ ∧ c d σd W.η k (fun _ _ => false) = true ∧
  (∀ W' σd' σ', Ext W W' → W'.Ok K N.toNames → RelS W' σd' σ' → wipe σ' vs = wipe σ vs → k σd' W'.η = true → Q σ' W'.H)
def JGw (X : Cx) (N : Nm) (vs : List Nat) (e : Expr) (c : CG) : Prop := PG X e (tGw X.K N vs c)
theorem set_comm' {α : Type} (l : List α) (i j : Nat) (a b : α) (h : i ≠ j) : (l.set i a).set j b = (l.set j b).set i a := List.set_comm a b h
theorem wipe_set : ∀ (vs : List Nat) (σ : St) (i : Nat) (x : Option V), i ∈ vs → wipe (σ.set i x) vs = wipe σ vs
  | [], σ, i, x, h => nomatch h
  | v :: vs, σ, i, x, h => by
    by_cases z : i ∈ vs
    · show (wipe (σ.set i x) vs).set v none = (wipe σ vs).set v none
      rw [wipe_set vs σ i x z]
    · have e : i = v := by
        rcases List.mem_cons.mp h with e | e
        · exact e
        · exact absurd e z
      subst e
      show (wipe (σ.set i x) vs).set i none = (wipe σ vs).set i none
      have gen : ∀ (vs : List Nat) (σ : St), i ∉ vs → (wipe (σ.set i x) vs).set i none = (wipe σ vs).set i none := by
        intro vs
        induction vs with
        | nil => intro σ _; show (σ.set i x).set i none = σ.set i none; exact List.set_set _
        | cons u us ih =>
          intro σ hn
          have hu : u ≠ i := fun z => hn (by rw [z]; exact List.mem_cons_self)
          have hus : i ∉ us := fun z => hn (List.mem_cons_of_mem _ z)
          show ((wipe (σ.set i x) us).set u none).set i none = ((wipe σ us).set u none).set i none
          rw [set_comm' _ _ _ _ _ hu, set_comm' _ _ _ _ _ hu, ih σ hus]
      exact gen vs σ z
theorem wipe_wipe : ∀ (us : List Nat) (σ : St), wipe (wipe σ us) us = wipe σ us := by
  intro us
  induction us with
  | nil => intro σ; rfl
  | cons u us ih =>
    intro σ
    show (wipe ((wipe σ us).set u none) us).set u none = (wipe σ us).set u none
    by_cases z : u ∈ us
    · rw [wipe_set us _ u none z, ih]
    · have gen : ∀ (us : List Nat) (σ : St), u ∉ us → wipe (σ.set u none) us = (wipe σ us).set u none := by
        intro us
        induction us with
        | nil => intro σ _; rfl
        | cons a us ih2 =>
          intro σ hn
          have ha : u ≠ a := fun z => hn (by rw [z]; exact List.mem_cons_self)
          show (wipe (σ.set u none) us).set a none = ((wipe σ us).set a none).set u none
          rw [ih2 σ (fun z => hn (List.mem_cons_of_mem _ z)), set_comm' _ _ _ _ _ ha]
      rw [gen us _ z, ih, List.set_set]
theorem jgw_name {vs : List Nat} {i : Nat} {x : Str} {pos : Pos} (h : PG X (.Name x pos) (gName i)) (hi : i ∈ vs := by decide) : JGw X N vs (.Name x pos) (gNm i) := PG.imp h fun v σ H Q q => by
  obtain ⟨W, d, σd, k, rfl, o, r, s, h, hk⟩ := q
  exact hk W _ _ (Ext.refl W) o (s.set i r) (wipe_set vs σ i _ hi) h
/-! ### the tests -/
def JTs (X : Cx) (N : Nm) (E : XK) (ifs : List Expr) (c : CT) : Prop := PTs X ifs (tT X.K N E c)
theorem PTs.imp {ifs : List Expr} {t t' : TT} (h : PTs X ifs t) (f : ∀ σ H Q, t' σ H Q → t σ H Q) : PTs X ifs t' := ⟨fun pins s σ H Q I q => h.run pins s σ H Q I (f σ H Q q)⟩
def ctYes : CT := fun _ η k _ => k true η
theorem jts_nil : JTs X N E [] ctYes := PTs.imp pts_nil fun σ H Q q => by
  obtain ⟨W, σd, k, kx, rfl, o, s, h, hk, hx⟩ := q
  exact hk W true (Ext.refl W) o h
theorem jts_one {c : Expr} {t : CT} (h : JT X N E c t) : JTs X N E [c] t := pts_one h
/-! ### the block -/
def wipeD (σ : SD) : List Nat → SD
  | [] => σ
  | v :: vs => (wipeD σ vs).set v none
theorem RelS.wipe {W : Wl} {σd : SD} {σ : St} (h : RelS W σd σ) : ∀ vs : List Nat, RelS W (wipeD σd vs) (L2.wipe σ vs)
  | [] => h
  | v :: vs => (RelS.wipe h vs).none_at v none
def kF : KX := fun _ _ => false
theorem Xk.never {K : PySem.W.Frag} {W : Wl} : Xk K N E W kF := fun _ _ _ _ _ _ _ h => nomatch h
def lcD (g : CG) (t : CT) (e : CE) (σ : SD) (k : List D → Hd → Bool) : List D → Nat → List D → Hd → Bool
  | [], _, acc, η => k acc.reverse η
  | _ :: _, 0, _, _ => false
  | d :: ds, n + 1, acc, η => g d σ η (fun σ1 η1 => t σ1 η1 (fun b η2 => match b with
    | true => e σ1 η2 (fun y η3 => lcD g t e σ k ds n (y :: acc) η3) kF
    | false => lcD g t e σ k ds n acc η2) kF) kF
def Hd.bump (η : Hd) : Hd := ⟨Nat.succ η.nx, η.cs⟩
def line1 : Nat := 16777215
def cLc (i : CI) (g : CG) (t : CT) (e : CE) (vs : List Nat) : CE := fun σ η kv kx => i σ η (fun it η1 => lcD g t e (wipeD σ vs) (fun acc η2 => kv (.ref η1.nx) ((it.un η2).add η1.nx (.lst acc))) it.l line1 [] (Hd.bump (it.fr η1))) kx
/-- the worlds of a comprehension's loop: the list's own cell g laid aside -/
structure Lc (K : PySem.W.Frag) (N : Nm) (Wb : Wl) (g : Nat) (Da : Addr) (W : Wl) (acc : List D) : Prop where
  ok : W.Ok K N.toNames
  off : W.η.get g = none
  x : Ext Wb ⟨W.μ, W.η.add g (.lst acc.reverse), W.H⟩
  og : Wl.Ok K N.toNames ⟨W.μ, W.η.add g (.lst acc.reverse), W.H⟩
  at_ : W.μ g = Da
theorem Lc.drop {K : PySem.W.Frag} {Wb W0 : Wl} {g : Nat} {Da : Addr} {W : Wl} {acc : List D} (h : Lc K N Wb g Da W acc) (ob : Wb.Ok K N.toNames) (o0 : W0.Ok K N.toNames) (x0 : Ext W0 Wb) : Ext W0 W := by
  have := (x0.trans o0 ob h.x).drop (η' := W.η) h.og rfl (fun r c e => by
    show (W.η.add g (.lst acc.reverse)).get r = some c
    rw [Hd.get_add]
    by_cases z : r = g
    · rw [z, h.off] at e; cases e
    · rw [if_neg z]; exact e)
  exact this.1
theorem Hd.set_add (η : Hd) (g : Nat) (c c' : Cell) : (η.add g c).set g c' = η.add g c' := by
  unfold Hd.add Hd.set put
  simp [Nat.beq_refl]
/-- behind a step, the list's cell laid again and one item more -/
theorem Lc.grow {K : PySem.W.Frag} {Wb : Wl} {g : Nat} {Da : Addr} {W W2 : Wl} {acc : List D} {y : D} {v : V} (h : Lc K N Wb g Da W acc) (ob : Wb.Ok K N.toNames) (x : Ext W W2) (o2 : W2.Ok K N.toNames) (r : RelD W2 y v) (hl : acc.length < sizeLine) :
    ∃ vs, W2.H Da = some (.lst vs) ∧ vs.length < sizeLine ∧ Lc K N Wb g Da ⟨W2.μ, W2.η, upd W2.H Da (.lst (vs ++ [v]))⟩ (y :: acc) ∧ Tx W2 ⟨W2.μ, W2.η, upd W2.H Da (.lst (vs ++ [v]))⟩ := by
  have gg : (W.η.add g (.lst acc.reverse)).get g = some (.lst acc.reverse) := by rw [Hd.get_add, if_pos rfl]
  have gnx : g < W.η.nx := h.og.lt g _ gg
  obtain ⟨x2, og2⟩ := h.og.readd (W2 := W2) (g := g) gg (η0 := W.η) rfl (fun q => by
    show W.η.get q = if q = g then none else (W.η.add g (.lst acc.reverse)).get q
    by_cases z : q = g
    · rw [if_pos z, z, h.off]
    · rw [if_neg z, Hd.get_add, if_neg z]) x o2
  have gg2 : (W2.η.add g (.lst acc.reverse)).get g = some (.lst acc.reverse) := by rw [Hd.get_add, if_pos rfl]
  have ma : W2.μ g = Da := by rw [x.mu g gnx, h.at_]
  obtain ⟨vs, h1, h2, h3⟩ := og2.cell g _ gg2
  have h1' : W2.H Da = some (.lst vs) := by rw [← ma]; exact h1
  have hlen : vs.length = acc.length := by rw [← h2.length, List.length_reverse]
  have t2 : Tx W2 ⟨W2.μ, W2.η.add g (.lst acc.reverse), W2.H⟩ := ⟨Nat.le_refl _, fun _ _ => rfl, fun _ _ e => e, fun _ _ _ e => e⟩
  obtain ⟨x3, og3⟩ := og2.put (r := g) (c0 := .lst acc.reverse) (c := .lst (acc.reverse ++ [y])) (ob := .lst (vs ++ [v])) gg2 rfl (fun xx => ⟨_, upd_same, (h2.mono og2 xx).append (.cons ((r.tx t2).mono og2 xx) .nil), by rw [List.length_append, List.length_reverse]; show acc.length + 1 ≤ sizeLine; omega⟩)
  have eW : Wl.put ⟨W2.μ, W2.η.add g (.lst acc.reverse), W2.H⟩ g (.lst (acc.reverse ++ [y])) (.lst (vs ++ [v])) = ⟨W2.μ, W2.η.add g (.lst (y :: acc).reverse), upd W2.H Da (.lst (vs ++ [v]))⟩ := by
    unfold Wl.put
    show Wl.mk W2.μ ((W2.η.add g (.lst acc.reverse)).set g (.lst (acc.reverse ++ [y]))) (upd W2.H (W2.μ g) (.lst (vs ++ [v]))) = _
    rw [Hd.set_add, ma, List.reverse_cons]
  rw [eW] at x3 og3
  have off2 : W2.η.get g = none := by
    cases e : W2.η.get g with
    | none => rfl
    | some c =>
      rcases x.cs g c e with ⟨c0, e0, _⟩ | ⟨h4, _⟩
      · rw [h.off] at e0; cases e0
      · omega
  have xb : Ext Wb ⟨W2.μ, W2.η.add g (.lst (y :: acc).reverse), upd W2.H Da (.lst (vs ++ [v]))⟩ := (h.x.trans ob h.og x2).trans ob og2 x3
  have sub : ∀ r c, W2.η.get r = some c → (W2.η.add g (.lst (y :: acc).reverse)).get r = some c := fun r c e => by
    rw [Hd.get_add]
    by_cases z : r = g
    · rw [z, off2] at e; cases e
    · rw [if_neg z]; exact e
  have dr := xb.drop (η' := W2.η) og3 rfl sub
  refine ⟨vs, h1', by omega, ⟨dr.2, off2, xb, og3, ma⟩, Nat.le_refl _, fun _ _ => rfl, fun a us e => ?_, fun a _ us e => ?_⟩
  · show upd W2.H Da _ a = some (.tup us)
    rw [upd_ne (fun z => by rw [z, h1'] at e; cases e)]; exact e
  · show upd W2.H Da _ a = _
    rw [upd_ne (fun z => by rw [z, h1'] at e; cases e)]; exact e
/-- behind a step without an item -/
theorem Lc.step {K : PySem.W.Frag} {Wb : Wl} {g : Nat} {Da : Addr} {W W2 : Wl} {acc : List D} (h : Lc K N Wb g Da W acc) (ob : Wb.Ok K N.toNames) (x : Ext W W2) (o2 : W2.Ok K N.toNames) : Lc K N Wb g Da W2 acc := by
  have gg : (W.η.add g (.lst acc.reverse)).get g = some (.lst acc.reverse) := by rw [Hd.get_add, if_pos rfl]
  have gnx : g < W.η.nx := h.og.lt g _ gg
  obtain ⟨x2, og2⟩ := h.og.readd (W2 := W2) (g := g) gg (η0 := W.η) rfl (fun q => by
    show W.η.get q = if q = g then none else (W.η.add g (.lst acc.reverse)).get q
    by_cases z : q = g
    · rw [if_pos z, z, h.off]
    · rw [if_neg z, Hd.get_add, if_neg z]) x o2
  refine ⟨o2, ?_, h.x.trans ob h.og x2, og2, by rw [x.mu g gnx, h.at_]⟩
  cases e : W2.η.get g with
  | none => rfl
  | some c =>
    rcases x.cs g c e with ⟨c0, e0, _⟩ | ⟨h4, _⟩
    · rw [h.off] at e0; cases e0
    · omega
/-- the start of a comprehension's list -/
theorem Lc.start {K : PySem.W.Frag} {Wf : Wl} {Da : Addr} (of : Wf.Ok K N.toNames) (hD : Wf.H Da = none) : (∃ ob : (Wf.new Da (.lst []) (.lst [])).Ok K N.toNames, Ext Wf (Wf.new Da (.lst []) (.lst []))) ∧
    Lc K N (Wf.new Da (.lst []) (.lst [])) Wf.η.nx Da ⟨(Wf.new Da (.lst []) (.lst [])).μ, Hd.bump Wf.η, upd Wf.H Da (.lst [])⟩ [] := by
  obtain ⟨x, o⟩ := of.new (c := .lst []) (ob := .lst []) hD ⟨[], upd_same, .nil, Nat.zero_le _⟩
  have off : (Hd.bump Wf.η).get Wf.η.nx = none := by
    cases e : Wf.η.get Wf.η.nx with
    | none => exact e
    | some c => exact absurd (of.lt _ c e) (Nat.lt_irrefl _)
  have e : Wl.mk (Wf.new Da (.lst []) (.lst [])).μ ((Hd.bump Wf.η).add Wf.η.nx (.lst [])) (upd Wf.H Da (.lst [])) = Wf.new Da (.lst []) (.lst []) := rfl
  have dr := x.drop (η' := Hd.bump Wf.η) o rfl (fun r c h => by
    show (Wf.η.new (.lst [])).get r = some c
    rw [Hd.get_new]
    by_cases z : r = Wf.η.nx
    · rw [z, off] at h; cases h
    · rw [if_neg z]; exact h)
  exact ⟨⟨o, x⟩, dr.2, off, (by rw [List.reverse_nil, e]; exact Ext.refl _), (by rw [List.reverse_nil, e]; exact o), Wl.new_mu Wf Da (.lst []) (.lst [])⟩
theorem Its.un_add (it : Its) (η : Hd) (g : Nat) (c : Cell) (h : ∀ r l, it.fz = some (r, l) → r ≠ g) : it.un (η.add g c) = (it.un η).add g c := by
  unfold Its.un
  cases e : it.fz with
  | none => rfl
  | some p =>
    obtain ⟨r, l⟩ := p
    have hne := h r l e
    have e2 : Nat.beq g r = false := by
      cases z : Nat.beq g r with
      | false => rfl
      | true => exact absurd (Nat.eq_of_beq_eq_true z).symm hne
    show unfAt r l (η.add g c) = (unfAt r l η).add g c
    unfold unfAt Hd.set Hd.add
    have : put r (Cell.lst l) ((g, c) :: η.cs) = (g, c) :: put r (Cell.lst l) η.cs := by
      rw [put]; simp only [e2]
    simp only [this]
theorem lc_of {E' : XK} {K : PySem.W.Frag} {ci : CI} {g : CG} {t : CT} {e : CE} {vs : List Nat} {σ : St} {H : Hp} {Q : VK} (h : tE K N E (cLc ci g t e vs) σ H Q) : tLc (tI K N E ci) (tGw K N vs g) (tT K N E' t) (tE K N E' e) vs σ H Q := by
  obtain ⟨W, σd, kv, kx, rfl, o, s, h, hv, hx⟩ := h
  refine ⟨W, σd, _, kx, rfl, o, s, h, fun W1 it J x1 o1 fz wk h1 => fun Da hD => ?_, hx⟩
  obtain ⟨xf, of⟩ := Its.froze o1 fz
  have enx : (it.w W1).η.nx = W1.η.nx := by
    unfold Its.w Its.fr
    cases it.fz with
    | none => rfl
    | some p => rfl
  obtain ⟨⟨ob, xb⟩, L0⟩ := Lc.start (N := N) (Da := Da) of hD
  generalize hWb : (it.w W1).new Da (.lst []) (.lst []) = Wb at ob xb L0
  rw [enx] at L0
  have s0 : RelS (it.w W1) (wipeD σd vs) (wipe σ vs) := ((s.mono o x1).mono o1 xf).wipe vs
  refine ⟨fun i m H2 => m = it.l.length - i ∧ i ≤ it.l.length ∧ ∃ W2 acc n, W2.H = H2 ∧ Lc K N Wb W1.η.nx Da W2 acc ∧ acc.length + n ≤ line1 ∧ lcD g t e (wipeD σd vs) (fun acc η2 => kv (.ref W1.η.nx) ((it.un η2).add W1.η.nx (.lst acc))) (it.l.drop i) n acc W2.η = true,
    ⟨it.l.length, by omega, Nat.zero_le _, _, [], line1, rfl, L0, by simp, h1⟩, ?_⟩
  rintro i m H2 ⟨rfl, hi, W2, acc, n, rfl, L2', hn, h2⟩
  have xf2 : Ext (it.w W1) W2 := L2'.drop ob of xb
  have s2 : RelS W2 (wipeD σd vs) (wipe σ vs) := s0.mono of xf2
  by_cases hlt : i < it.l.length
  · refine .inr ⟨wk.go W2 i (xf2.sty of) L2'.ok hlt, fun H3 => ∃ W3 acc n, W3.H = H3 ∧ Lc K N Wb W1.η.nx Da W3 acc ∧ acc.length + n ≤ line1 ∧ lcD g t e (wipeD σd vs) (fun acc η2 => kv (.ref W1.η.nx) ((it.un η2).add W1.η.nx (.lst acc))) (it.l.drop (i + 1)) n acc W3.η = true, fun H3 p3 => ⟨it.l.length - (i + 1), by omega, rfl, hlt, p3⟩, fun y H3 hy => ?_⟩
    obtain ⟨W3, d, e3, x3, o3, eH, eη, r3⟩ := wk.yld W2 i y H3 (xf2.sty of) L2'.ok hlt hy
    subst eH
    have ed : it.l.drop i = d :: it.l.drop (i + 1) := by
      rw [List.drop_eq_getElem_cons hlt]
      have : it.l[i] = d := by
        have := List.getElem?_eq_getElem hlt
        rw [this] at e3; exact Option.some.inj e3
      rw [this]
    rw [ed] at h2
    cases n with
    | zero => cases h2
    | succ n =>
      refine ⟨W3, d, wipeD σd vs, _, rfl, o3, r3, s2.mono L2'.ok x3, (by rw [eη]; exact h2), fun W4 σd4 σ4 x4 o4 s4 w4 h4 => ⟨w4.trans (wipe_wipe vs σ), ?_⟩⟩
      refine tT.bind (kx := kF) o4 s4 Xk.never h4 fun W5 b x5 o5 s5 hx5 h5 => ?_
      have x25 : Ext W2 W5 := x3.trans L2'.ok o3 (x4.trans o3 o4 x5)
      cases b with
      | true =>
        rw [if_pos rfl]
        refine tE.bind (kx := kF) o5 s5 Xk.never h5 fun W6 dy vy x6 o6 r6 s6 hx6 h6 => ?_
        have hll : line1 = 16777215 := rfl
        have hls : sizeLine = 16777216 := rfl
        obtain ⟨us, g1, g2, L6, t6⟩ := L2'.grow ob (x25.trans L2'.ok o5 x6) o6 r6 (by omega)
        exact ⟨us, g1, g2, _, dy :: acc, n, rfl, L6, by rw [List.length_cons]; omega, h6⟩
      | false =>
        rw [if_neg (by decide)]
        exact ⟨W5, acc, n, rfl, L2'.step ob x25 o5, by omega, h5⟩
  · have ei : i = it.l.length := by omega
    subst ei
    rw [List.drop_length] at h2
    refine .inl ⟨wk.stop W2 (xf2.sty of) L2'.ok, ?_⟩
    have h2' : kv (.ref W1.η.nx) ((it.un W2.η).add W1.η.nx (.lst acc.reverse)) = true := h2
    have xg : Ext (it.w W1) ⟨W2.μ, W2.η.add W1.η.nx (.lst acc.reverse), W2.H⟩ := xb.trans of ob L2'.x
    obtain ⟨xt, ot⟩ := Its.thaw o1 fz xg L2'.og
    have eu : it.un (W2.η.add W1.η.nx (.lst acc.reverse)) = (it.un W2.η).add W1.η.nx (.lst acc.reverse) := Its.un_add it _ _ _ fun r l er => Nat.ne_of_lt (o1.lt r _ (fz r l er))
    refine hv ⟨W2.μ, it.un (W2.η.add W1.η.nx (.lst acc.reverse)), W2.H⟩ (.ref W1.η.nx) (.ref Da) (x1.trans o o1 xt) ot ?_ (by show kv _ (it.un (W2.η.add W1.η.nx (.lst acc.reverse))) = true; rw [eu]; exact h2')
    rw [RelD]
    refine ⟨?_, by rw [L2'.at_]⟩
    show W1.η.nx < (it.un (W2.η.add W1.η.nx (.lst acc.reverse))).nx
    rw [Its.un_nx]
    exact L2'.og.lt W1.η.nx (.lst acc.reverse) (by show (W2.η.add W1.η.nx (.lst acc.reverse)).get _ = _; rw [Hd.get_add, if_pos rfl])
theorem je_lc {E' : XK} {elt tg iter : Expr} {ifs : List Expr} {scope : Scope} {own : List (Str × Nat)} {pos : Pos} {ci : CI} {g : CG} {t : CT} {e : CE} (hc : X.calm = true) (hN : X.N.Nodup) (hi : JI X N E tg iter ci) (ok : BlkOk X.N X.env.scope scope own)
    (hg : ∀ (s : Shared) (H : Hp) (C : Addr) (cl : List (Str × Addr)) (fp : List Addr), JGw (X.blk s H scope (compEnvC scope cl C X.env) fp) N (own.map (·.2)) tg g) (ht : ∀ (s : Shared) (H : Hp) (C : Addr) (cl : List (Str × Addr)) (fp : List Addr), JTs (X.blk s H scope (compEnvC scope cl C X.env) fp) N E' ifs t)
    (he : ∀ (s : Shared) (H : Hp) (C : Addr) (cl : List (Str × Addr)) (fp : List Addr), JE (X.blk s H scope (compEnvC scope cl C X.env) fp) N E' elt e) (hs : ∀ x, foldedSetIterable iter X.env x = pure x := by intro _; rfl) :
    JE X N E (.ListComp elt [⟨tg, iter, ifs, 0⟩] scope pos) (cLc ci g t e (own.map (·.2))) := PE.imp (pe_lc (g := tGw X.K N (own.map (fun p : Str × Nat => p.2)) g) (tt := tT X.K N E' t) (te := tE X.K N E' e) hc hN hi ok hg ht he hs) fun σ H Q q => lc_of q
/-- y = [..] on one line, y a local -/
theorem js_setLc {E' : XK} {i : Nat} {y : Str} {py : Pos} {elt tg iter : Expr} {ifs : List Expr} {scope : Scope} {own : List (Str × Nat)} {pos spos : Pos} {ci : CI} {g : CG} {t : CT} {e : CE} (hc : X.calm = true) (hN : X.N.Nodup) (hy : X.N[i]? = some y) (hyl : X.env.scope.names.lookup y = some .local)
    (hsw : swapsWith (.ListComp elt [⟨tg, iter, ifs, 0⟩] scope pos) (some (.Name y py)) spos.line X.env = pure true) (hi : JI X N E tg iter ci) (ok : BlkOk X.N X.env.scope scope own)
    (hg : ∀ (s : Shared) (H : Hp) (C : Addr) (cl : List (Str × Addr)) (fp : List Addr), JGw (X.blk s H scope (compEnvC scope cl C X.env) fp) N (own.map (·.2)) tg g) (ht : ∀ (s : Shared) (H : Hp) (C : Addr) (cl : List (Str × Addr)) (fp : List Addr), JTs (X.blk s H scope (compEnvC scope cl C X.env) fp) N E' ifs t)
    (he : ∀ (s : Shared) (H : Hp) (C : Addr) (cl : List (Str × Addr)) (fp : List Addr), JE (X.blk s H scope (compEnvC scope cl C X.env) fp) N E' elt e) (hs : ∀ x, foldedSetIterable iter X.env x = pure x := by intro _; rfl) :
    JS X N E (.Assign [.Name y py] (.ListComp elt [⟨tg, iter, ifs, 0⟩] scope pos) spos) (sAsg (cLc ci g t e (own.map (·.2))) (gNm i)) :=
  PS.imp (ps_setLc (g := tGw X.K N (own.map (fun p : Str × Nat => p.2)) g) (tt := tT X.K N E' t) (te := tE X.K N E' e) hc hN hy hyl hsw hi ok hg ht he hs) fun Z σ H q => tAsg_name (fun _ _ _ h => lc_of h) q
/-! ### two fors -/
def lcIn (g : CG) (t : CT) (e : CE) (σ : SD) (k : List D → Nat → Hd → Bool) : List D → Nat → List D → Hd → Bool
  | [], n, acc, η => k acc n η
  | _ :: _, 0, _, _ => false
  | d :: ds, n + 1, acc, η => g d σ η (fun σ1 η1 => t σ1 η1 (fun b η2 => match b with
    | true => e σ1 η2 (fun y η3 => lcIn g t e σ k ds n (y :: acc) η3) kF
    | false => lcIn g t e σ k ds n acc η2) kF) kF
def lcD2 (g : CG) (t : CT) (i1 : CI) (g1 : CG) (t1 : CT) (e : CE) (vs1 : List Nat) (σ : SD) (k : List D → Hd → Bool) : List D → Nat → List D → Hd → Bool
  | [], _, acc, η => k acc.reverse η
  | d :: ds, n, acc, η => g d σ η (fun σ1 η1 => t σ1 η1 (fun b η2 => match b with
    | true => i1 σ1 η2 (fun it η3 => lcIn g1 t1 e (wipeD σ1 vs1) (fun acc n η4 => lcD2 g t i1 g1 t1 e vs1 σ k ds n acc (it.un η4)) it.l n acc (it.fr η3)) kF
    | false => lcD2 g t i1 g1 t1 e vs1 σ k ds n acc η2) kF) kF
def cLc2 (i : CI) (g : CG) (t : CT) (i1 : CI) (g1 : CG) (t1 : CT) (e : CE) (vs vs1 : List Nat) : CE := fun σ η kv kx => i σ η (fun it η1 => lcD2 g t i1 g1 t1 e vs1 (wipeD σ vs) (fun acc η2 => kv (.ref η1.nx) ((it.un η2).add η1.nx (.lst acc))) it.l line1 [] (Hd.bump (it.fr η1))) kx
theorem Its.fr_add (it : Its) (η : Hd) (g : Nat) (c : Cell) (h : ∀ r l, it.fz = some (r, l) → r ≠ g) : it.fr (η.add g c) = (it.fr η).add g c := by
  unfold Its.fr
  cases e : it.fz with
  | none => rfl
  | some p =>
    obtain ⟨r, l⟩ := p
    have hne := h r l e
    have e2 : Nat.beq g r = false := by
      cases z : Nat.beq g r with
      | false => rfl
      | true => exact absurd (Nat.eq_of_beq_eq_true z).symm hne
    show frzAt r l (η.add g c) = (frzAt r l η).add g c
    unfold frzAt Hd.set Hd.add
    have : put r (Cell.frz l) ((g, c) :: η.cs) = (g, c) :: put r (Cell.frz l) η.cs := by
      rw [put]; simp only [e2]
    simp only [this]
theorem Its.fr_none (it : Its) {η : Hd} {g : Nat} (h : η.get g = none) : (it.fr η).get g = none := by
  unfold Its.fr
  cases e : it.fz with
  | none => exact h
  | some p =>
    obtain ⟨r, l⟩ := p
    show (η.set r (.frz l)).get g = none
    rw [Hd.get_set]
    by_cases z : g = r
    · rw [if_pos z, ← z, h]; rfl
    · rw [if_neg z]; exact h
theorem Its.un_none (it : Its) {η : Hd} {g : Nat} (h : η.get g = none) : (it.un η).get g = none := by
  unfold Its.un
  cases e : it.fz with
  | none => exact h
  | some p =>
    obtain ⟨r, l⟩ := p
    show (η.set r (.lst l)).get g = none
    rw [Hd.get_set]
    by_cases z : g = r
    · rw [if_pos z, ← z, h]; rfl
    · rw [if_neg z]; exact h
/-- a walk within: its cell frozen over the list that grows -/
theorem Lc.freeze {K : PySem.W.Frag} {Wb : Wl} {g : Nat} {Da : Addr} {W : Wl} {acc : List D} {it : Its} (h : Lc K N Wb g Da W acc) (fz : FzOk W it) :
    ∃ Wf, Wf.Ok K N.toNames ∧ Lc K N Wf g Da (it.w W) acc ∧ (∀ W2 acc2, Lc K N Wf g Da W2 acc2 → Sty (it.w W) W2) ∧ (Wb.Ok K N.toNames → ∀ W2 acc2, Lc K N Wf g Da W2 acc2 → Lc K N Wb g Da ⟨W2.μ, it.un W2.η, W2.H⟩ acc2) := by
  have ne : ∀ r l, it.fz = some (r, l) → r ≠ g := fun r l e z => by
    have := fz r l e
    rw [z, h.off] at this; cases this
  have fzg : FzOk ⟨W.μ, W.η.add g (.lst acc.reverse), W.H⟩ it := fun r l e => by
    show (W.η.add g (.lst acc.reverse)).get r = some (.lst l)
    rw [Hd.get_add, if_neg (ne r l e)]; exact fz r l e
  obtain ⟨xf, of⟩ := Its.froze h.og fzg
  have ew : it.w ⟨W.μ, W.η.add g (.lst acc.reverse), W.H⟩ = ⟨W.μ, (it.fr W.η).add g (.lst acc.reverse), W.H⟩ := by
    show Wl.mk W.μ (it.fr (W.η.add g (.lst acc.reverse))) W.H = _
    rw [Its.fr_add it _ _ _ ne]
  rw [ew] at xf of
  refine ⟨⟨W.μ, (it.fr W.η).add g (.lst acc.reverse), W.H⟩, of, ⟨(Its.froze h.ok fz).2, Its.fr_none it h.off, Ext.refl _, of, h.at_⟩, fun W2 acc2 L => ⟨?_, fun r l us hr hv => ?_, fun r tt l ob2 us hr hv => ?_⟩, fun ob W2 acc2 L => ?_⟩
  · have t := L.x.tx of
    exact ⟨t.nx, t.mu, t.tp, t.tf⟩
  · refine L.x.fr _ _ hv (fun _ z => nomatch z) fun q c e m z => ?_
    have hr' : ((it.fr W.η).add g (.lst acc.reverse)).get r = some (.frz l) := by
      rw [Hd.get_add]
      by_cases y : r = g
      · have hr2 : (it.fr W.η).get r = some (.frz l) := hr
        rw [y, Its.fr_none it h.off] at hr2; cases hr2
      · rw [if_neg y]; exact hr
    by_cases y : q = r
    · rw [y] at e
      have e' : ((it.fr W.η).add g (.lst acc.reverse)).get r = some c := e
      rw [hr'] at e'; cases e'; cases m
    · exact of.apart hr' e y z
  · refine L.x.fr _ _ hv (fun _ z => nomatch z) fun q c e m z => ?_
    have hr' : ((it.fr W.η).add g (.lst acc.reverse)).get r = some (.ldc tt l) := by
      rw [Hd.get_add]
      by_cases y : r = g
      · have hr2 : (it.fr W.η).get r = some (.ldc tt l) := hr
        rw [y, Its.fr_none it h.off] at hr2; cases hr2
      · rw [if_neg y]; exact hr
    by_cases y : q = r
    · rw [y] at e
      have e' : ((it.fr W.η).add g (.lst acc.reverse)).get r = some c := e
      rw [hr'] at e'; cases e'; cases m
    · exact of.apart hr' e y z
  · have x2 : Ext (it.w ⟨W.μ, W.η.add g (.lst acc.reverse), W.H⟩) ⟨W2.μ, W2.η.add g (.lst acc2.reverse), W2.H⟩ := by rw [ew]; exact L.x
    obtain ⟨xt, ot⟩ := Its.thaw h.og fzg x2 L.og
    have eu : it.un (W2.η.add g (.lst acc2.reverse)) = (it.un W2.η).add g (.lst acc2.reverse) := Its.un_add it _ _ _ ne
    have xt' : Ext ⟨W.μ, W.η.add g (.lst acc.reverse), W.H⟩ ⟨W2.μ, (it.un W2.η).add g (.lst acc2.reverse), W2.H⟩ := by rw [← eu]; exact xt
    have ot' : Wl.Ok K N.toNames ⟨W2.μ, (it.un W2.η).add g (.lst acc2.reverse), W2.H⟩ := by rw [← eu]; exact ot
    have off' := Its.un_none it L.off
    have dr := xt'.drop (η' := it.un W2.η) ot' rfl (fun r c e => by
      show ((it.un W2.η).add g (.lst acc2.reverse)).get r = some c
      rw [Hd.get_add]
      by_cases z : r = g
      · rw [z, off'] at e; cases e
      · rw [if_neg z]; exact e)
    exact ⟨dr.2, off', h.x.trans ob h.og xt', ot', L.at_⟩
theorem lc2_of {E' : XK} {K : PySem.W.Frag} {ci ci1 : CI} {g g1 : CG} {t t1 : CT} {e : CE} {vs vs1 : List Nat} {σ : St} {H : Hp} {Q : VK} (h : tE K N E (cLc2 ci g t ci1 g1 t1 e vs vs1) σ H Q) :
    tLc2 (tI K N E ci) (tGw K N vs g) (tT K N E' t) (tI K N E' ci1) (tGw K N vs1 g1) (tT K N E' t1) (tE K N E' e) vs vs1 σ H Q := by
  obtain ⟨W, σd, kv, kx, rfl, o, s, h, hv, hx⟩ := h
  refine ⟨W, σd, _, kx, rfl, o, s, h, fun W1 it J x1 o1 fz wk h1 => fun Da hD => ?_, hx⟩
  obtain ⟨xf, of⟩ := Its.froze o1 fz
  have enx : (it.w W1).η.nx = W1.η.nx := by
    unfold Its.w Its.fr
    cases it.fz with
    | none => rfl
    | some p => rfl
  obtain ⟨⟨ob, xb⟩, L0⟩ := Lc.start (N := N) (Da := Da) of hD
  generalize hWb : (it.w W1).new Da (.lst []) (.lst []) = Wb at ob xb L0
  rw [enx] at L0
  have s0 : RelS (it.w W1) (wipeD σd vs) (wipe σ vs) := ((s.mono o x1).mono o1 xf).wipe vs
  have hll : line1 = 16777215 := rfl
  have hls : sizeLine = 16777216 := rfl
  refine ⟨fun i m H2 => m = it.l.length - i ∧ i ≤ it.l.length ∧ ∃ W2 acc n, W2.H = H2 ∧ Lc K N Wb W1.η.nx Da W2 acc ∧ acc.length + n ≤ line1 ∧ lcD2 g t ci1 g1 t1 e vs1 (wipeD σd vs) (fun acc η2 => kv (.ref W1.η.nx) ((it.un η2).add W1.η.nx (.lst acc))) (it.l.drop i) n acc W2.η = true,
    ⟨it.l.length, by omega, Nat.zero_le _, _, [], line1, rfl, L0, by simp, h1⟩, ?_⟩
  rintro i m H2 ⟨rfl, hi, W2, acc, n, rfl, L2', hn, h2⟩
  have xf2 : Ext (it.w W1) W2 := L2'.drop ob of xb
  have s2 : RelS W2 (wipeD σd vs) (wipe σ vs) := s0.mono of xf2
  by_cases hlt : i < it.l.length
  · refine .inr ⟨wk.go W2 i (xf2.sty of) L2'.ok hlt, fun H3 => ∃ W3 acc n, W3.H = H3 ∧ Lc K N Wb W1.η.nx Da W3 acc ∧ acc.length + n ≤ line1 ∧ lcD2 g t ci1 g1 t1 e vs1 (wipeD σd vs) (fun acc η2 => kv (.ref W1.η.nx) ((it.un η2).add W1.η.nx (.lst acc))) (it.l.drop (i + 1)) n acc W3.η = true, fun H3 p3 => ⟨it.l.length - (i + 1), by omega, rfl, hlt, p3⟩, fun y H3 hy => ?_⟩
    obtain ⟨W3, d, e3, x3, o3, eH, eη, r3⟩ := wk.yld W2 i y H3 (xf2.sty of) L2'.ok hlt hy
    subst eH
    have ed : it.l.drop i = d :: it.l.drop (i + 1) := by
      rw [List.drop_eq_getElem_cons hlt]
      have : it.l[i] = d := by
        have := List.getElem?_eq_getElem hlt
        rw [this] at e3; exact Option.some.inj e3
      rw [this]
    rw [ed] at h2
    refine ⟨W3, d, wipeD σd vs, _, rfl, o3, r3, s2.mono L2'.ok x3, (by rw [eη]; exact h2), fun W4 σd4 σ4 x4 o4 s4 w4 h4 => ⟨w4.trans (wipe_wipe vs σ), ?_⟩⟩
    refine tT.bind (kx := kF) o4 s4 Xk.never h4 fun W5 b x5 o5 s5 hx5 h5 => ?_
    have x25 : Ext W2 W5 := x3.trans L2'.ok o3 (x4.trans o3 o4 x5)
    have L5 := L2'.step ob x25 o5
    cases b with
    | true =>
      rw [if_pos rfl]
      refine ⟨W5, σd4, _, kF, rfl, o5, s5, h5, fun W6 it1 J1 x6 o6 fz6 wk6 h6 => ?_, Xk.never⟩
      have L6 := L5.step ob x6 o6
      obtain ⟨Wf, oWf, L7, sty, back⟩ := L6.freeze fz6
      have s6 : RelS W6 σd4 σ4 := s5.mono o5 x6
      refine ⟨fun j k H7 => k = it1.l.length - j ∧ j ≤ it1.l.length ∧ ∃ W7 acc n, W7.H = H7 ∧ Lc K N Wf W1.η.nx Da W7 acc ∧ acc.length + n ≤ line1 ∧ lcIn g1 t1 e (wipeD σd4 vs1) (fun acc n η4 => lcD2 g t ci1 g1 t1 e vs1 (wipeD σd vs) (fun acc η2 => kv (.ref W1.η.nx) ((it.un η2).add W1.η.nx (.lst acc))) (it.l.drop (i + 1)) n acc (it1.un η4)) (it1.l.drop j) n acc W7.η = true,
        ⟨it1.l.length, by omega, Nat.zero_le _, it1.w W6, acc, n, rfl, L7, hn, h6⟩, ?_⟩
      rintro j k H7 ⟨rfl, hj, W7, acc7, n7, rfl, L7', hn7, h7⟩
      have st7 := sty W7 acc7 L7'
      have s7 : RelS W7 (wipeD σd4 vs1) (wipe σ4 vs1) := (RelS.tx (W := W6) ⟨by
        have := st7.tx.nx
        have e9 : (it1.w W6).η.nx = W6.η.nx := by
          unfold Its.w Its.fr
          cases it1.fz with
          | none => rfl
          | some p => rfl
        rw [e9] at this; exact this, fun r hr => st7.tx.mu r (by
          have e9 : (it1.w W6).η.nx = W6.η.nx := by
            unfold Its.w Its.fr
            cases it1.fz with
            | none => rfl
            | some p => rfl
          rw [e9]; exact hr), st7.tx.tp, st7.tx.tf⟩ s6).wipe vs1
      by_cases hlt7 : j < it1.l.length
      · refine .inr ⟨wk6.go W7 j st7 L7'.ok hlt7, fun H8 => ∃ W8 acc n, W8.H = H8 ∧ Lc K N Wf W1.η.nx Da W8 acc ∧ acc.length + n ≤ line1 ∧ lcIn g1 t1 e (wipeD σd4 vs1) (fun acc n η4 => lcD2 g t ci1 g1 t1 e vs1 (wipeD σd vs) (fun acc η2 => kv (.ref W1.η.nx) ((it.un η2).add W1.η.nx (.lst acc))) (it.l.drop (i + 1)) n acc (it1.un η4)) (it1.l.drop (j + 1)) n acc W8.η = true, fun H8 p8 => ⟨it1.l.length - (j + 1), by omega, rfl, hlt7, p8⟩, fun y8 H8 hy8 => ?_⟩
        obtain ⟨W8, d8, e8, x8, o8, eH8, eη8, r8⟩ := wk6.yld W7 j y8 H8 st7 L7'.ok hlt7 hy8
        subst eH8
        have ed8 : it1.l.drop j = d8 :: it1.l.drop (j + 1) := by
          rw [List.drop_eq_getElem_cons hlt7]
          have : it1.l[j] = d8 := by
            have := List.getElem?_eq_getElem hlt7
            rw [this] at e8; exact Option.some.inj e8
          rw [this]
        rw [ed8] at h7
        cases n7 with
        | zero => cases h7
        | succ n7 =>
          refine ⟨W8, d8, wipeD σd4 vs1, _, rfl, o8, r8, s7.mono L7'.ok x8, (by rw [eη8]; exact h7), fun W9 σd9 σ9 x9 o9 s9 w9 h9 => ⟨w9.trans (wipe_wipe vs1 σ4), ?_⟩⟩
          refine tT.bind (kx := kF) o9 s9 Xk.never h9 fun Wa ba xa oa sa hxa ha => ?_
          have x7a : Ext W7 Wa := x8.trans L7'.ok o8 (x9.trans o8 o9 xa)
          cases ba with
          | true =>
            rw [if_pos rfl]
            refine tE.bind (kx := kF) oa sa Xk.never ha fun Wc dy vy xc oc rc sc hxc hc => ?_
            obtain ⟨us, g1, g2, Lc', tc⟩ := L7'.grow oWf (x7a.trans L7'.ok oa xc) oc rc (by omega)
            exact ⟨us, g1, g2, _, dy :: acc7, n7, rfl, Lc', by rw [List.length_cons]; omega, hc⟩
          | false =>
            rw [if_neg (by decide)]
            exact ⟨Wa, acc7, n7, rfl, L7'.step oWf x7a oa, by omega, ha⟩
      · have ej : j = it1.l.length := by omega
        subst ej
        rw [List.drop_length] at h7
        exact .inl ⟨wk6.stop W7 st7 L7'.ok, ⟨W7.μ, it1.un W7.η, W7.H⟩, acc7, n7, rfl, back ob W7 acc7 L7', hn7, h7⟩
    | false =>
      rw [if_neg (by decide)]
      exact ⟨W5, acc, n, rfl, L5, by omega, h5⟩
  · have ei : i = it.l.length := by omega
    subst ei
    rw [List.drop_length] at h2
    refine .inl ⟨wk.stop W2 (xf2.sty of) L2'.ok, ?_⟩
    have h2' : kv (.ref W1.η.nx) ((it.un W2.η).add W1.η.nx (.lst acc.reverse)) = true := h2
    have xg : Ext (it.w W1) ⟨W2.μ, W2.η.add W1.η.nx (.lst acc.reverse), W2.H⟩ := xb.trans of ob L2'.x
    obtain ⟨xt, ot⟩ := Its.thaw o1 fz xg L2'.og
    have eu : it.un (W2.η.add W1.η.nx (.lst acc.reverse)) = (it.un W2.η).add W1.η.nx (.lst acc.reverse) := Its.un_add it _ _ _ fun r l er => Nat.ne_of_lt (o1.lt r _ (fz r l er))
    refine hv ⟨W2.μ, it.un (W2.η.add W1.η.nx (.lst acc.reverse)), W2.H⟩ (.ref W1.η.nx) (.ref Da) (x1.trans o o1 xt) ot ?_ (by show kv _ (it.un (W2.η.add W1.η.nx (.lst acc.reverse))) = true; rw [eu]; exact h2')
    rw [RelD]
    refine ⟨?_, by rw [L2'.at_]⟩
    show W1.η.nx < (it.un (W2.η.add W1.η.nx (.lst acc.reverse))).nx
    rw [Its.un_nx]
    exact L2'.og.lt W1.η.nx (.lst acc.reverse) (by show (W2.η.add W1.η.nx (.lst acc.reverse)).get _ = _; rw [Hd.get_add, if_pos rfl])
theorem je_lc2 {E' : XK} {elt tg iter tg1 iter1 : Expr} {ifs ifs1 : List Expr} {scope : Scope} {own : List (Str × Nat)} {vs1 : List Nat} {pos : Pos} {ci ci1 : CI} {g g1 : CG} {t t1 : CT} {e : CE} (hc : X.calm = true) (hN : X.N.Nodup) (hi : JI X N E tg iter ci) (ok : BlkOk X.N X.env.scope scope own) (hv : ∀ i ∈ vs1, i ∈ own.map (·.2))
    (hg : ∀ (s : Shared) (H : Hp) (C : Addr) (cl : List (Str × Addr)) (fp : List Addr), JGw (X.blk s H scope (compEnvC scope cl C X.env) fp) N (own.map (·.2)) tg g) (ht : ∀ (s : Shared) (H : Hp) (C : Addr) (cl : List (Str × Addr)) (fp : List Addr), JTs (X.blk s H scope (compEnvC scope cl C X.env) fp) N E' ifs t)
    (hi1 : ∀ (s : Shared) (H : Hp) (C : Addr) (cl : List (Str × Addr)) (fp : List Addr), JI (X.blk s H scope (compEnvC scope cl C X.env) fp) N E' tg1 iter1 ci1)
    (hg1 : ∀ (s : Shared) (H : Hp) (C : Addr) (cl : List (Str × Addr)) (fp : List Addr), JGw (X.blk s H scope (compEnvC scope cl C X.env) fp) N vs1 tg1 g1) (ht1 : ∀ (s : Shared) (H : Hp) (C : Addr) (cl : List (Str × Addr)) (fp : List Addr), JTs (X.blk s H scope (compEnvC scope cl C X.env) fp) N E' ifs1 t1)
    (he : ∀ (s : Shared) (H : Hp) (C : Addr) (cl : List (Str × Addr)) (fp : List Addr), JE (X.blk s H scope (compEnvC scope cl C X.env) fp) N E' elt e) (hs : ∀ x, foldedSetIterable iter X.env x = pure x := by intro _; rfl) (hs1 : ∀ env x, foldedSetIterable iter1 env x = pure x := by intro _ _; rfl) :
    JE X N E (.ListComp elt [⟨tg, iter, ifs, 0⟩, ⟨tg1, iter1, ifs1, 0⟩] scope pos) (cLc2 ci g t ci1 g1 t1 e (own.map (·.2)) vs1) :=
  PE.imp (pe_lc2 (g := tGw X.K N (own.map (fun p : Str × Nat => p.2)) g) (tt := tT X.K N E' t) (wi1 := tI X.K N E' ci1) (g1 := tGw X.K N vs1 g1) (tt1 := tT X.K N E' t1) (te := tE X.K N E' e) hc hN hi ok hv hg ht hi1 hg1 ht1 he hs hs1) fun σ H Q q => lc2_of q
theorem js_setLc2 {E' : XK} {i : Nat} {y : Str} {py : Pos} {elt tg iter tg1 iter1 : Expr} {ifs ifs1 : List Expr} {scope : Scope} {own : List (Str × Nat)} {vs1 : List Nat} {pos spos : Pos} {ci ci1 : CI} {g g1 : CG} {t t1 : CT} {e : CE} (hc : X.calm = true) (hN : X.N.Nodup) (hy : X.N[i]? = some y) (hyl : X.env.scope.names.lookup y = some .local)
    (hsw : swapsWith (.ListComp elt [⟨tg, iter, ifs, 0⟩, ⟨tg1, iter1, ifs1, 0⟩] scope pos) (some (.Name y py)) spos.line X.env = pure true) (hi : JI X N E tg iter ci) (ok : BlkOk X.N X.env.scope scope own) (hv : ∀ i ∈ vs1, i ∈ own.map (·.2))
    (hg : ∀ (s : Shared) (H : Hp) (C : Addr) (cl : List (Str × Addr)) (fp : List Addr), JGw (X.blk s H scope (compEnvC scope cl C X.env) fp) N (own.map (·.2)) tg g) (ht : ∀ (s : Shared) (H : Hp) (C : Addr) (cl : List (Str × Addr)) (fp : List Addr), JTs (X.blk s H scope (compEnvC scope cl C X.env) fp) N E' ifs t)
    (hi1 : ∀ (s : Shared) (H : Hp) (C : Addr) (cl : List (Str × Addr)) (fp : List Addr), JI (X.blk s H scope (compEnvC scope cl C X.env) fp) N E' tg1 iter1 ci1)
    (hg1 : ∀ (s : Shared) (H : Hp) (C : Addr) (cl : List (Str × Addr)) (fp : List Addr), JGw (X.blk s H scope (compEnvC scope cl C X.env) fp) N vs1 tg1 g1) (ht1 : ∀ (s : Shared) (H : Hp) (C : Addr) (cl : List (Str × Addr)) (fp : List Addr), JTs (X.blk s H scope (compEnvC scope cl C X.env) fp) N E' ifs1 t1)
    (he : ∀ (s : Shared) (H : Hp) (C : Addr) (cl : List (Str × Addr)) (fp : List Addr), JE (X.blk s H scope (compEnvC scope cl C X.env) fp) N E' elt e) (hs : ∀ x, foldedSetIterable iter X.env x = pure x := by intro _; rfl) (hs1 : ∀ env x, foldedSetIterable iter1 env x = pure x := by intro _ _; rfl) :
    JS X N E (.Assign [.Name y py] (.ListComp elt [⟨tg, iter, ifs, 0⟩, ⟨tg1, iter1, ifs1, 0⟩] scope pos) spos) (sAsg (cLc2 ci g t ci1 g1 t1 e (own.map (·.2)) vs1) (gNm i)) :=
  PS.imp (ps_setLc2 (g := tGw X.K N (own.map (fun p : Str × Nat => p.2)) g) (tt := tT X.K N E' t) (wi1 := tI X.K N E' ci1) (g1 := tGw X.K N vs1 g1) (tt1 := tT X.K N E' t1) (te := tE X.K N E' e) hc hN hy hyl hsw hi ok hv hg ht hi1 hg1 ht1 he hs hs1) fun Z σ H q => tAsg_name (fun _ _ _ h => lc2_of h) q
end
end DL

/-! defs, calls, exceptions -/
namespace DL
open PySem PySem.Spec L2
abbrev CF := List D → Hd → KV → KX → Bool
def spD (K : PySem.W.Frag) (N : Nm) (F : CF) : Sp := fun vs H Q E => ∃ W ds kv kx, W.H = H ∧ W.Ok K N.toNames ∧ RelDs W ds vs ∧ F ds W.η kv kx = true ∧ Vk K N W kv Q ∧ Xk K N E W kx
abbrev JF (P : Program) (w : World) (K : PySem.W.Frag) (mg : Str → Option Value) (base : Heap) (k : Nat) (f : Addr) (fd : FuncData) (ps : List Str) (N : Nm) (F : CF) : Prop := FnOk P w K mg base (L2.CX P w) k f fd ps (spD K N F)
section
variable {X : Cx} {N : Nm} {E : XK}
def cCall (F : CF) (a : CA) : CE := fun σ η kv kx => a σ η (fun ds η1 => F ds η1 kv kx) kx
theorem je_call {k : Nat} {f : Addr} {fd : FuncData} {ps : List Str} {F : CF} {x : Str} {e : Expr} {es : List Expr} {c : CA} {p pos : Pos} (G : JF X.prog X.w X.K X.mg X.base k f fd ps N F) (hr : Room k X.A) (hg : Gl X x) (hm : X.mg x = some (.ref f)) (hk : PySem.W.keepIn X.K (.ref f) = true) (hb : Binds X.K fd ps [])
    (hx : Passes (L2.CX X.prog X.w) X E) (ha : JA X N E (e :: es) c) (hdb : (x == ("__debug__" : Str)) = false := by decide) (hs : starEach (e :: es) X.env = (false, eval e X.env) :: starEach es X.env := by rfl)
    (hpl : (backTo pos (starEach es X.env)).any (·.1) = false := by rfl) : JE X N E (.Call (.Name x p) (e :: es) [] pos) (cCall F c) :=
  PE.imp (pe_call G hr hg hm hk hb .nil hx ha hdb hs hpl) fun σ H Q q => by
    obtain ⟨W, σd, kv, kx, rfl, o, s, h, hv, hxx⟩ := q
    refine tAr.bind o s hxx h fun W1 ds vs x1 o1 r1 s1 hx1 h1 => ?_
    rw [List.append_nil]
    exact ⟨W1, ds, kv, kx, rfl, o1, r1, h1, hv.mono o o1 x1, hx1⟩
/-! ### the body of a def -/
def startD (n m : Nat) (ds : List D) : SD := ds.map some ++ List.replicate (m - n) none
/-- a def of n parameters and m slots -/
def cDef (n m : Nat) (b : CS) : CF := fun ds η kv kx => match Nat.beq ds.length n with
  | true => b (startD n m ds) η ⟨fun _ η1 => kv .non η1, kv, fun _ _ => false, fun _ _ => false, kx⟩
  | false => false
theorem rel_start {W : Wl} {N : List Str} {ds : List D} {vs : List V} (r : RelDs W ds vs) : RelS W (startD ds.length N.length ds) (L2.start N vs) := by
  unfold startD L2.start
  have hl := r.length
  refine ⟨by simp [hl], fun i d e => ?_⟩
  by_cases hi : i < ds.length
  · rw [List.getElem?_append_left (by simpa using hi), List.getElem?_map] at e
    cases q : ds[i]? with
    | none => rw [q] at e; cases e
    | some d' =>
      rw [q] at e
      simp only [Option.map_some, Option.some.injEq] at e
      subst e
      obtain ⟨v, e1, e2⟩ := r.get' q
      refine ⟨v, ?_, e2⟩
      rw [List.getElem?_append_left (by rw [List.length_map, ← hl]; exact hi), List.getElem?_map, e1]; rfl
  · rw [List.getElem?_append_right (by simpa using Nat.le_of_not_lt hi)] at e
    have := List.mem_of_getElem? e
    rw [List.mem_replicate] at this
    cases this.2
section
variable {P : Program} {w : World} {K : PySem.W.Frag} {mg : Str → Option Value} {base : Heap}
theorem jf_def {x qual : Str} {st : Stmt} {f : Addr} {fd : FuncData} {Ns ps : List Str} {k : Nat} {b : CS} (F : Fun K x qual st f fd) (S : FnScope Ns ps (defScope st))
    (hbody : ∀ (cdv : Value) (A : Around) (outer : List Env) (s : Shared) (H : Hp) (E : XK), Room k (A.deeper (PyProof.Rows.envOfC qual (defScope st) s.heap.objs.size f cdv)) → JB (cxOf (L2.CX P w) P w K mg base Ns qual (defScope st) f cdv A outer s H E) N E (defBody st) b) :
    JF P w K mg base (k + 1) f fd ps N (cDef ps.length Ns.length b) := by
  refine F.okX S (fun vs H Q E h => ?_) (fun cdv A outer s H vs Q E hr h => ?_)
  · obtain ⟨W, ds, kv, kx, _, _, r, h, _⟩ := h
    unfold cDef at h
    cases e : Nat.beq ds.length ps.length with
    | false => rw [e] at h; cases h
    | true => rw [← r.length]; exact Nat.eq_of_beq_eq_true e
  · obtain ⟨W, ds, kv, kx, rfl, o, r, h, hv, hx⟩ := h
    unfold cDef at h
    cases e : Nat.beq ds.length ps.length with
    | false => rw [e] at h; cases h
    | true =>
      rw [e] at h
      have el : ds.length = ps.length := Nat.eq_of_beq_eq_true e
      refine ⟨_, hbody cdv A outer s W.H E hr, W, startD ps.length Ns.length ds, _, rfl, o, by rw [← el]; exact rel_start r, h, ⟨fun W' σd σ x o' s' e' => hv W' .non .non x o' mkNon e', hv, (fun _ _ _ _ _ _ e' => nomatch e'), (fun _ _ _ _ _ _ e' => nomatch e'), hx⟩⟩
end
/-! ### raise -/
def sRaise (c : Nat) : CS := fun _ η k => k.xc ⟨c, none⟩ η
theorem js_raise {e : Expr} {C : Addr} {c : Nat} {pos : Pos} (hc : X.calm = true) (tk : Takes X (fun cls d _ H => E cls d H)) (he : PMk X e (fun _ H Q => Q (.ref C) none H)) (hC : N.cls c = C) : JS X N E (.Raise (some e) none pos) (sRaise c) :=
  PS.imp (ps_raise hc tk he) fun Z σ H q => by
    obtain ⟨W, σd, k, rfl, o, s, h, hk⟩ := q
    exact hk.xc W ⟨c, none⟩ (.ref C) none (Ext.refl W) o ⟨by rw [hC], rfl⟩ h
/-! ### list(range(..)), tuple(range(..)) -/
def tRgD (K : PySem.W.Frag) (N : Nm) (E : XK) (c : SD → Hd → (Int → Int → Hd → Bool) → KX → Bool) : St → Hp → (Int → Int → Hp → Prop) → Prop := fun σ H Q => ∃ W σd k kx, W.H = H ∧ W.Ok K N.toNames ∧ RelS W σd σ ∧ c σd W.η k kx = true ∧ (∀ W' a b, Ext W W' → W'.Ok K N.toNames → k a b W'.η = true → Q a b W'.H) ∧ Xk K N E W kx
abbrev CR := SD → Hd → (Int → Int → Hd → Bool) → KX → Bool
def JR (X : Cx) (N : Nm) (E : XK) (e : Expr) (c : CR) : Prop := PRg X e (tRgD X.K N E c)
theorem PRg.imp {e : Expr} {t t' : St → Hp → (Int → Int → Hp → Prop) → Prop} (h : PRg X e t) (f : ∀ σ H Q, t' σ H Q → t σ H Q) : PRg X e t' := fun pins s σ H Q I q => h pins s σ H Q I (f σ H Q q)
def crg1 (a : CE) : CR := fun σ η k kx => a σ η (fun x η1 => match x with
  | .int j => k 0 j η1
  | _ => false) kx
def crg2 (a b : CE) : CR := fun σ η k kx => a σ η (fun x η1 => b σ η1 (fun y η2 => match x, y with
  | .int i, .int j => k i j η2
  | _, _ => false) kx) kx
theorem jr_1 {a : Expr} {c : CE} {p pos : Pos} (hg : Gl X "range") (hm : X.mg "range" = none) (ha : JE X N E a c) (hs : starEach [a] X.env = (false, eval a X.env) :: starEach [] X.env := by rfl) : JR X N E (.Call (.Name "range" p) [a] [] pos) (crg1 c) :=
  PRg.imp (prg_1 hg hm ha hs) fun σ H Q q => by
    obtain ⟨W, σd, k, kx, rfl, o, s, h, hk, hx⟩ := q
    refine tE.bind o s hx h fun W1 d v x1 o1 r1 s1 hx1 h1 => ?_
    cases d with
    | int j => rw [relInt r1]; exact ⟨j, rfl, hk W1 0 j x1 o1 h1⟩
    | _ => cases h1
theorem rgV_rel {W : Wl} (a b : Int) : RelDs W (rangeD (b - a).toNat a) (rgV a b) := by
  unfold rgV
  have gen : ∀ (n : Nat) (a : Int) (k : Nat), RelDs W (rangeD n (a + k)) ((List.range' k n).map fun i => V.int (a + (i : Nat))) := by
    intro n
    induction n with
    | zero => intro a k; exact .nil
    | succ n ih =>
      intro a k
      rw [List.range'_succ, List.map_cons, rangeD]
      refine .cons mkInt ?_
      have := ih a (k + 1)
      rw [show a + (k : Int) + 1 = a + ((k + 1 : Nat) : Int) by omega]
      exact this
  have := gen (b - a).toNat a 0
  rw [List.range_eq_range']
  simpa using this
def cLstR (r : CR) : CE := fun σ η kv kx => r σ η (fun a b η1 => match rOk a, rOk b, Nat.ble (b - a).toNat line with
  | true, true, true => kv (.ref η1.nx) (η1.new (.lst (rangeD (b - a).toNat a)))
  | _, _, _ => false) kx
def cTupR (r : CR) : CE := fun σ η kv kx => r σ η (fun a b η1 => match rOk a, rOk b, Nat.ble (b - a).toNat line with
  | true, true, true => kv (.tup (rangeD (b - a).toNat a)) η1
  | _, _, _ => false) kx
theorem tRg.bind {K : PySem.W.Frag} {W : Wl} {kx : KX} {c : CR} {kt : Int → Int → Hd → Bool} {σ : St} {σd : SD} {Q' : Int → Int → Hp → Prop} (o : W.Ok K N.toNames) (s : RelS W σd σ) (hx : Xk K N E W kx) (h : c σd W.η kt kx = true)
    (hq : ∀ W' a b, Ext W W' → W'.Ok K N.toNames → kt a b W'.η = true → Q' a b W'.H) : tRgD K N E c σ W.H Q' := ⟨W, σd, kt, kx, rfl, o, s, h, hq, hx⟩
theorem je_listR {e : Expr} {c : CR} {p pos : Pos} (hc : X.calm = true) (hg : Gl X "list") (hm : X.mg "list" = none) (he : JR X N E e c) (hs : starEach [e] X.env = (false, eval e X.env) :: starEach [] X.env := by rfl) : JE X N E (.Call (.Name "list" p) [e] [] pos) (cLstR c) :=
  PE.imp (pe_listRg hc hg hm he hs) fun σ H Q q => by
    obtain ⟨W, σd, kv, kx, rfl, o, s, h, hv, hx⟩ := q
    refine tRg.bind o s hx h fun W1 a b x1 o1 h1 => ?_
    cases e1 : rOk a with
    | false => rw [e1] at h1; cases h1
    | true =>
      cases e2 : rOk b with
      | false => rw [e1, e2] at h1; cases h1
      | true =>
        cases e3 : Nat.ble (b - a).toNat line with
        | false => rw [e1, e2, e3] at h1; cases h1
        | true =>
          rw [e1, e2, e3] at h1
          have hl : (b - a).toNat ≤ 16777216 := Nat.le_of_ble_eq_true e3
          exact ⟨⟨(rOk_ok e1).1, (rOk_ok e1).2, (rOk_ok e2).1, (rOk_ok e2).2, by omega⟩, fun q hq => Vk.lst o1 (hv.mono o o1 x1) h1 hq (rgV_rel a b) (by rw [rangeD_len]; exact hl)⟩
theorem je_tupR {e : Expr} {c : CR} {p pos : Pos} (hc : X.calm = true) (hg : Gl X "tuple") (hm : X.mg "tuple" = none) (he : JR X N E e c) (hs : starEach [e] X.env = (false, eval e X.env) :: starEach [] X.env := by rfl) : JE X N E (.Call (.Name "tuple" p) [e] [] pos) (cTupR c) :=
  PE.imp (pe_tupRg hc hg hm he hs) fun σ H Q q => by
    obtain ⟨W, σd, kv, kx, rfl, o, s, h, hv, hx⟩ := q
    refine tRg.bind o s hx h fun W1 a b x1 o1 h1 => ?_
    cases e1 : rOk a with
    | false => rw [e1] at h1; cases h1
    | true =>
      cases e2 : rOk b with
      | false => rw [e1, e2] at h1; cases h1
      | true =>
        cases e3 : Nat.ble (b - a).toNat line with
        | false => rw [e1, e2, e3] at h1; cases h1
        | true =>
          rw [e1, e2, e3] at h1
          have hl : (b - a).toNat ≤ 16777216 := Nat.le_of_ble_eq_true e3
          exact ⟨⟨(rOk_ok e1).1, (rOk_ok e1).2, (rOk_ok e2).1, (rOk_ok e2).2, by omega⟩, fun q hq => Vk.tup (W0 := W) o1 (hv.mono o o1 x1) h1 hq (rgV_rel a b)⟩
end
end DL

/-! sorted -/
namespace DL
open PySem PySem.Spec L2
/-! ### the order of rows of ints -/
def lexI : List Int → List Int → Bool
  | _, [] => false
  | [], _ :: _ => true
  | x :: xs, y :: ys => match ieq x y with
    | true => lexI xs ys
    | false => decide (x < y)
theorem ieq_false {i j : Int} (h : i ≠ j) : ieq i j = false := by
  cases e : ieq i j with
  | false => rfl
  | true => exact absurd (ieq_iff.mp e) h
theorem ieq_self (i : Int) : ieq i i = true := ieq_iff.mpr rfl
theorem lexI_asym : ∀ x y : List Int, lexI x y = true → lexI y x = false
  | _, [], h => by cases ‹List Int› <;> simp [lexI] at h
  | [], _ :: _, _ => rfl
  | x :: xs, y :: ys, h => by
    simp only [lexI] at h ⊢
    by_cases e : x = y
    · subst e; simp only [ieq_self] at h ⊢; exact lexI_asym xs ys h
    · rw [ieq_false e] at h
      rw [ieq_false (Ne.symm e)]
      have := of_decide_eq_true h
      exact decide_eq_false (by omega)
theorem lexI_tot : ∀ x y : List Int, lexI x y = false → lexI y x = false → x = y
  | [], [], _, _ => rfl
  | [], _ :: _, h, _ => by simp [lexI] at h
  | _ :: _, [], _, h => by simp [lexI] at h
  | x :: xs, y :: ys, h, h' => by
    simp only [lexI] at h h'
    by_cases e : x = y
    · subst e; simp only [ieq_self] at h h'; rw [lexI_tot xs ys h h']
    · rw [ieq_false e] at h
      rw [ieq_false (Ne.symm e)] at h'
      have h1 := of_decide_eq_false h
      have h2 := of_decide_eq_false h'
      omega
theorem lexI_tr : ∀ x y z : List Int, lexI x y = true → lexI y z = true → lexI x z = true
  | x, [], z, h, _ => by cases x <;> simp [lexI] at h
  | x, y :: ys, [], _, h => by simp [lexI] at h
  | [], y :: ys, z :: zs, _, _ => rfl
  | x :: xs, y :: ys, z :: zs, h, h' => by
    simp only [lexI] at h h' ⊢
    by_cases e : x = y
    · subst e
      simp only [ieq_self] at h
      by_cases e2 : x = z
      · subst e2; simp only [ieq_self] at h' ⊢; exact lexI_tr xs ys zs h h'
      · rw [ieq_false e2] at h' ⊢; exact h'
    · rw [ieq_false e] at h
      have h1 := of_decide_eq_true h
      by_cases e2 : y = z
      · subst e2; rw [ieq_false e]; exact h
      · rw [ieq_false e2] at h'
        have h2 := of_decide_eq_true h'
        rw [ieq_false (show x ≠ z by omega)]
        exact decide_eq_true (by omega)
theorem lexI_swo {α : Type} (k : α → List Int) : SrtO.Swo fun v u => lexI (k v) (k u) := by
  refine ⟨fun x y h => lexI_asym _ _ h, fun x y z h1 h2 => ?_⟩
  cases e : lexI (k z) (k x) with
  | false => rfl
  | true =>
    cases e2 : lexI (k x) (k y) with
    | true => exact (lexI_tr _ _ _ e e2).symm.trans h2
    | false =>
      have := lexI_tot _ _ e2 h1
      rw [← this] at h2; exact e.symm.trans h2
/-- sorting by insertion: rows that stand in order cost one look each -/
def insI (x : List Int) : List (List Int) → List (List Int)
  | [] => [x]
  | y :: ys => match lexI y x with
    | true => y :: insI x ys
    | false => x :: y :: ys
def sortI : List (List Int) → List (List Int)
  | [] => []
  | x :: xs => insI x (sortI xs)
theorem insI_perm (x : List Int) : ∀ l, (insI x l).Perm (x :: l)
  | [] => List.Perm.refl _
  | y :: ys => by
    unfold insI
    cases lexI y x with
    | true => exact ((insI_perm x ys).cons y).trans (List.Perm.swap x y ys)
    | false => exact List.Perm.refl _
theorem sortI_perm : ∀ l, (sortI l).Perm l
  | [] => List.Perm.refl _
  | x :: xs => (insI_perm x _).trans ((sortI_perm xs).cons x)
abbrev SrI (l : List (List Int)) : Prop := l.Pairwise fun x y => lexI y x = false
theorem insI_sorted (x : List Int) : ∀ l, SrI l → SrI (insI x l)
  | [], _ => List.pairwise_singleton _ _
  | y :: ys, h => by
    obtain ⟨h1, h2⟩ := List.pairwise_cons.mp h
    unfold insI
    cases e : lexI y x with
    | true =>
      refine List.pairwise_cons.mpr ⟨fun z hz => ?_, insI_sorted x ys h2⟩
      rcases List.mem_cons.mp ((insI_perm x ys).mem_iff.mp hz) with q | q
      · subst q; exact lexI_asym _ _ e
      · exact h1 z q
    | false =>
      refine List.pairwise_cons.mpr ⟨fun z hz => ?_, h⟩
      rcases List.mem_cons.mp hz with q | q
      · subst q; exact e
      · cases e3 : lexI z x with
        | false => rfl
        | true =>
          have h3 := h1 z q
          cases e4 : lexI x y with
          | true => exact (lexI_tr _ _ _ e3 e4).symm.trans h3
          | false =>
            have := lexI_tot _ _ e4 e
            rw [← this] at h3; exact e3.symm.trans h3
theorem sortI_sorted : ∀ l, SrI (sortI l)
  | [] => .nil
  | x :: xs => insI_sorted x _ (sortI_sorted xs)
theorem srI_uniq : ∀ {l m : List (List Int)}, l.Perm m → SrI l → SrI m → l = m
  | [], m, p, _, _ => (List.nil_perm.mp p).symm
  | x :: xs, [], p, _, _ => nomatch (List.perm_nil.mp p)
  | x :: xs, y :: ys, p, h1, h2 => by
    obtain ⟨a1, a2⟩ := List.pairwise_cons.mp h1
    obtain ⟨b1, b2⟩ := List.pairwise_cons.mp h2
    have e : x = y := by
      have hx : x ∈ y :: ys := p.mem_iff.mp List.mem_cons_self
      have hy : y ∈ x :: xs := p.mem_iff.mpr List.mem_cons_self
      rcases List.mem_cons.mp hx with q | q
      · exact q
      · rcases List.mem_cons.mp hy with q2 | q2
        · exact q2.symm
        · exact lexI_tot _ _ (b1 x q) (a1 y q2) |>.symm ▸ rfl
    subst e
    rw [srI_uniq (List.perm_cons x |>.mp p) a2 b2]
/-! ### the machine -/
section
variable {prog : Program} {w : World} {A : Around} {E : Value → Shared → Prop} {s : Shared}
theorem collect_any {l : Addr} {vs : List Value} {T : String} {o : Obj} {n : Nat} {Q : List Value → Shared → Prop} (hT : T = "list" ∨ T = "tuple") (ho : s.heap.get? l = some o) (hc : o.cls = .type T) (hd : o.data = .seq vs.toArray n)
    (h : Q vs { s with heap := (s.heap.push (PyProof.Rows.seqObj "list" #[] 0)).update s.heap.objs.size (Obj.mapSeq (· ++ vs.toArray)) }) (hsz : vs.length ≤ sizeLine) :
    wpAny (model prog w) A (collect (.ref l)) Q E s := by
  unfold collect
  refine wpAny_bind (wpAny_runValue (codeAny_builtin PyProof.Rows.entry_proto_collect' ?_))
  show wpAny _ _ (do again (.builtin "list.__iadd__" ⟨[← newList [], .ref l], []⟩)) _ _ s
  refine wpAny_bind (wpAny_newList (wpAny_pure ⟨Code.quiet_builtin _ (by decide +kernel), codeAny_builtin PyProof.Rows.entry_list_iadd' ?_⟩))
  show wpAny _ _ (Builtin.List.listExtendWith (.ref s.heap.objs.size) (.ref l) (.ref s.heap.objs.size)) _ _ { s with heap := s.heap.push (PyProof.Rows.seqObj "list" #[] 0) }
  unfold Builtin.List.listExtendWith
  have ho' : (s.heap.push (PyProof.Rows.seqObj "list" #[] 0)).get? l = some o := Heap.get?_push_of_some _ ho
  refine wpAny_bind (wpAny_typeOf (T := T) ⟨o, ho', hc⟩ ?_)
  rw [if_pos (by rcases hT with rfl | rfl <;> simp)]
  refine wpAny_bind (PyProof.Rows.listItems_at ho' hd ?_)
  refine wpAny_bind (PyProof.Rows.listItems_at (xs := #[]) (n := 0) (Heap.get?_push_size _ rfl) rfl ?_)
  rw [if_neg (by simp)]
  refine wpAny_bind (PyProof.Rows.listUpdate_at (xs := #[]) (n := 0) (Heap.get?_push_size _ rfl) rfl ?_ (Nat.zero_le _) (by show (#[] ++ vs.toArray).size ≤ sizeLine + 1; simp only [Array.size_append, List.size_toArray, List.length_nil]; omega))
  refine wpAny_pure ?_
  show wpAny (model prog w) A (do
      let o ← load s.heap.objs.size
      match o.data with
      | .seq xs _ => pure xs.toList
      | _ => unsupported "internal:collect") Q E { s with heap := (s.heap.push (PyProof.Rows.seqObj "list" #[] 0)).update s.heap.objs.size (Obj.mapSeq (· ++ vs.toArray)) }
  refine wpAny_bind (wpAny_load (PyProof.Rows.get?_update_seq (Heap.get?_push_size _ rfl) _) ?_)
  show wpAny _ _ (pure ((#[] : Array Value) ++ vs.toArray).toList) Q E _
  rw [show ((#[] : Array Value) ++ vs.toArray).toList = vs by simp]
  exact wpAny_pure h
/-- sorted of a list or a tuple -/
theorem sorted_seq {l : Addr} {vs : List Value} {T : String} {o : Obj} {n : Nat} {ltv : Value → Value → Bool} {Q : Value → Shared → Prop} (O : SrtO.Swo ltv) (hT : T = "list" ∨ T = "tuple") (ho : s.heap.get? l = some o) (hc : o.cls = .type T) (hd : o.data = .seq vs.toArray n) (hz : vs.length ≤ sizeLine)
    (hS : 2 ≤ vs.length → ∀ (h₁ : Heap) (a : Addr), h₁.get? a = some (PyProof.Rows.seqObj "list" vs.toArray 0) → (∀ b o, s.heap.get? b = some o → b ≠ a ∧ h₁.get? b = some o) → SrtO.SortableO prog w A.in1.in1 { s with heap := h₁ } a vs ltv)
    (h : ∀ out : List Value, SrtO.Srtd ltv out → SrtO.Stb ltv out vs → Q (.ref (s.heap.objs.size + 1)) { s with heap := PyProof.Rows.sortedAll s.heap vs out.toArray }) :
    wpAny (model prog w) A (call (.builtin "sorted") [.ref l]) Q E s := by
  refine Calls.call_function_entry PyProof.Rows.kind_sorted PyProof.Rows.plain_sorted PyProof.Rows.entry_sorted (PyProof.Rows.args_sorted1 _) ?_
  unfold Builtin.«sorted»
  refine wpAny_bind (m := checkCount "sorted" 1 1 _) (wpAny_pure ?_)
  refine wpAny_bind (collect_any hT ho hc hd ?_ hz)
  refine wpAny_bind (wpAny_newList ?_ hz)
  have hsz : ((s.heap.push (PyProof.Rows.seqObj "list" #[] 0)).update s.heap.objs.size (Obj.mapSeq (· ++ vs.toArray))).objs.size = s.heap.objs.size + 1 := by
    rw [Heap.size_update, PyProof.Rows.size_push']
  have hoL : (((s.heap.push (PyProof.Rows.seqObj "list" #[] 0)).update s.heap.objs.size (Obj.mapSeq (· ++ vs.toArray))).push (PyProof.Rows.seqObj "list" vs.toArray 0)).get? (s.heap.objs.size + 1) = some (PyProof.Rows.seqObj "list" vs.toArray 0) := by
    rw [← hsz]; exact Heap.get?_push_size _ rfl
  have keep : ∀ b o, s.heap.get? b = some o → b ≠ s.heap.objs.size + 1 ∧ (((s.heap.push (PyProof.Rows.seqObj "list" #[] 0)).update s.heap.objs.size (Obj.mapSeq (· ++ vs.toArray))).push (PyProof.Rows.seqObj "list" vs.toArray 0)).get? b = some o := fun b o q => by
    have hlt : b < s.heap.objs.size := Heap.lt_size q
    refine ⟨Nat.ne_of_lt (Nat.lt_succ_of_lt hlt), Heap.get?_push_of_some _ ?_⟩
    rw [Heap.get?_update_ne _ _ _ _ (Nat.ne_of_lt hlt)]
    exact Heap.get?_push_of_some _ q
  show wpAny _ _ _ _ _ { s with heap := ((s.heap.push (PyProof.Rows.seqObj "list" #[] 0)).update s.heap.objs.size (Obj.mapSeq (· ++ vs.toArray))).push (PyProof.Rows.seqObj "list" vs.toArray 0) }
  rw [hsz]
  refine wpAny_bind (wpAny_holding (wpAny_call_entry PyProof.Rows.slot_list_sort ⟨_, hoL, rfl⟩ PyProof.Rows.entry_list_sort (SrtO.list_sort_ord O hoL hz (fun h2 => hS h2 _ _ hoL keep) fun out hs hb => ⟨_, rfl, ?_⟩) (PyProof.Rows.args_list_sort _)))
  exact wpAny_pure ⟨_, rfl, h out hs hb⟩
/-! rows of ints -/
def IsRow (h : Heap) (v : Value) (ns : List Int) : Prop := ∃ (a : Addr) (o : Obj) (xs : List Value) (n : Nat), v = .ref a ∧ h.get? a = some o ∧ o.cls = .type "tuple" ∧ o.data = .seq xs.toArray n ∧ Vals (ns.map V.int) xs
theorem IsRow.keeps {h h' : Heap} {v : Value} {ns : List Int} (r : IsRow h v ns) (k : ∀ b o, h.get? b = some o → o.cls = .type "tuple" → h'.get? b = some o) : IsRow h' v ns := by
  obtain ⟨a, o, xs, n, e, h1, h2, h3, h4⟩ := r
  exact ⟨a, o, xs, n, e, k a o h1 h2, h2, h3, h4⟩
theorem row_lex {Q : Bool → Shared → Prop} (fin : Bool) : ∀ (ns ms : List Int) (xs ys : List Value) (i : Nat), Vals (ns.map V.int) xs → Vals (ms.map V.int) ys → fin = decide (ns.length < ms.length) → Q (lexI ns ms) s →
    PySem.W.KatLex prog w A true fin Q (xs.zip ys) i s
  | [], ms, xs, ys, i, h1, h2, hf, hq => by
    cases h1
    refine PySem.W.kat_nil ?_
    cases ms with
    | nil => rw [hf]; exact hq
    | cons m ms => rw [hf]; simpa [lexI] using hq
  | n :: ns, [], xs, ys, i, h1, h2, hf, hq => by
    cases h2
    rw [List.zip_nil_right]
    refine PySem.W.kat_nil ?_
    rw [hf]; simpa [lexI] using hq
  | n :: ns, m :: ms, xs, ys, i, h1, h2, hf, hq => by
    cases h1 with
    | cons r1 t1 =>
      cases h2 with
      | cons r2 t2 =>
        obtain ⟨t, rfl⟩ := r1
        obtain ⟨u, rfl⟩ := r2
        rw [List.zip_cons_cons]
        refine PySem.W.kat_cons (SeqAt.EqAt.int_int n t m u prog w _ _ ?_)
        refine PySem.W.kat_go (fun e1 => ?_) (fun e1 => ?_)
        · have ex : n = m := by simpa using e1
          subst ex
          refine PySem.W.kat_yes (row_lex fin ns ms _ _ (i + 1) t1 t2 (by rw [hf]; simp) ?_)
          simpa [lexI, ieq_self] using hq
        · have ex : ¬ n = m := by simpa using e1
          refine PySem.W.kat_no (TS.oneLt_ints _ ?_)
          simpa [lexI, ieq_false ex] using hq
theorem rows_cmp {vs : List Value} {k : Value → List Int} (hp : ∀ v ∈ vs, IsRow s.heap v (k v)) : SrtO.Cmp prog w A s (PyProof.Rows.tuples' true) (fun p => p.1 ∈ vs) (SrtO.lt2 fun v u => lexI (k v) (k u)) := by
  intro p q hm hm'
  obtain ⟨a, o, xs, n, e, h1, h2, h3, h4⟩ := hp _ hm
  obtain ⟨a', o', xs', n', e', h1', h2', h3', h4'⟩ := hp _ hm'
  show wpAny (model prog w) A (PyProof.Rows.keyLt' (PyProof.Rows.tuples' true) p.1 q.1) (fun r s' => s' = s ∧ r = lexI (k p.1) (k q.1)) (fun _ _ => False) s
  generalize k p.1 = kp at h4 ⊢
  generalize k q.1 = kq at h4' ⊢
  rw [e, e']
  refine PySem.W.kat_lt h1 h3 h1' h3' ?_
  have hl1 := h4.length
  have hl2 := h4'.length
  rw [List.length_map] at hl1 hl2
  exact row_lex _ kp kq xs xs' 0 h4 h4' (by simp [hl1, hl2]) ⟨rfl, rfl⟩
end
end DL

/-! sorted: the rule -/
namespace DL
open PySem PySem.Spec L2
section
variable {prog : Program} {w : World} {A : Around} {E : Value → Shared → Prop} {s : Shared}
theorem rows_firsts {h : Heap} {k : Value → List Int} : ∀ {vs : List Value}, (∀ v ∈ vs, IsRow h v (k v) ∧ k v ≠ []) → ∃ fs : List Value, PySem.W.KatTups h vs fs ∧ fs.length = vs.length ∧ ∀ f ∈ fs, ∃ x t, f = Value.int x t
  | [], _ => ⟨[], PySem.W.KatTups.nil, rfl, fun _ hm => by simp at hm⟩
  | v :: vs, hp => by
    obtain ⟨fs, h1, h2, h3⟩ := rows_firsts (vs := vs) fun v' hm => hp v' (List.mem_cons_of_mem _ hm)
    obtain ⟨⟨a, o, xs, n, e, ho, hc, hd, hv⟩, hne⟩ := hp v (List.mem_cons_self ..)
    subst e
    cases ek : k (.ref a) with
    | nil => exact absurd ek hne
    | cons i is =>
      rw [ek] at hv
      cases hv with
      | cons r t =>
        obtain ⟨u, rfl⟩ := r
        refine ⟨.int i u :: fs, PySem.W.KatTups.cons ho hc hd rfl h1, by rw [List.length_cons, List.length_cons, h2], fun f hm => ?_⟩
        rcases List.mem_cons.mp hm with rfl | hm
        · exact ⟨i, u, rfl⟩
        · exact h3 f hm
theorem rows_sortable {a : Addr} {vs : List Value} {k : Value → List Int} (h0 : 0 < vs.length) (hp : ∀ v ∈ vs, IsRow s.heap v (k v) ∧ k v ≠ []) (ha : ∀ o, s.heap.get? a = some o → o.cls ≠ .type "tuple") : SrtO.SortableO prog w A s a vs fun v u => lexI (k v) (k u) := by
  intro h' keep
  have hp' : ∀ v ∈ vs, IsRow h' v (k v) ∧ k v ≠ [] := fun v hm => ⟨(hp v hm).1.keeps fun b o e c => keep b o (fun z => by subst z; exact ha o e c) e, (hp v hm).2⟩
  obtain ⟨fs, h1, h2, h3⟩ := rows_firsts hp'
  refine ⟨PyProof.Rows.tuples' true, fun Q E hq => ?_, rows_cmp (s := { s with heap := h' }) fun v hm => (hp' v hm).1⟩
  refine PySem.W.kat_kind (T := .type "int") h1 (by omega) (fun f hm => ?_) (by rfl) ?_
  · obtain ⟨x, t, rfl⟩ := h3 f hm
    exact PySem.W.Looks.now
  · have e : (Value.type "int" != Value.type "tuple") = true := by first | decide +kernel | rfl | decide
    rw [e]
    exact hq
end
/-- what sorted asks and gives -/
def rSrt (K : PySem.W.Frag) : List V → Hp → VK → Prop := fun vs H Q => ∃ (a : Addr) (ys : List V), vs = [V.ref a] ∧ (SqL K H a ys ∨ SqT K H a ys) ∧
  ((∃ ns : List Int, ys = ns.map V.int ∧ ∀ (ns' : List Int) (p : Addr), ns'.Perm ns → ns'.Pairwise (· ≤ ·) → H p = none → Q (.ref p) (upd H p (.lst (ns'.map V.int)))) ∨
   (∃ k : V → List Int, (∀ y ∈ ys, ∃ t, y = V.ref t ∧ H t = some (.tup ((k y).map V.int)) ∧ k y ≠ []) ∧ ∀ (zs : List V) (p : Addr), zs.Perm ys → zs.Pairwise (fun x y => lexI (k y) (k x) = false) → H p = none → Q (.ref p) (upd H p (.lst zs))))
section
variable {X : Cx} {N : Nm} {E : XK}
theorem cr_srt : CallR X (.builtin "sorted") (rSrt X.K) := by
  intro pins s σ H vs us Q I r h
  obtain ⟨a, ys, rfl, hs, h⟩ := h
  obtain ⟨its, rv, hz, T, o, n, hT, ho, hc, hd⟩ : ∃ its : List Value, Vals ys its ∧ ys.length ≤ sizeLine ∧ ∃ (T : String) (o : Obj) (n : Nat), (T = "list" ∨ T = "tuple") ∧ s.heap.get? a = some o ∧ o.cls = .type T ∧ o.data = .seq its.toArray n := by
    rcases hs with hs | hs
    · obtain ⟨its, rv, hl, hz⟩ := I.list hs
      obtain ⟨o, h1, h2, n, h3⟩ := hl.isList
      exact ⟨its, rv, hz, "list", o, n, .inl rfl, h1, h2, h3⟩
    · obtain ⟨its, rv, ⟨o, h1, h2, n, h3⟩, hz⟩ := I.tuple hs
      exact ⟨its, rv, hz, "tuple", o, n, .inr rfl, h1, h2, h3⟩
  rw [Vals.ref1 r]
  have hz' : its.length ≤ sizeLine := by rw [← rv.length]; exact hz
  rcases h with ⟨ns, rfl, q⟩ | ⟨k, hx, q⟩
  · have hi := rv.ints
    refine sorted_seq SrtO.swo_int hT ho hc hd hz' (fun h2 h₁ a' _ _ => SrtO.ints_sortable hi h2) fun out h1 h2 => ?_
    obtain ⟨k1, k2, k3⟩ := SrtO.ints_out hi h1 h2
    obtain ⟨ep, he'⟩ := PyProof.Rows.sortedAll_at s.heap its out.toArray
    have hlen : ((out.map SrtO.iv).map V.int).length ≤ sizeLine := by
      rw [List.length_map, k2.length_eq]
      rw [List.length_map] at hz
      exact hz
    exact ⟨.ref _, upd H (s.heap.objs.size + 1) (.lst ((out.map SrtO.iv).map V.int)), I.laid (t' := s.toks) (fun _ _ => PyProof.Rows.sortedAll_old) (Nat.le_succ _) ⟨hlen, out, ep, vals_of_ints k1, he'⟩, rfl, q _ _ k2 k3 (I.hok.fresh (Nat.le_succ _))⟩
  · obtain ⟨e1, e2⟩ := refs_back rv fun x m => by
      obtain ⟨t, e, _⟩ := hx x m
      exact ⟨t, e⟩
    have hp : ∀ v ∈ its, IsRow s.heap v (k (backV v)) ∧ k (backV v) ≠ [] := fun v hv => by
      obtain ⟨t, rfl⟩ := e2 v hv
      have hm : V.ref t ∈ ys := by rw [e1]; exact List.mem_map.mpr ⟨_, hv, rfl⟩
      obtain ⟨t', e, ht, hne⟩ := hx _ hm
      cases e
      obtain ⟨_, its2, r2, o, ho, hc, n, hd⟩ := I.hok _ _ ht
      exact ⟨⟨t, o, its2, n, rfl, ho, hc, hd, r2⟩, hne⟩
    refine sorted_seq (lexI_swo fun v => k (backV v)) hT ho hc hd hz' (fun h2 h₁ a ha kk => ?_) fun out hs hb => ?_
    · refine rows_sortable (s := { s with heap := h₁ }) (k := fun v => k (backV v)) (by omega) (fun v hm => ⟨(hp v hm).1.keeps fun b o e _ => (kk b o e).2, (hp v hm).2⟩) fun o e => ?_
      have e' : some o = some (PyProof.Rows.seqObj "list" its.toArray 0) := e.symm.trans ha
      cases e'
      intro c
      exact absurd (Value.type.inj c) (by decide)
    · have h3 : ∀ u ∈ out, ∃ a, u = Value.ref a := fun u hu => e2 u (hb.perm.mem_iff.mp hu)
      obtain ⟨ep, he'⟩ := PyProof.Rows.sortedAll_at s.heap its out.toArray
      refine ⟨.ref _, upd H (s.heap.objs.size + 1) (.lst (out.map backV)), I.laid (t' := s.toks) (fun _ _ => PyProof.Rows.sortedAll_old) (Nat.le_succ _) ⟨?_, out, ep, vals_back h3, he'⟩, rfl, q _ _ ?_ ?_ (I.hok.fresh (Nat.le_succ _))⟩
      · rw [List.length_map, hb.perm.length_eq, ← rv.length]; exact hz
      · rw [e1]; exact hb.perm.map backV
      · exact List.pairwise_map.mpr hs
/-! ### read by trees -/
def intsOf : List D → Option (List Int)
  | [] => some []
  | .int i :: t => match intsOf t with
    | some l => some (i :: l)
    | none => none
  | _ :: _ => none
def rowsOf : List D → Option (List (List Int))
  | [] => some []
  | .tup (x :: xs) :: t => match intsOf (x :: xs), rowsOf t with
    | some r, some l => some (r :: l)
    | _, _ => none
  | _ :: _ => none
def unI : List Int → D
  | i :: _ => .int i
  | [] => .non
def rowD (r : List Int) : D := .tup (r.map D.int)
def srtL (l : List D) : Option (List D) := match intsOf l with
  | some ns => some ((sortI (ns.map fun i => [i])).map unI)
  | none => match rowsOf l with
    | some rs => some ((sortI rs).map rowD)
    | none => none
def gSrt (d : D) (η : Hd) : Option (D × Hd) := match d with
  | .tup l => match Nat.ble l.length line, srtL l with
    | true, some m => some (.ref η.nx, η.new (.lst m))
    | _, _ => none
  | .ref r => match η.list r with
    | some l => match srtL l with
      | some m => some (.ref η.nx, η.new (.lst m))
      | none => none
    | none => none
  | _ => none
theorem intsOf_eq : ∀ {l : List D} {ns : List Int}, intsOf l = some ns → l = ns.map D.int
  | [], ns, h => by cases h; rfl
  | d :: t, ns, h => by
    cases d with
    | int i =>
      simp only [intsOf] at h
      cases e : intsOf t with
      | none => rw [e] at h; cases h
      | some m => rw [e] at h; cases h; rw [intsOf_eq e]; rfl
    | _ => cases h
theorem rowsOf_eq : ∀ {l : List D} {rs : List (List Int)}, rowsOf l = some rs → l = rs.map rowD ∧ ∀ r ∈ rs, r ≠ []
  | [], ns, h => by cases h; exact ⟨rfl, fun r m => by simp at m⟩
  | d :: t, ns, h => by
    cases d with
    | tup xs =>
      cases xs with
      | nil => cases h
      | cons x xs =>
        simp only [rowsOf] at h
        cases e1 : intsOf (x :: xs) with
        | none => rw [e1] at h; cases h
        | some r =>
          cases e2 : rowsOf t with
          | none => rw [e1, e2] at h; cases h
          | some m =>
            rw [e1, e2] at h
            cases h
            have q := intsOf_eq e1
            obtain ⟨q1, q2⟩ := rowsOf_eq e2
            refine ⟨by rw [q, q1]; rfl, fun r' hm => ?_⟩
            rcases List.mem_cons.mp hm with rfl | hm
            · intro z; subst z; cases q
            · exact q2 r' hm
    | _ => cases h
theorem rel_ints {W : Wl} : ∀ {ns : List Int} {vs : List V}, RelDs W (ns.map D.int) vs → vs = ns.map V.int
  | [], vs, h => by rw [List.map_nil, RelDs] at h; exact h
  | n :: ns, vs, h => by
    rw [List.map_cons, RelDs] at h
    obtain ⟨v, vs', rfl, h1, h2⟩ := h
    rw [rel_ints h2]
    rw [RelD] at h1
    rw [h1]; rfl
theorem ints_rel {W : Wl} : ∀ {ns : List Int}, RelDs W (ns.map D.int) (ns.map V.int)
  | [] => by rw [List.map_nil, RelDs]; rfl
  | n :: ns => RelDs.cons mkInt ints_rel
def unV : V → Int
  | .int i => i
  | _ => 0
theorem unV_map (ns : List Int) : (ns.map V.int).map unV = ns := by rw [List.map_map]; exact (List.map_congr_left fun _ _ => rfl).trans (List.map_id ns)
def rowV (H : Hp) : V → List Int
  | .ref t => match H t with
    | some (.tup us) => us.map unV
    | _ => []
  | _ => []
theorem rel_rows {W : Wl} : ∀ {rs : List (List Int)} {vs : List V}, RelDs W (rs.map rowD) vs → vs.map (rowV W.H) = rs ∧ ∀ v ∈ vs, ∃ t, v = V.ref t ∧ W.H t = some (.tup ((rowV W.H v).map V.int))
  | [], vs, h => by rw [List.map_nil, RelDs] at h; subst h; exact ⟨rfl, fun v m => by simp at m⟩
  | r :: rs, vs, h => by
    rw [List.map_cons, RelDs] at h
    obtain ⟨v, vs', rfl, h1, h2⟩ := h
    obtain ⟨q1, q2⟩ := rel_rows h2
    obtain ⟨a, us, rfl, ha, hr⟩ := relTup h1
    have hr' := rel_ints hr
    subst hr'
    have e : rowV W.H (V.ref a) = r := by simp only [rowV, ha]; exact unV_map r
    refine ⟨by rw [List.map_cons, e, q1], fun v hm => ?_⟩
    rcases List.mem_cons.mp hm with rfl | hm
    · exact ⟨a, rfl, by rw [e]; exact ha⟩
    · exact q2 v hm
theorem rows_rel {W : Wl} : ∀ {vs : List V}, (∀ v ∈ vs, ∃ t, v = V.ref t ∧ W.H t = some (.tup ((rowV W.H v).map V.int))) → RelDs W ((vs.map (rowV W.H)).map rowD) vs
  | [], _ => by rw [List.map_nil, List.map_nil, RelDs]
  | v :: vs, h => by
    obtain ⟨t, e, ht⟩ := h v (List.mem_cons_self ..)
    refine RelDs.cons ?_ (rows_rel fun u hu => h u (List.mem_cons_of_mem _ hu))
    rw [e] at ht ⊢
    exact mkTup ht ints_rel
theorem srt_one {ns ns' : List Int} (p : ns'.Perm ns) (h : ns'.Pairwise (· ≤ ·)) : ns'.map (fun i => [i]) = sortI (ns.map fun i => [i]) := by
  refine srI_uniq ((p.map _).trans (sortI_perm _).symm) (List.pairwise_map.mpr (h.imp fun {x y} q => ?_)) (sortI_sorted _)
  simp only [lexI]
  by_cases e : y = x
  · subst e; rw [ieq_self]
  · rw [ieq_false e]; exact decide_eq_false (by omega)
theorem blt_sorted : CallR X (.builtin "sorted") (rN X.K N (f1 gSrt)) := CallR.imp cr_srt fun xs H Q q => by
  obtain ⟨W, ds, d, η', rfl, o, rs, hf, hq⟩ := q
  obtain ⟨x, rfl, hg⟩ := f1_inv hf
  clear hf
  obtain ⟨v, rfl, rx⟩ := rel1 rs
  obtain ⟨a, l, m, ys, rfl, hs, ry, hm, rfl, rfl, hl⟩ : ∃ a l m ys, v = V.ref a ∧ (SqL X.K W.H a ys ∨ SqT X.K W.H a ys) ∧ RelDs W l ys ∧ srtL l = some m ∧ d = .ref W.η.nx ∧ η' = W.η.new (.lst m) ∧ l.length ≤ sizeLine := by
    cases x with
    | tup l =>
      simp only [gSrt] at hg
      obtain ⟨p, vs, rfl, hs, rs⟩ := relTup rx
      cases e1 : Nat.ble l.length line with
      | false => rw [e1] at hg; cases hg
      | true =>
        cases e2 : srtL l with
        | none => rw [e1, e2] at hg; cases hg
        | some m =>
          rw [e1, e2] at hg
          cases hg
          exact ⟨p, l, m, vs, rfl, .inr (SqT.of hs), rs, e2, rfl, rfl, Nat.le_of_ble_eq_true e1⟩
    | ref r =>
      simp only [gSrt] at hg
      cases e : W.η.list r with
      | none => rw [e] at hg; cases hg
      | some l =>
        rw [e] at hg
        simp only at hg
        cases e2 : srtL l with
        | none => rw [e2] at hg; cases hg
        | some m =>
          rw [e2] at hg
          cases hg
          obtain ⟨vs, g1, g2, g3⟩ := list_of o e
          exact ⟨_, l, m, vs, relRef rx, .inl g1, g2, e2, rfl, rfl, g3⟩
    | _ => cases hg
  refine ⟨a, ys, rfl, hs, ?_⟩
  unfold srtL at hm
  cases e1 : intsOf l with
  | some ns =>
    rw [e1] at hm
    cases hm
    have el := intsOf_eq e1
    subst el
    refine .inl ⟨ns, rel_ints ry, fun ns' p p1 p2 hp => ?_⟩
    have e := srt_one p1 p2
    have e3 : (sortI (ns.map fun i => [i])).map unI = ns'.map D.int := by
      rw [← e, List.map_map]; exact List.map_congr_left fun _ _ => rfl
    rw [e3] at hq
    refine new_lst o hq hp ints_rel ?_
    rw [List.length_map] at hl ⊢
    rw [p1.length_eq]; exact hl
  | none =>
    rw [e1] at hm
    simp only at hm
    cases e2 : rowsOf l with
    | none => rw [e2] at hm; cases hm
    | some rs =>
      rw [e2] at hm
      cases hm
      obtain ⟨el, hne⟩ := rowsOf_eq e2
      subst el
      obtain ⟨q1, q2⟩ := rel_rows ry
      refine .inr ⟨rowV W.H, fun y hy => ?_, fun zs p p1 p2 hp => ?_⟩
      · obtain ⟨t, e, ht⟩ := q2 y hy
        exact ⟨t, e, ht, hne _ (by rw [← q1]; exact List.mem_map_of_mem hy)⟩
      · have e : zs.map (rowV W.H) = sortI rs := srI_uniq ((p1.map _).trans (by rw [q1]; exact (sortI_perm _).symm)) (List.pairwise_map.mpr p2) (sortI_sorted _)
        rw [← e] at hq
        refine new_lst o hq hp (rows_rel fun u hu => q2 u (p1.mem_iff.mp hu)) ?_
        rw [List.length_map] at hl ⊢
        have := p1.length_eq
        have h2 := congrArg List.length q1
        rw [List.length_map] at h2 ⊢
        omega
end
end DL

/-! methods called; a lambda handed to a def that tells its exceptions -/
namespace DL
open PySem PySem.Spec L2
section
variable {X : Cx} {N : Nm} {E : XK}
theorem je_mt {id : String} {name : Str} {f : FM} {o e : Expr} {es : List Expr} {co : CE} {c : CA} {apos cpos : Pos} (pa : PlainAttrs "list") (slot : Slot "list" name id) (hty : typeOf (.builtin id) = pure (.type "method_descriptor")) (hm : MtR X id (rM X.K N f)) (ho : JE X N E o co) (ha : JA X N E (e :: es) c)
    (hbase : attributeBase o name X.env (eval o X.env) = eval o X.env := by rfl)
    (hfew : ((backTo cpos (starEach (e :: es) X.env)).all (fun x => !x.1) && (backToKw cpos (keywordEach [] X.env)).all (fun x => x.1.isSome)
      && decide ((e :: es).length + ([] : List Keyword).length + (if ([] : List Keyword).isEmpty then 0 else 1) < 30)) = true := by rfl)
    (hline : (apos.endLine == cpos.line) = true := by rfl) (hs : starEach (e :: es) X.env = (false, eval e X.env) :: starEach es X.env := by rfl) (hplain : (backTo cpos (starEach es X.env)).any (·.1) = false := by rfl) :
    JE X N E (.Call (.Attribute o name apos) (e :: es) [] cpos) (cMt f co c) :=
  PE.imp (pe_bm pa slot hty hm ho ha hbase hfew hline hs hplain) fun σ H Q q => tBM_of q
/-- x.f(): no argument -/
def cMt0 (f : FM) (o : CE) : CE := fun σ η kv kx => o σ η (fun x η1 => match isL η1 x with
  | true => match f x [] η1 with
    | some (d, η2) => kv d η2
    | none => false
  | false => false) kx
theorem je_mt0 {id : String} {name : Str} {f : FM} {o : Expr} {co : CE} {apos cpos : Pos} (pa : PlainAttrs "list") (slot : Slot "list" name id) (hty : typeOf (.builtin id) = pure (.type "method_descriptor")) (hm : MtR X id (rM X.K N f)) (ho : JE X N E o co)
    (hbase : attributeBase o name X.env (eval o X.env) = eval o X.env := by rfl) (hline : (apos.endLine == cpos.line) = true := by rfl) :
    JE X N E (.Call (.Attribute o name apos) [] [] cpos) (cMt0 f co) :=
  PE.imp (pe_bm0 pa slot hty hm ho hbase hline) fun σ H Q q => by
    obtain ⟨W, σd, kv, kx, rfl, o, s, h, hv, hx⟩ := q
    refine tE.bind o s hx h fun W1 d v x1 o1 r1 s1 hx1 h1 => ?_
    cases e : isL W1.η d with
    | false => rw [e] at h1; cases h1
    | true =>
      rw [e] at h1
      refine ⟨isL_ty o1 r1 e, ?_⟩
      simp only at h1
      cases e2 : f d [] W1.η with
      | none => rw [e2] at h1; cases h1
      | some p =>
        obtain ⟨d2, η2⟩ := p
        rw [e2] at h1
        exact ⟨W1, d, [], d2, η2, rfl, o1, r1, .nil, e2, fun W' v x3 o3 e3 r3 => hv W' d2 v (x1.trans o o1 x3) o3 r3 (by rw [e3]; exact h1)⟩
/-! ### told -/
inductive HdsS (mg : Str → Option Value) (sg : Scope) : List ExceptHandler → List (Value × Str) → Prop
  | nil : HdsS mg sg [] []
  | cons {e ret : Str} {c : Value} {p4 p5 p6 p7 : Pos} {j} {hds : List ExceptHandler} {l : List (Value × Str)} (hge : sg.names.lookup e = some .globalImplicit) (hme : mg e = some c) (hde : (e == ("__debug__" : Str)) = false) (r : HdsS mg sg hds l) :
      HdsS mg sg (.ExceptHandler (some (.Name e p4)) none [.Return (some (.Constant (.str ret) j p5)) p6] p7 :: hds) ((c, ret) :: l)
def tsOf (l : List (Value × Str)) : List (Value × (Addr → Value → Option Addr → TS)) := l.map fun p => (p.1, fun _ _ _ D _ H => D.rt (.str p.2) H)
theorem HdsS.ok {Y : Cx} {sg : Scope} (hs : Y.env.scope = sg) {hds : List ExceptHandler} {l : List (Value × Str)} (h : HdsS Y.mg sg hds l) : HdsOk Y hds (tsOf l) := by
  induction h with
  | nil => exact .nil
  | cons hge hme hde r ih =>
    refine HdsOk.cons ⟨?_, hde, .inl hme⟩ (fun a oe cls d pn _ _ => ?_) ih
    · subst hs; exact hge
    · exact pss_one (ps_ret pe_str)
/-! ### a lambda is made, and handed on -/
section
variable {X : Cx} {pins : List (Addr × Obj)} {σ : L2.St} {H : Hp} {s : Shared}
/-- a lambda's code object is new, or stands at its place in the table -/
theorem mk_lam {T : Tbl} {lam : Nat → Nat → Bool} {c P : Addr} {params : Arguments} {body : Expr} {scope : Scope} {lp : Pos} {Er : Value → Shared → Prop} {Qr : Value → Shared → Prop} (I : Inv X pins σ H s) (TB : LamX.TabB X.base X.mg c P) (hcode : X.env.code = .ref c)
    (hm : (P, X.env.qual ++ "<lambda>", lam) ∈ T) (hlm : lam lp.line lp.col = true) (hu : ∀ e ∈ T, e.1 = P → e.2.1 = X.env.qual ++ "<lambda>") (hT : Tabs T H) (hdef : defaultsOf params X.env = ([], [])) (hcl : ∀ y ∈ scope.names, y.2 = .free → ∃ c, X.env.cells.lookup y.1 = some c)
    (h : ∀ (f c' : Addr) (pm ctv : Value) (H1 : Hp) (s' : Shared), Inv X pins σ H1 s' → LamX.ExtN H H1 → Tabs T H1 → s'.heap.get? f = some (PySem.W.kla_obj "<lambda>" (X.env.qual ++ "<lambda>") params body scope (cloFrom X.env.cells scope.names []) pm c' ctv) →
      H1 f = none → f ∉ frs X.stack → H1 c' = some (LamX.CodeO c' (X.env.qual ++ "<lambda>")) → Qr (.ref f) s') :
    wpAny (model X.prog X.w) X.A (eval (.Lambda params body scope lp) X.env) Qr Er s := by
  obtain ⟨es, hP, ht, look⟩ := hT _ hm
  refine PySem.W.kla_eval hdef ?_
  have bt : s.heap.BuiltinsAt X.mg P := TB.bm.keeps I.bk
  have gl := I.mod.glob.keeps I.bk
  have cd := TB.code.keeps I.bk
  have Ps : s.heap.get? P = some { cls := .none, data := .fields es } := I.hok P _ hP
  have away : ∀ f, s.heap.objs.size ≤ f → f ∉ frs X.stack := fun f hf z => (List.mem_cons.mp (I.stkSub _ z)).elim (fun e => by have lt := I.lt; rw [← e] at lt; exact Nat.lt_irrefl _ (Nat.lt_of_lt_of_le lt hf)) (I.nofs hf)
  cases hc : codeAmong lp es.toList with
  | some cv =>
    obtain ⟨c', rfl, hco⟩ := look lp hlm cv hc
    exact PySem.W.kla_makeFunctionHit (mg := X.mg) (c := c) (P := P) (ps := es) (closure_ok hcl) I.ok.glob gl hcode cd Ps ht hc bt fun ctv h' tk hx hsz =>
      h h'.objs.size c' ((X.mg "__name__").getD .none) ctv H _ (I.kept fun b o e => Heap.get?_push_of_some _ (hx b o e)) (LamX.ExtN.refl H) hT (Heap.get?_push_size _ rfl) (I.hok.fresh hsz) (away _ hsz) hco
  | none =>
    refine PySem.W.kla_makeFunction (mg := X.mg) (c := c) (P := P) (ps := es) (closure_ok hcl) I.ok.glob gl hcode cd Ps ht hc TB.gP bt fun c' ctv h' tk hx hge hlt hrec htb => ?_
    obtain ⟨c2, oc, vs, t, e2, hoc, hd, hv⟩ := hrec
    cases e2
    have big : s.heap.objs.size ≤ h'.objs.size := Nat.le_trans hge (Nat.le_of_lt hlt)
    have nC : H c' = none := I.hok.fresh hge
    have I1 := LamX.inv_table (t' := tk) (more := #[rawInt lp.line, rawInt lp.col, .ref c']) (h' := h'.push (PySem.W.kla_obj "<lambda>" (X.env.qual ++ "<lambda>") params body scope (cloFrom X.env.cells scope.names []) ((X.mg "__name__").getD .none) c' ctv)) I hP
      (fun b o hb e => Heap.get?_push_of_some _ (hx b o hb e)) (Heap.get?_push_of_some _ htb) hge ⟨oc, vs, t, Heap.get?_push_of_some _ hoc, hd, hv⟩
    have hE : LamX.ExtN H (upd (upd H P (.tbl (es ++ #[rawInt lp.line, rawInt lp.col, .ref c']))) c' (LamX.CodeO c' (X.env.qual ++ "<lambda>"))) := fun b o e n => by
      rw [upd_ne (ne_of_none e nC), upd_ne (fun z => n es (Option.some.inj (e.symm.trans (by rw [z]; exact hP))))]; exact e
    have eL : (es ++ #[rawInt lp.line, rawInt lp.col, .ref c']).toList = es.toList ++ [rawInt lp.line, rawInt lp.col, .ref c'] := by simp
    refine h h'.objs.size c' ((X.mg "__name__").getD .none) ctv _ _ I1 hE (fun e he => ?_) (Heap.get?_push_size _ rfl) ?_ (away _ big) upd_same
    · obtain ⟨es', a1, a2, a3⟩ := hT e he
      by_cases hb : e.1 = P
      · rw [hb] at a1 ⊢
        rw [hP] at a1
        cases a1
        rw [hu e he hb] at a3 ⊢
        refine ⟨_, by rw [upd_ne (ne_of_none hP nC), upd_same], by rw [eL]; exact PySem.TriplesOk_snoc _ _ _ _ ht, fun at_ hl cv hcv => ?_⟩
        rw [eL] at hcv
        rcases among_snoc _ ht hcv with z | ⟨z, _⟩
        · obtain ⟨c0, e1, e2⟩ := a3 at_ hl cv z
          exact ⟨c0, e1, hE _ _ e2 LamX.codeO_ne⟩
        · exact ⟨c', z, upd_same⟩
      · refine ⟨es', by rw [upd_ne (ne_of_none a1 nC), upd_ne hb]; exact a1, a2, fun at_ hl cv hcv => ?_⟩
        obtain ⟨c0, e1, e2⟩ := a3 at_ hl cv hcv
        exact ⟨c0, e1, hE _ _ e2 LamX.codeO_ne⟩
    · rw [upd_ne (Nat.ne_of_gt hlt), upd_ne (Nat.ne_of_gt (Nat.lt_of_lt_of_le (Heap.lt_size Ps) big))]
      exact I.hok.fresh big
end
/-- a world where tables grow -/
theorem Wl.Ok.grown {K : PySem.W.Frag} {N : Names} {W : Wl} (o : W.Ok K N) {H1 : Hp} (eN : LamX.ExtN W.H H1) (T1 : Tabs N.tabs H1) : Ext W ⟨W.μ, W.η, H1⟩ ∧ Wl.Ok K N ⟨W.μ, W.η, H1⟩ := by
  have x : Ext W ⟨W.μ, W.η, H1⟩ := ⟨Nat.le_refl _, fun _ _ => rfl, fun a u h t _ => eN a u h t, fun a u h t => ⟨u, eN a u h t, t⟩, fun r c e => .inl ⟨c, e, id⟩⟩
  exact ⟨x, o.lt, fun r c e => (o.cell r c e).mono o x (fun ob t h => eN _ ob h t), o.inj, T1⟩
end
end DL

/-! states forgotten, tables of results, dice, the law's own loop -/
namespace DL
open PySem PySem.Spec L2
section
variable {X : Cx} {N : Nm} {E : XK}
def ipow (i j : Int) : Int := i ^ j.toNat
def powOk (i j : Int) : Bool := match j with
  | .ofNat n => Nat.ble n 1000 && Nat.ble i.natAbs 1000000000000000000
  | _ => false
theorem powOk_ok (i j : Int) (h : powOk i j = true) : CPow i j := by
  unfold powOk at h
  split at h
  · rename_i n
    obtain ⟨h1, h2⟩ := Bool.and_eq_true_iff.mp h
    have h1 := Nat.le_of_ble_eq_true h1
    have h2 := Nat.le_of_ble_eq_true h2
    exact ⟨by show (0 : Int) ≤ (n : Int); omega, by show (n : Int) ≤ _; omega, by omega⟩
  · cases h
def fPow : F2 := fI2c powOk ipow
theorem opd_pow : OpR X (binaryOp .Pow) (r2 X.K N fPow) := opd_intc op_pow powOk_ok fun _ _ => rfl
end
/-! ### the same data -/
def same : Nat → D → D → Bool
  | _, .int i, .int j => ieq i j
  | _, .non, .non => true
  | _, .bl a, .bl b => a == b
  | _, .str x, .str y => x == y
  | _, .ref a, .ref b => Nat.beq a b
  | n + 1, .tup a, .tup b => eqL (same n) a b
  | n + 1, .ftup a, .ftup b => eqL (same n) a b
  | _, _, _ => false
theorem eqL_eq {f : D → D → Bool} (hf : ∀ a b, f a b = true → a = b) : ∀ {a b : List D}, eqL f a b = true → a = b
  | [], [], _ => rfl
  | x :: xs, y :: ys, h => by
    simp only [eqL] at h
    cases e : f x y with
    | true => rw [e] at h; rw [hf _ _ e, eqL_eq hf h]
    | false => rw [e] at h; cases h
  | [], _ :: _, h => by simp [eqL] at h
  | _ :: _, [], h => by simp [eqL] at h
theorem same_eq : ∀ (n : Nat) (a b : D), same n a b = true → a = b := by
  intro n
  induction n with
  | zero =>
    intro a b h
    cases a <;> cases b <;> first | rfl | (simp only [same] at h; first | cases h | exact congrArg D.int (ieq_iff.mp h) | exact congrArg D.bl (beq_iff_eq.mp h) | exact congrArg D.str (beq_iff_eq.mp h) | exact congrArg D.ref (Nat.eq_of_beq_eq_true h))
  | succ n ih =>
    intro a b h
    cases a <;> cases b <;> first | rfl | (simp only [same] at h; first | cases h | exact congrArg D.int (ieq_iff.mp h) | exact congrArg D.bl (beq_iff_eq.mp h) | exact congrArg D.str (beq_iff_eq.mp h) | exact congrArg D.ref (Nat.eq_of_beq_eq_true h) | exact congrArg D.tup (eqL_eq ih h) | exact congrArg D.ftup (eqL_eq ih h))
/-- its cells are below n -/
def below : Nat → Nat → D → Bool
  | _, n, .ref r => Nat.ble (Nat.succ r) n
  | f + 1, n, .tup l => l.all (below f n)
  | f + 1, n, .ftup l => l.all (below f n)
  | 0, _, .tup _ => false
  | 0, _, .ftup _ => false
  | _, _, _ => true
theorem below_rel {W : Wl} {n : Nat} {cs : List (Nat × Cell)} : ∀ (f : Nat) {d : D} {v : V}, below f n d = true → RelD W d v → RelD ⟨W.μ, ⟨n, cs⟩, W.H⟩ d v := by
  intro f
  induction f with
  | zero =>
    intro d v h r
    cases d with
    | tup l => cases h
    | ftup l => cases h
    | ref q => rw [RelD] at *; exact ⟨Nat.le_of_ble_eq_true h, r.2⟩
    | _ => rw [RelD] at *; exact r
  | succ f ih =>
    intro d v h r
    cases d with
    | tup l =>
      rw [RelD] at *
      obtain ⟨a, vs, e, h1, h2⟩ := r
      refine ⟨a, vs, e, h1, ?_⟩
      have all : ∀ (l : List D) (vs : List V), l.all (below f n) = true → RelDs W l vs → RelDs ⟨W.μ, ⟨n, cs⟩, W.H⟩ l vs := by
        intro l
        induction l with
        | nil => intro vs _ r; rw [RelDs] at *; exact r
        | cons d l ihl =>
          intro vs hh r
          rw [RelDs] at *
          obtain ⟨v, vs', e, r1, r2⟩ := r
          simp only [List.all_cons, Bool.and_eq_true] at hh
          exact ⟨v, vs', e, ih hh.1 r1, ihl vs' hh.2 r2⟩
      exact all l vs h h2
    | ftup l =>
      rw [RelD] at *
      obtain ⟨a, vs, ob, e, h1, h3, h2⟩ := r
      refine ⟨a, vs, ob, e, h1, h3, ?_⟩
      have all : ∀ (l : List D) (vs : List V), l.all (below f n) = true → RelDs W l vs → RelDs ⟨W.μ, ⟨n, cs⟩, W.H⟩ l vs := by
        intro l
        induction l with
        | nil => intro vs _ r; rw [RelDs] at *; exact r
        | cons d l ihl =>
          intro vs hh r
          rw [RelDs] at *
          obtain ⟨v, vs', e, r1, r2⟩ := r
          simp only [List.all_cons, Bool.and_eq_true] at hh
          exact ⟨v, vs', e, ih hh.1 r1, ihl vs' hh.2 r2⟩
      exact all l vs h h2
    | ref q => rw [RelD] at *; exact ⟨Nat.le_of_ble_eq_true h, r.2⟩
    | _ => rw [RelD] at *; exact r
theorem belows_rel {W : Wl} {n : Nat} {cs : List (Nat × Cell)} {f : Nat} : ∀ {l : List D} {vs : List V}, l.all (below f n) = true → RelDs W l vs → RelDs ⟨W.μ, ⟨n, cs⟩, W.H⟩ l vs
  | [], _, _, r => by rw [RelDs] at *; exact r
  | d :: l, _, hh, r => by
    rw [RelDs] at *
    obtain ⟨v, vs', e, r1, r2⟩ := r
    simp only [List.all_cons, Bool.and_eq_true] at hh
    exact ⟨v, vs', e, below_rel f hh.1 r1, belows_rel hh.2 r2⟩
def is3 : List D → Bool
  | [.int _, .int _, .int _] => true
  | _ => false
def eqFs : List (Nat × D) → List (Nat × D) → Bool
  | [], [] => true
  | (a, d) :: s, (b, e) :: t => match Nat.beq a b with
    | true => match same 8 d e with
      | true => eqFs s t
      | false => false
    | false => false
  | _, _ => false
def belowF (n : Nat) : List (Nat × D) → Bool
  | [] => true
  | (_, d) :: t => match below 8 n d with
    | true => belowF n t
    | false => false
/-- of the cell c0 the cell c is kept -/
def cle (n : Nat) (c0 c : Cell) : Bool := match c with
  | .dice => match c0 with
    | .dice => true
    | .lst l => is3 l
    | _ => false
  | .lst m => match c0 with
    | .lst l => eqL (same 8) l m && l.all (below 8 n)
    | _ => false
  | .frz m => match c0 with
    | .frz l => eqL (same 8) l m && l.all (below 8 n)
    | _ => false
  | .ins k fs => match c0 with
    | .ins k0 fs0 => Nat.beq k0 k && (eqFs fs0 fs && belowF n fs0)
    | _ => false
  | _ => false
theorem eqFs_eq : ∀ {a b : List (Nat × D)}, eqFs a b = true → a = b
  | [], [], _ => rfl
  | [], _ :: _, h => by cases h
  | (_, _) :: _, [], h => by cases h
  | (a, d) :: s, (b, e) :: t, h => by
    simp only [eqFs] at h
    cases e1 : Nat.beq a b with
    | false => rw [e1] at h; cases h
    | true =>
      rw [e1] at h
      simp only at h
      cases e2 : same 8 d e with
      | false => rw [e2] at h; cases h
      | true =>
        rw [e2] at h
        rw [Nat.eq_of_beq_eq_true e1, same_eq 8 d e e2, eqFs_eq h]
theorem belowF_rel {W : Wl} {N : Names} {n : Nat} {cs : List (Nat × Cell)} : ∀ {fs : List (Nat × D)} {gs : List (Str × V)}, belowF n fs = true → RelFs W N fs gs → RelFs ⟨W.μ, ⟨n, cs⟩, W.H⟩ N fs gs
  | [], _, _, r => by rw [RelFs] at *; exact r
  | (k, d) :: fs, _, hh, r => by
    rw [RelFs] at *
    obtain ⟨v, gs', e, r1, r2⟩ := r
    simp only [belowF] at hh
    cases e1 : below 8 n d with
    | false => rw [e1] at hh; cases hh
    | true =>
      rw [e1] at hh
      exact ⟨v, gs', e, below_rel 8 e1 r1, belowF_rel hh r2⟩
theorem is3_eq {l : List D} (h : is3 l = true) : ∃ p q r, l = [.int p, .int q, .int r] := by
  match l, h with
  | [.int p, .int q, .int r], _ => exact ⟨p, q, r, rfl⟩
theorem rel3i {W : Wl} {p q r : Int} {vs : List V} (h : RelDs W [.int p, .int q, .int r] vs) : vs = [.int p, .int q, .int r] := rel_ints (ns := [p, q, r]) h
theorem cle_ok {K : PySem.W.Frag} {N : Names} {W : Wl} {n : Nat} {cs : List (Nat × Cell)} {a : Addr} {c0 c : Cell} (h : cle n c0 c = true) (r : RelC K N W a c0) : RelC K N ⟨W.μ, ⟨n, cs⟩, W.H⟩ a c ∧ (c.mut = true → c0.mut = true) := by
  cases c with
  | dice =>
    cases c0 with
    | dice => exact ⟨r, id⟩
    | lst l =>
      obtain ⟨p, q, s, rfl⟩ := is3_eq h
      obtain ⟨vs, h1, h2, _⟩ := r
      rw [rel3i h2] at h1
      exact ⟨⟨p, q, s, h1⟩, fun _ => rfl⟩
    | _ => cases h
  | lst m =>
    cases c0 with
    | lst l =>
      obtain ⟨h1, h2⟩ := Bool.and_eq_true_iff.mp h
      have e := eqL_eq (same_eq 8) h1
      subst e
      obtain ⟨vs, g1, g2, g3⟩ := r
      exact ⟨⟨vs, g1, belows_rel h2 g2, g3⟩, fun _ => rfl⟩
    | _ => cases h
  | frz m =>
    cases c0 with
    | frz l =>
      obtain ⟨h1, h2⟩ := Bool.and_eq_true_iff.mp h
      have e := eqL_eq (same_eq 8) h1
      subst e
      obtain ⟨vs, g1, g2, g3⟩ := r
      exact ⟨⟨vs, g1, belows_rel h2 g2, g3⟩, fun z => nomatch z⟩
    | _ => cases h
  | ins k fs =>
    cases c0 with
    | ins k0 fs0 =>
      obtain ⟨h0, h⟩ := Bool.and_eq_true_iff.mp h
      obtain ⟨h1, h2⟩ := Bool.and_eq_true_iff.mp h
      have e := eqFs_eq h1
      subst e
      have e0 := Nat.eq_of_beq_eq_true h0
      subst e0
      obtain ⟨dx, gs, g1, g2, g3⟩ := r
      exact ⟨⟨dx, gs, g1, belowF_rel h2 g2, g3⟩, fun _ => rfl⟩
    | _ => cases h
  | _ => cases h
def leSl (n : Nat) : SD → SD → Bool
  | [], [] => true
  | none :: s, _ :: t => leSl n s t
  | some d :: s, some e :: t => match same 8 e d with
    | true => match below 8 n d with
      | true => leSl n s t
      | false => false
    | false => false
  | _, _ => false
def leCs (n : Nat) (η : Hd) : List (Nat × Cell) → Bool
  | [] => true
  | p :: t => match Nat.ble (Nat.succ p.1) n with
    | true => match η.get p.1 with
      | some c0 => match cle n c0 p.2 with
        | true => leCs n η t
        | false => false
      | none => false
    | false => false
/-- the state st is kept of σ and η -/
def leS (st : SD × Hd) (σ : SD) (η : Hd) : Bool := match leSl st.2.nx st.1 σ with
  | true => match Nat.ble st.2.nx η.nx with
    | true => leCs st.2.nx η st.2.cs
    | false => false
  | false => false
/-! ### the body of the law's loop -/
def kT (m : Nat) : KS := ⟨fun σ _ => Nat.beq σ.length m, fun _ _ => false, fun _ _ => false, fun σ _ => Nat.beq σ.length m, fun _ _ => false⟩
abbrev CK := SD → Hd → Bool
def tK (K : PySem.W.Frag) (N : Nm) (E : XK) (m : Nat) (c : CK) : TS := fun Z σ H => ∃ W0 W σd, W0.Ok K N.toNames ∧ W0.η.nx ≤ 1 ∧ Ext W0 W ∧ W.H = H ∧ W.Ok K N.toNames ∧ RelS W σd σ ∧ c σd W.η = true ∧ Sk K N E W0 (kT m) Z
def JK (X : Cx) (N : Nm) (E : XK) (m : Nat) (b : List Stmt) (c : CK) : Prop := PSs X b (tK X.K N E m c)
section
variable {X : Cx} {N : Nm} {E : XK} {m : Nat}
theorem jk_of {b : List Stmt} {c : CS} (h : JB X N E b c) : JK X N E m b (fun σ η => c σ η (kT m)) := PSs.imp h fun Z σ H q => by
  obtain ⟨W0, W, σd, o0, h0, x, rfl, o, s, h, hk⟩ := q
  exact ⟨W, σd, kT m, rfl, o, s, h, hk.mono o0 o x⟩
theorem jk_cons {st : Stmt} {rest : List Stmt} {a : CS} {c : CK} (h1 : JS X N E st a) (h2 : JK X N E m rest c) : JK X N E m (st :: rest) (fun σ η => a σ η { kT m with nx := c }) := PSs.imp (pss_cons h1 h2) fun Z σ H q => by
  obtain ⟨W0, W, σd, o0, h0, x, rfl, o, s, h, hk⟩ := q
  have hk' := hk.mono o0 o x
  exact ⟨W, σd, _, rfl, o, s, h, ⟨fun W' σd' σ' x' o' s' e' => ⟨W0, W', σd', o0, h0, x.trans o0 o x', rfl, o', s', e', hk⟩, hk'.rt, hk'.bk, hk'.ct, hk'.xc⟩⟩
end
end DL

/-! tables of results, dice, the law's own loop -/
namespace DL
open PySem PySem.Spec L2
section
variable {K : PySem.W.Frag} {N : Names} {W W1 : Wl}
theorem put_put (r : Nat) (c d : Cell) : ∀ l : List (Nat × Cell), put r d (put r c l) = put r d l
  | [] => rfl
  | p :: t => by
    have rr : Nat.beq r r = true := Nat.beq_refl r
    cases e : Nat.beq p.1 r with
    | true => simp only [put, e, rr]
    | false => simp only [put, e, put_put r c d t]
theorem put_self (r : Nat) (c : Cell) : ∀ l : List (Nat × Cell), look r l = some c → put r c l = l
  | [], h => rfl
  | p :: t, h => by
    unfold put
    unfold look at h
    cases e : Nat.beq p.1 r with
    | true =>
      rw [e] at h
      have := Nat.eq_of_beq_eq_true e
      cases h; subst this; rfl
    | false => rw [e] at h; simp only; rw [put_self r c t h]
theorem Hd.set_set (η : Hd) (r : Nat) (c d : Cell) : (η.set r c).set r d = η.set r d := by unfold Hd.set; rw [put_put]
theorem Hd.set_self (η : Hd) (r : Nat) (c : Cell) (h : η.get r = some c) : η.set r c = η := by unfold Hd.set; rw [put_self r c _ h]
theorem Hd.new_set (η : Hd) (c d : Cell) : (η.new c).set η.nx d = η.new d := by
  unfold Hd.new Hd.set put
  have : Nat.beq η.nx η.nx = true := Nat.beq_refl _
  simp [this]
/-- a cell told otherwise -/
theorem Wl.Ok.swap (o : W.Ok K N) {r : Nat} {c0 c : Cell} (h : W.η.get r = some c0) (hc : RelC K N W (W.μ r) c) (m : c.mut = true → c0.mut = true) : Ext W ⟨W.μ, W.η.set r c, W.H⟩ ∧ Wl.Ok K N ⟨W.μ, W.η.set r c, W.H⟩ := by
  have gs : ∀ q, (W.η.set r c).get q = if q = r then some c else W.η.get q := fun q => by
    have := Hd.get_set W.η r c q
    rw [h] at this
    exact this
  have x : Ext W ⟨W.μ, W.η.set r c, W.H⟩ := by
    refine ⟨Nat.le_refl _, fun _ _ => rfl, fun _ _ e _ _ => e, fun a u e t => ⟨u, e, t⟩, fun q d e => ?_⟩
    have e' : (W.η.set r c).get q = some d := e
    rw [gs] at e'
    by_cases z : q = r
    · rw [if_pos z] at e'; cases e'; exact .inl ⟨c0, by rw [z]; exact h, m⟩
    · rw [if_neg z] at e'; exact .inl ⟨d, e', id⟩
  have t : Tx W ⟨W.μ, W.η.set r c, W.H⟩ := x.tx o
  have orig : ∀ q d, (W.η.set r c).get q = some d → ∃ d0, W.η.get q = some d0 := fun q d e => by
    rw [gs] at e
    by_cases z : q = r
    · exact ⟨c0, by rw [z]; exact h⟩
    · rw [if_neg z] at e; exact ⟨d, e⟩
  refine ⟨x, fun q d e => ?_, fun q d e => ?_, fun q s d1 d2 e1 e2 e => ?_, o.tab⟩
  · obtain ⟨d0, e0⟩ := orig q d e; exact o.lt q d0 e0
  · have e' : (W.η.set r c).get q = some d := e
    rw [gs] at e'
    by_cases z : q = r
    · rw [if_pos z] at e'; cases e'; rw [z]; exact hc.tx t (fun _ _ e => e)
    · rw [if_neg z] at e'; exact (o.cell q d e').tx t (fun _ _ e => e)
  · obtain ⟨c1, g1⟩ := orig q d1 e1
    obtain ⟨c2, g2⟩ := orig s d2 e2
    exact o.inj q s c1 c2 g1 g2 e
end
/-! ### dice -/
def l3 (p q r : Int) : List D := [.int p, .int q, .int r]
def allN : Nat → (Nat → Bool) → Bool
  | 0, _ => true
  | n + 1, f => match f n with
    | true => allN n f
    | false => false
theorem allN_get : ∀ {n : Nat} {f : Nat → Bool}, allN n f = true → ∀ i, i < n → f i = true
  | 0, _, _, i, h => absurd h (by omega)
  | n + 1, f, h, i, hi => by
    unfold allN at h
    cases e : f n with
    | false => rw [e] at h; cases h
    | true =>
      rw [e] at h
      by_cases z : i = n
      · rw [z]; exact e
      · exact allN_get h i (by omega)
def fRoll : CF := fun ds η kv kx => match ds with
  | [.ref g, .int (.ofNat (n + 1))] => match η.get g with
    | some .dice => match Nat.ble n 1000000000 with
      | true => allN (n + 1) fun v => kv (.int (Int.ofNat v)) η
      | false => false
    | _ => false
  | _ => false
def RollOk (F : CF) : Prop := ∀ (g : Nat) (m p q r : Int) (η : Hd) (kv : KV) (kx : KX), 0 < m → m ≤ 1000000001 → η.get g = some (.lst (l3 p q r)) →
  (∀ v p' q' r', 0 ≤ v → v < m → kv (.int v) (η.set g (.lst (l3 p' q' r'))) = true) → F [.ref g, .int m] η kv kx = true
def fDice : CF := fun ds η kv kx => match ds with
  | [.int _] => kv (.ref η.nx) (η.new .dice)
  | _ => false
def DiceOk (F : CF) : Prop := ∀ (c : Int) (η : Hd) (kv : KV) (kx : KX), (∀ p q r, kv (.ref η.nx) (η.new (.lst (l3 p q r))) = true) → F [.int c] η kv kx = true
noncomputable def dec (p : Prop) : Bool := @decide p (Classical.propDecidable p)
theorem dec_iff {p : Prop} : dec p = true ↔ p := by unfold dec; exact @decide_eq_true_iff p (Classical.propDecidable p)
section
variable {P : Program} {w : World} {K : PySem.W.Frag} {mg : Str → Option Value} {base : Heap} {N : Nm} {k : Nat} {f : Addr} {fd : FuncData} {ps : List Str} {F : CF}
theorem roll_inv {ds : List D} {η : Hd} {kv : KV} {kx : KX} (h : fRoll ds η kv kx = true) : ∃ g n, ds = [.ref g, .int (.ofNat (n + 1))] ∧ η.get g = some .dice ∧ n ≤ 1000000000 ∧ ∀ v, v < n + 1 → kv (.int (Int.ofNat v)) η = true := by
  unfold fRoll at h
  split at h
  · rename_i g n
    split at h
    · rename_i e
      split at h
      · rename_i e2
        exact ⟨g, n, rfl, e, Nat.le_of_ble_eq_true e2, allN_get h⟩
      · cases h
    · cases h
  · cases h
theorem jf_roll (h : JF P w K mg base k f fd ps N F) (hF : RollOk F) : JF P w K mg base k f fd ps N fRoll :=
  h.imp fun vs H Q E q => by
    obtain ⟨W, ds, kv, kx, rfl, o, r, h, hv, hx⟩ := q
    obtain ⟨g, n, rfl, hg, hn, ha⟩ := roll_inv h
    obtain ⟨p, q, s, hc⟩ := o.cell g _ hg
    have rc : RelC K N.toNames W (W.μ g) (.lst (l3 p q s)) := ⟨_, hc, .cons mkInt (.cons mkInt (.cons mkInt .nil)), by show 3 ≤ sizeLine; decide⟩
    obtain ⟨x1, o1⟩ := o.swap hg rc (fun _ => rfl)
    have g1 : (W.η.set g (.lst (l3 p q s))).get g = some (.lst (l3 p q s)) := by rw [Hd.get_set, if_pos rfl, hg]; rfl
    refine ⟨⟨W.μ, W.η.set g (.lst (l3 p q s)), W.H⟩, _, fun d η' => dec (∃ v p' q' r', d = .int v ∧ 0 ≤ v ∧ v < Int.ofNat (n + 1) ∧ η' = W.η.set g (.lst (l3 p' q' r'))), kx, rfl, o1, r.mono o x1, ?_, fun W2 d v x2 o2 r2 e => ?_, hx.mono o o1 x1⟩
    · refine hF g _ p q s _ _ _ (by show (0 : Int) < ((n + 1 : Nat) : Int); omega) (by show ((n + 1 : Nat) : Int) ≤ _; omega) g1 fun v p' q' r' h1 h2 => dec_iff.mpr ⟨v, p', q', r', rfl, h1, h2, ?_⟩
      exact Hd.set_set _ _ _ _
    · obtain ⟨v', p', q', r', rfl, h1, h2, e2⟩ := dec_iff.mp e
      have g2 : W2.η.get g = some (.lst (l3 p' q' r')) := by rw [e2, Hd.get_set, if_pos rfl, hg]; rfl
      have rd : RelC K N.toNames W2 (W2.μ g) .dice := by
        obtain ⟨us, k1, k2, _⟩ := o2.cell g _ g2
        rw [rel3i k2] at k1
        exact ⟨p', q', r', k1⟩
      obtain ⟨x3, o3⟩ := o2.swap g2 rd (fun _ => rfl)
      have eη : W2.η.set g .dice = W.η := by rw [e2, Hd.set_set, Hd.set_self _ _ _ hg]
      rw [eη] at x3 o3
      have rv : v = .int v' := by rw [RelD] at r2; exact r2
      subst rv
      refine hv ⟨W2.μ, W.η, W2.H⟩ (.int v') _ ((x1.trans o o1 x2).trans o o2 x3) o3 mkInt ?_
      have : v' = Int.ofNat v'.toNat := (Int.toNat_of_nonneg h1).symm
      rw [this]
      exact ha _ (by have h2' : v' < ((n + 1 : Nat) : Int) := h2; omega)
theorem jf_dice (h : JF P w K mg base k f fd ps N F) (hF : DiceOk F) : JF P w K mg base k f fd ps N fDice :=
  h.imp fun vs H Q E q => by
    obtain ⟨W, ds, kv, kx, rfl, o, r, h, hv, hx⟩ := q
    unfold fDice at h
    split at h
    · rename_i c
      refine ⟨W, _, fun d η' => dec (∃ p q s, d = .ref W.η.nx ∧ η' = W.η.new (.lst (l3 p q s))), kx, rfl, o, r, hF c _ _ _ fun p q s => dec_iff.mpr ⟨p, q, s, rfl, rfl⟩, fun W2 d v x2 o2 r2 e => ?_, hx⟩
      obtain ⟨p, q, s, rfl, e2⟩ := dec_iff.mp e
      have g2 : W2.η.get W.η.nx = some (.lst (l3 p q s)) := by rw [e2, Hd.get_new, if_pos rfl]
      have rd : RelC K N.toNames W2 (W2.μ W.η.nx) .dice := by
        obtain ⟨us, k1, k2, _⟩ := o2.cell _ _ g2
        rw [rel3i k2] at k1
        exact ⟨p, q, s, k1⟩
      obtain ⟨x3, o3⟩ := o2.swap g2 rd (fun _ => rfl)
      have eη : W2.η.set W.η.nx .dice = W.η.new .dice := by rw [e2, Hd.new_set]
      rw [eη] at x3 o3
      exact hv ⟨W2.μ, W.η.new .dice, W2.H⟩ _ v (x2.trans o o2 x3) o3 (r2.mono o2 x3) h
    · cases h
/-! ### a def known by a table of its results -/
/-- what a def makes: a value, an exception -/
inductive Rs where
  | val (d : D)
  | exc (c : Nat)
end
end DL

/-! the law's own loop over its dice -/
namespace DL
open PySem PySem.Spec L2
def delC (g : Nat) : List (Nat × Cell) → List (Nat × Cell)
  | [] => []
  | p :: t => match Nat.beq p.1 g with
    | true => delC g t
    | false => p :: delC g t
def Hd.del (η : Hd) (g : Nat) : Hd := ⟨η.nx, delC g η.cs⟩
theorem look_del (g q : Nat) : ∀ l : List (Nat × Cell), look q (delC g l) = if q = g then none else look q l
  | [] => by simp [delC, look]
  | p :: t => by
    have ih := look_del g q t
    unfold delC
    cases e : Nat.beq p.1 g with
    | true =>
      have e' := Nat.eq_of_beq_eq_true e
      simp only [ih, look]
      by_cases h : q = g
      · simp [h]
      · have : Nat.beq p.1 q = false := by
          cases z : Nat.beq p.1 q with
          | false => rfl
          | true => exact absurd ((Nat.eq_of_beq_eq_true z).symm.trans e') h
        simp [h, this]
    | false =>
      simp only [look, ih]
      by_cases h : q = g
      · subst h; simp [e]
      · simp [h]
theorem Hd.get_del (η : Hd) (g q : Nat) : (η.del g).get q = if q = g then none else η.get q := look_del g q η.cs
def dicesL : List D → Hd → Bool
  | [], _ => true
  | .ref g :: t, η => match η.get g with
    | some .dice => dicesL t (η.del g)
    | _ => false
  | _ :: _, _ => false
theorem dicesL_cons {d : D} {t : List D} {η : Hd} (h : dicesL (d :: t) η = true) : ∃ g, d = .ref g ∧ η.get g = some .dice ∧ dicesL t (η.del g) = true := by
  cases d with
  | ref g =>
    simp only [dicesL] at h
    cases e : η.get g with
    | none => rw [e] at h; cases h
    | some c =>
      cases c with
      | dice => rw [e] at h; exact ⟨g, rfl, e, h⟩
      | _ => rw [e] at h; cases h
  | _ => cases h
theorem Wl.Ok.aside {K : PySem.W.Frag} {N : Names} {W W5 : Wl} (o : W.Ok K N) {g : Nat} (hg : W.η.get g = some .dice) (x : Ext ⟨fun _ => W.μ g, ⟨1, [(0, .dice)]⟩, W.H⟩ W5) (o5 : W5.Ok K N) : Ext W ⟨W.μ, W.η.del g, W5.H⟩ ∧ Wl.Ok K N ⟨W.μ, W.η.del g, W5.H⟩ := by
  have keep : ∀ a u, noT u → W.H a = some u → a ≠ W.μ g → W5.H a = some u := fun a u t e ne => x.fr a u e t (fun _ _ _ _ z => ne z.symm)
  have xx : Ext W ⟨W.μ, W.η.del g, W5.H⟩ := by
    refine ⟨Nat.le_refl _, fun _ _ => rfl, fun a u e t hn => keep a u t e (Ne.symm (hn g _ hg rfl)), x.th, fun q c e => ?_⟩
    have e' : (W.η.del g).get q = some c := e
    rw [Hd.get_del] at e'
    by_cases z : q = g
    · rw [if_pos z] at e'; cases e'
    · rw [if_neg z] at e'; exact .inl ⟨c, e', id⟩
  have orig : ∀ q c, (W.η.del g).get q = some c → q ≠ g ∧ W.η.get q = some c := fun q c e => by
    rw [Hd.get_del] at e
    by_cases z : q = g
    · rw [if_pos z] at e; cases e
    · rw [if_neg z] at e; exact ⟨z, e⟩
  refine ⟨xx, fun q c e => o.lt q c (orig q c e).2, fun q c e => ?_, fun q s c d e1 e2 e => o.inj q s c d (orig q c e1).2 (orig s d e2).2 e, o5.tab⟩
  obtain ⟨z, e'⟩ := orig q c e
  exact (o.cell q c e').mono o xx (fun ob t h => keep _ ob t h (o.apart hg e' z))
theorem RelS.blank {W : Wl} {σ : St} {m : Nat} (h : σ.length = m) : RelS W (List.replicate m none) σ := by
  refine ⟨by rw [List.length_replicate]; exact h.symm, fun i d e => ?_⟩
  have := List.mem_of_getElem? e
  rw [List.mem_replicate] at this
  cases this.2
section
variable {X : Cx} {N : Nm} {E : XK}
/-- what the rounds give -/
def RndQ (K : PySem.W.Frag) (N : Nm) (H : Hp) (Q : VK) : Prop := ∀ W' r l v, Ext ⟨fun _ => 0, ⟨0, []⟩, H⟩ W' → W'.Ok K N.toNames → W'.η.get r = some (.lst l) → dicesL l (frzAt r l W'.η) = true → RelD W' (.ref r) v → Q v W'.H
def spRnd (K : PySem.W.Frag) (N : Nm) : Sp := fun vs H Q _ => ∃ (a : Addr) (ns : List Int) (m : Nat), vs = [.ref a, .int (Int.ofNat m)] ∧ m ≤ 4 ∧ SqL K H a (ns.map V.int) ∧ Tabs N.tabs H ∧ RndQ K N H Q
def tLaw (K : PySem.W.Frag) (N : Nm) (m : Nat) : TS := fun Z σ H => ∃ (a : Addr) (ns : List Int), σ[0]? = some (some (.ref a)) ∧ σ.length = m ∧ SqL K H a (ns.map V.int) ∧ Tabs N.tabs H ∧ ∀ H', Z.rt (.bl true) H'
/-- for dice in _law_rounds(script, n): body; return True -/
theorem law_loop {k : Nat} {f : Addr} {fd : FuncData} {ps : List Str} {i m n : Nat} {x y : Str} {e0 e1 : Expr} {body : List Stmt} {c : CK} {p p' p2 pos pos2 : Pos} {jj} {pb : Pos}
    (G : FnOk X.prog X.w X.K X.mg X.base (L2.CX X.prog X.w) k f fd ps (spRnd X.K N)) (hr : Room k X.A) (hgl : Gl X x) (hm : X.mg x = some (.ref f)) (hk : PySem.W.keepIn X.K (.ref f) = true) (hb : Binds X.K fd ps []) (hx : Passes (L2.CX X.prog X.w) X E)
    (h0 : PE X e0 (tVar 0)) (h1 : PE X e1 (tC (.int (Int.ofNat n)))) (hn : n ≤ 4)
    (hp : PassesOwn (model X.prog X.w) X.A X.env X.xe) (hc : X.calm = true) (hg : JG X N E (.Name y p') (gNm i)) (hbody : JK X N E m body c) (hgen : c ((List.replicate m none).set i (some (.ref 0))) ⟨1, [(0, .dice)]⟩ = true)
    (hs : ∀ x', foldedSetIterable (.Call (.Name x p) [e0, e1] [] p2) X.env x' = pure x' := by intro _; rfl)
    (hdb : (x == ("__debug__" : Str)) = false := by decide) (hs1 : starEach (e0 :: [e1]) X.env = (false, eval e0 X.env) :: starEach [e1] X.env := by rfl) (hs2 : starEach (e1 :: []) X.env = (false, eval e1 X.env) :: starEach [] X.env := by rfl)
    (hpl : (backTo p2 (starEach [e1] X.env)).any (·.1) = false := by rfl) :
    PSs X [.For (.Name y p') (.Call (.Name x p) [e0, e1] [] p2) body [] pos, .Return (some (.Constant (.bool true) jj pb)) pos2] (tLaw X.K N m) := by
  refine PSs.imp (pss_cons (ps_for hp hc (pi_seq (pe_call G hr hgl hm hk hb .nil hx (pa_cons h0 (pa_cons h1 pa_nil hs2) hs1) hdb hs1 hpl)) hg hbody hs) (pss_one (ps_ret pe_bl))) fun Z σ H q => ?_
  obtain ⟨a, ns, e1, em, e2, e3, e4⟩ := q
  refine ⟨.ref a, e1, ?_⟩
  refine ⟨a, ns, n, rfl, hn, e2, e3, fun W1 r l v x1 o1 hr hd rv => ?_⟩
  have ev := relRef rv
  subst ev
  obtain ⟨vs, g1, g2, g3⟩ := o1.cell r _ hr
  refine .inl ⟨_, rfl, ⟨vs, SqL.of g1⟩, ?_⟩
  have fz : FzOk W1 ⟨l, some (r, l)⟩ := fun r' l' e => by cases e; exact hr
  obtain ⟨xf, of⟩ := Its.froze o1 fz
  have gq : (frzAt r l W1.η).get r = some (.frz l) := by
    unfold frzAt
    rw [Hd.get_set, if_pos rfl, hr]; rfl
  have wk : WalkD X.K N (Its.w ⟨l, some (r, l)⟩ W1) l (Itl X.K (W1.μ r)) := walkD_list (fun W1 x => x.fz r l _ gq g1) (g2.mono o1 xf)
  refine ⟨fun i m' σ2 H2 => m' = l.length - i ∧ i ≤ l.length ∧ σ2.length = m ∧ ∃ W2, W2.H = H2 ∧ Ext (Its.w ⟨l, some (r, l)⟩ W1) W2 ∧ W2.Ok X.K N.toNames ∧ dicesL (l.drop i) W2.η = true,
    ⟨l.length, by omega, Nat.zero_le _, em, Its.w ⟨l, some (r, l)⟩ W1, rfl, Ext.refl _, of, hd⟩, ?_⟩
  rintro i' m' σ2 H2 ⟨rfl, hi, hσ, W2, rfl, x2, o2, h2⟩
  by_cases hlt : i' < l.length
  · refine .inr ⟨wk.go W2 i' (x2.sty of) o2 hlt, fun σ3 H3 => σ3.length = m ∧ ∃ W3, W3.H = H3 ∧ Ext (Its.w ⟨l, some (r, l)⟩ W1) W3 ∧ W3.Ok X.K N.toNames ∧ dicesL (l.drop (i' + 1)) W3.η = true, fun σ3 H3 p3 => ⟨l.length - (i' + 1), by omega, rfl, hlt, p3⟩, fun yv H3 hy => ?_⟩
    obtain ⟨W3, d, e3', x3, o3, eH, eη, r3⟩ := wk.yld W2 i' yv H3 (x2.sty of) o2 hlt hy
    subst eH
    have ed : l.drop i' = d :: l.drop (i' + 1) := by
      rw [List.drop_eq_getElem_cons hlt]
      have : l[i'] = d := by
        have := List.getElem?_eq_getElem hlt
        rw [this] at e3'; exact Option.some.inj e3'
      rw [this]
    rw [ed, ← eη] at h2
    obtain ⟨g, rfl, hgd, h2⟩ := dicesL_cons h2
    have x03 := x2.trans of o2 x3
    have o' : Wl.Ok X.K N.toNames ⟨fun _ => W3.μ g, ⟨1, [(0, .dice)]⟩, W3.H⟩ := by
      have one : ∀ q (cc : Cell), (Hd.mk 1 [(0, .dice)]).get q = some cc → q = 0 ∧ cc = .dice := fun q cc e => by
        unfold Hd.get look at e
        cases ez : Nat.beq 0 q with
        | true => simp only [ez] at e; cases e; exact ⟨(Nat.eq_of_beq_eq_true ez).symm, rfl⟩
        | false => simp only [ez] at e; cases e
      refine ⟨fun q cc e => ?_, fun q cc e => ?_, fun q s cc d e1 e2 e => ?_, o3.tab⟩
      · rw [(one q cc e).1]; exact Nat.zero_lt_one
      · obtain ⟨rfl, rfl⟩ := one q cc e
        obtain ⟨a1, a2, a3, h⟩ := o3.cell g _ hgd
        exact ⟨a1, a2, a3, h⟩
      · rw [(one q cc e1).1, (one s d e2).1]
    have rv' : RelD ⟨fun _ => W3.μ g, ⟨1, [(0, .dice)]⟩, W3.H⟩ (.ref 0) yv := by
      have e9 := relRef r3
      rw [RelD]; exact ⟨Nat.zero_lt_one, e9⟩
    refine ⟨⟨fun _ => W3.μ g, ⟨1, [(0, .dice)]⟩, W3.H⟩, .ref 0, List.replicate m none, c, fun _ _ => false, rfl, o', rv', RelS.blank hσ, hgen, fun W4 σd4 σ4 x4 o4 s4 h4 => ?_, fun _ _ _ _ _ _ _ e => by cases e⟩
    have nxt : ∀ W5 σd5 σ5, Ext ⟨fun _ => W3.μ g, ⟨1, [(0, .dice)]⟩, W3.H⟩ W5 → W5.Ok X.K N.toNames → RelS W5 σd5 σ5 → Nat.beq σd5.length m = true → (σ5.length = m ∧ ∃ W3, W3.H = W5.H ∧ Ext (Its.w ⟨l, some (r, l)⟩ W1) W3 ∧ W3.Ok X.K N.toNames ∧ dicesL (l.drop (i' + 1)) W3.η = true) := fun W5 σd5 σ5 x5 o5 s5 hl5 => by
      obtain ⟨xa, oa⟩ := o3.aside hgd x5 o5
      exact ⟨s5.len.symm.trans (Nat.eq_of_beq_eq_true hl5), ⟨W3.μ, W3.η.del g, W5.H⟩, rfl, x03.trans of o3 xa, oa, h2⟩
    exact ⟨_, W4, σd4, o', Nat.le_refl 1, x4, rfl, o4, s4, h4, ⟨nxt, (fun _ _ _ _ _ _ e => by cases e), (fun _ _ _ _ _ _ e => by cases e), nxt, (fun _ _ _ _ _ _ _ e => by cases e)⟩⟩
  · have e : i' = l.length := by omega
    subst e
    exact .inl ⟨wk.stop W2 (x2.sty of) o2, e4 _⟩
end
end DL

/-! the rounds -/
namespace DL
open PySem PySem.Spec L2
/-- what is wanted of the rounds' end -/
def kR : KS := ⟨fun _ _ => false, fun d η => match d with
  | .ref r => match η.get r with
    | some (.lst l) => dicesL l (frzAt r l η)
    | _ => false
  | _ => false, fun _ _ => false, fun _ _ => false, fun _ _ => false⟩
def rndσ (m : Nat) : SD := none :: none :: some (.ref 0) :: List.replicate (m - 3) none
def RndT (m : Nat) (c : CS) : Prop := ∀ l : List Int, l.length ≤ 4 → c (rndσ m) ⟨1, [(0, .lst (l.map D.int))]⟩ kR = true
theorem cut_ints (ns : List Int) (m : Nat) : ∃ l : List Int, cutV (ns.map V.int) none (some (Int.ofNat m)) = l.map V.int ∧ l.length ≤ m := by
  unfold cutV
  rw [← List.map_drop, ← List.map_take]
  refine ⟨_, rfl, ?_⟩
  rw [List.length_take]
  have h1 : HT.sIx (ns.map V.int).length (ns.map V.int).length (some (Int.ofNat m)) = min m (ns.map V.int).length := HT.sIx_nat _ _ m
  rw [h1]
  omega
def tRnd (K : PySem.W.Frag) (N : Nm) (n : Nat) : TS := fun Z σ H => ∃ (a : Addr) (ns : List Int) (m : Nat) (t : St), σ = some (.ref a) :: some (.int (Int.ofNat m)) :: none :: t ∧ t.length = n - 3 ∧ m ≤ 4 ∧ SqL K H a (ns.map V.int) ∧ Tabs N.tabs H ∧ RndQ K N H Z.rt
section
variable {X : Cx} {N : Nm} {E : XK}
theorem rnd_body {n : Nat} {y : Str} {e0 e1 : Expr} {rest : List Stmt} {c : CS} {py p2 p3 p4 : Pos} (hN : X.N.Nodup) (hi : X.N[2]? = some y) (hl : L2.Loc X.env.scope y) (h0 : PE X e0 (tVar 0)) (h1 : PE X e1 (tVar 1)) (hr : JB X N E rest c) (hT : RndT n c)
    (hsw : swapsWith (.Subscript e0 (.Slice none (some e1) none p2) p3) (some (.Name y py)) p4.line X.env = pure false := by rfl) (hf : X.fn y = true ∨ X.env.scope.names.lookup y = some .local := by first | exact .inr rfl | assumption) :
    PSs X (.Assign [.Name y py] (.Subscript e0 (.Slice none (some e1) none p2) p3) p4 :: rest) (tRnd X.K N n) := by
  refine PSs.imp (pss_cons (ps_set hN hi hl (pe_slice sl_list h0 po_none (po_some h1)) hsw hf) hr) fun Z σ H q => ?_
  obtain ⟨a, ns, m, t, rfl, ht, hm, hS, hTb, hQ⟩ := q
  obtain ⟨l, el, ll⟩ := cut_ints ns m
  refine ⟨.ref a, rfl, .int (Int.ofNat m), rfl, Int.ofNat m, rfl, a, ns.map V.int, rfl, hS, fun p hp => ?_⟩
  rw [el]
  have o0 : Wl.Ok X.K N.toNames ⟨fun _ => 0, ⟨0, []⟩, H⟩ := ⟨(fun _ _ e => nomatch e), (fun _ _ e => nomatch e), (fun _ _ _ _ e => nomatch e), hTb⟩
  have hz : (l.map D.int).length ≤ sizeLine := by rw [List.length_map]; exact Nat.le_trans ll (Nat.le_trans hm (by decide))
  refine new_lst (Q := fun v H' => tS X.K N E c Z (some (.ref a) :: some (.int (Int.ofNat m)) :: some v :: t) H') o0 (fun W1 v x1 o1 e1 r1 => ?_) hp (ints_rel (ns := l)) hz
  refine ⟨W1, rndσ n, kR, rfl, o1, ?_, ?_, ⟨(fun _ _ _ _ _ _ e => by cases e), fun W2 d v2 x2 o2 r2 e2 => ?_, (fun _ _ _ _ _ _ e => by cases e), (fun _ _ _ _ _ _ e => by cases e), (fun _ _ _ _ _ _ _ e => by cases e)⟩⟩
  · refine ⟨by simp [rndσ, ht], fun i d e => ?_⟩
    match i with
    | 0 => simp [rndσ] at e
    | 1 => simp [rndσ] at e
    | 2 =>
      simp only [rndσ, List.getElem?_cons_succ, List.getElem?_cons_zero, Option.some.injEq] at e
      subst e
      exact ⟨v, rfl, r1⟩
    | i + 3 =>
      simp only [rndσ, List.getElem?_cons_succ] at e
      have := List.mem_of_getElem? e
      rw [List.mem_replicate] at this
      cases this.2
  · rw [e1]; exact hT l (Nat.le_trans ll hm)
  · unfold kR at e2
    dsimp only at e2
    cases d with
    | ref r =>
      dsimp only at e2
      cases eg : W2.η.get r with
      | none => rw [eg] at e2; cases e2
      | some cc =>
        cases cc with
        | lst l2 => rw [eg] at e2; exact hQ W2 r l2 v2 (x1.trans o0 o1 x2) o2 eg e2 r2
        | _ => rw [eg] at e2; cases e2
    | _ => cases e2
end
end DL

/-! the dice's own defs -/
namespace DL
open PySem PySem.Spec L2
def b_roll : CS := (sSeq (sIf (ctOr (cTst (cOp fEq (cOp fIx (cVar 0) (cC (.int 2))) (cC (.int 2)))) (ctAnd (cTst (cOp fEq (cOp fIx (cVar 0) (cC (.int 2))) (cC (.int 1)))) (cTst (cOp (fB2 igt) (cOp fIx (cVar 0) (cC (.int 0))) (cC (.int 0)))))) (sSeq (sAsg (cOp fMod (cFn (f1 gInt) (cCons (cOp fIx (cVar 0) (cC (.int 0))) cNil)) (cVar 1)) (gNm 2)) (sSeq (sAsg (cOp fDiv (cOp fIx (cVar 0) (cC (.int 0))) (cVar 1)) (gSb (cVar 0) (cC (.int 0)))) (sRet (cVar 2)))) sNil) (sSeq (sAsg (cC (.int 0)) (gSb (cVar 0) (cC (.int 2)))) (sSeq (sAsg (cOp fMod (cFn (f1 gInt) (cCons (cOp fAdd (cOp fAdd (cOp fMul (cOp fIx (cVar 0) (cC (.int 0))) (cC (.int 48271))) (cOp fMul (cOp fIx (cVar 0) (cC (.int 1))) (cC (.int 69621)))) (cC (.int 11))) cNil)) (cC (.int 2147483647))) (gSb (cVar 0) (cC (.int 0)))) (sSeq (sAsg (cOp fAdd (cOp fIx (cVar 0) (cC (.int 1))) (cC (.int 1))) (gSb (cVar 0) (cC (.int 1)))) (sRet (cOp fMod (cFn (f1 gInt) (cCons (cOp fAdd (cOp fDiv (cOp fIx (cVar 0) (cC (.int 0))) (cC (.int 7))) (cOp fIx (cVar 0) (cC (.int 0)))) cNil)) (cVar 1)))))))
def b_dice : CS := (sSeq (sIf (cTst (cChain (fB2 ilt) (fB2 ilt) (cOp fSub (cC (.int 0)) (cC (.int 10))) (cVar 0) (cC (.int 10)))) (sRet (cLst (cCons (cFn (f1 gAbs) (cCons (cVar 0) cNil)) (cCons (cC (.int 0)) (cCons (cC (.int 2)) cNil))))) sNil) (sRet (cLst (cCons (cVar 0) (cCons (cOp fAdd (cC (.int 1)) (cOp fMod (cFn (f1 gInt) (cCons (cVar 0) cNil)) (cC (.int 1009)))) (cCons (cFn (f1 gInt) (cCons (cOp (fB2 ige) (cVar 0) (cOp fPow (cC (.int 10)) (cC (.int 18)))) cNil)) cNil))))))
def b_rnd : CS := (sSeq (sIf (cTst (cOp fEq (cVar 2) (cLst cNil))) (sAsg (cLst (cCons (cC (.int 0)) cNil)) (gNm 2)) sNil) (sRet (cLc (ciSeq (cVar 2)) (gNm 3) ctYes (cCall fDice (cCons (cVar 3) cNil)) [3])))
theorem rnd_ok : RndT 4 b_rnd := by
  intro l hl
  match l, hl with
  | [], _ => rfl
  | [a], _ => rfl
  | [a, b], _ => rfl
  | [a, b, c], _ => rfl
  | [a, b, c, d], _ => rfl
  | _ :: _ :: _ :: _ :: _ :: _, h => exact absurd h (by simp)
theorem dice_ok : DiceOk (cDef 1 1 b_dice) := by
  intro c η kv kx h
  show b_dice [some (.int c)] η ⟨fun _ η1 => kv .non η1, kv, fun _ _ => false, fun _ _ => false, kx⟩ = true
  have pw : ∀ η' : Hd, fPow (.int 10) (.int 18) η' = some (.int (ipow 10 18), η') := fun _ => rfl
  have low : ∀ b : Bool, ige c (ipow 10 18) = b → b_dice [some (.int c)] η ⟨fun _ η1 => kv .non η1, kv, fun _ _ => false, fun _ _ => false, kx⟩ = true := fun b eb => by
    cases e1 : ilt (isub 0 10) c with
    | true =>
      cases e2 : ilt c 10 with
      | true =>
        simp [b_dice, sSeq, sIf, cTst, cChain, cOp, cC, cVar, fSub, fI2, fB2, e1, e2, sRet, cLst, cCons, cNil, cFn, f1, gAbs, line]
        exact h _ _ _
      | false =>
        cases b <;>
        · simp [b_dice, sSeq, sIf, sNil, cTst, cChain, cOp, cC, cVar, fSub, fI2, fB2, e1, e2, sRet, cLst, cCons, cNil, cFn, f1, gInt, line, fAdd, fOr, fMod, fI2c, modOk, pw, eb]
          exact h _ _ _
    | false =>
      cases b <;>
      · simp [b_dice, sSeq, sIf, sNil, cTst, cChain, cOp, cC, cVar, fSub, fI2, fB2, e1, sRet, cLst, cCons, cNil, cFn, f1, gInt, line, fAdd, fOr, fMod, fI2c, modOk, pw, eb]
        exact h _ _ _
  exact low _ rfl
theorem roll_ok : RollOk (cDef 2 3 b_roll) := by
  intro g m p q r η kv kx h0 h1 hg hk
  obtain ⟨n, rfl⟩ : ∃ n : Nat, m = Int.ofNat (n + 1) := ⟨m.toNat - 1, by show m = ((m.toNat - 1 + 1 : Nat) : Int); omega⟩
  have hn : n ≤ 1000000000 := by have : ((n + 1 : Nat) : Int) ≤ 1000000001 := h1; omega
  have gs : ∀ (η' : Hd) (l l' : List D), η'.get g = some (.lst l) → (η'.set g (.lst l')).get g = some (.lst l') := fun η' l l' e => by rw [Hd.get_set, if_pos rfl, e]; rfl
  show b_roll [some (.ref g), some (.int (Int.ofNat (n + 1))), none] η ⟨fun _ η1 => kv .non η1, kv, fun _ _ => false, fun _ _ => false, kx⟩ = true
  have ix : ∀ (η' : Hd) (a b c : Int), η'.get g = some (.lst (l3 a b c)) → fIx (.ref g) (.int 0) η' = some (.int a, η') ∧ fIx (.ref g) (.int 1) η' = some (.int b, η') ∧ fIx (.ref g) (.int 2) η' = some (.int c, η') := fun η' a b c e => by
    refine ⟨?_, ?_, ?_⟩ <;> (simp only [fIx, e]; rfl)
  have st : ∀ (η' : Hd) (a b c v : Int), η'.get g = some (.lst (l3 a b c)) → fSet (.ref g) (.int 0) (.int v) η' = some (η'.set g (.lst (l3 v b c))) ∧ fSet (.ref g) (.int 1) (.int v) η' = some (η'.set g (.lst (l3 a v c))) ∧ fSet (.ref g) (.int 2) (.int v) η' = some (η'.set g (.lst (l3 a b v))) := fun η' a b c v e => by
    refine ⟨?_, ?_, ?_⟩ <;> (simp only [fSet, e]; rfl)
  have eqi : ∀ (a b : Int) (η' : Hd), fEq (.int a) (.int b) η' = some (.bl (ieq a b), η') := fun a b η' => rfl
  have dv : divOk 0 (Int.ofNat (n + 1)) = true := by
    show Nat.ble n 1000000000 = true
    exact Nat.ble_eq_true_of_le hn
  have dv' : ∀ a, divOk a (Int.ofNat (n + 1)) = true := fun a => dv
  have md' : ∀ a, modOk a (Int.ofNat (n + 1)) = true := fun a => rfl
  have lo : ∀ a : Int, 0 ≤ imod a (Int.ofNat (n + 1)) ∧ imod a (Int.ofNat (n + 1)) < Int.ofNat (n + 1) := fun a => ⟨Int.emod_nonneg _ (by show ((n + 1 : Nat) : Int) ≠ 0; omega), Int.emod_lt_of_pos _ (by show (0 : Int) < ((n + 1 : Nat) : Int); omega)⟩
  have i0 := (ix η p q r hg).1
  have i2 := (ix η p q r hg).2.2
  have mul : ∀ (a : Int) (η' : Hd), fMul (.int a) (.int 48271) η' = some (.int (imul a 48271), η') ∧ fMul (.int a) (.int 69621) η' = some (.int (imul a 69621), η') := fun a η' => by
    have : mulOk a 48271 = true ∧ mulOk a 69621 = true := by unfold mulOk; exact ⟨by rw [Bool.or_eq_true]; exact .inr rfl, by rw [Bool.or_eq_true]; exact .inr rfl⟩
    simp [fMul, fOr, fI2c, this.1, this.2]
  have m1 := fun a η' => (mul a η').1
  have m2 := fun a η' => (mul a η').2
  have md1 : ∀ (a : Int) (η' : Hd), fMod (.int a) (.int 2147483647) η' = some (.int (imod a 2147483647), η') := fun _ _ => rfl
  have md2 : ∀ (a : Int) (η' : Hd), fMod (.int a) (.int (Int.ofNat (n + 1))) η' = some (.int (imod a (Int.ofNat (n + 1))), η') := fun _ _ => rfl
  have dv1 : ∀ (a : Int) (η' : Hd), fDiv (.int a) (.int (Int.ofNat (n + 1))) η' = some (.int (idiv a (Int.ofNat (n + 1))), η') := fun a η' => by simp only [fDiv, fI2c, dv']
  have dv7 : ∀ (a : Int) (η' : Hd), fDiv (.int a) (.int 7) η' = some (.int (idiv a 7), η') := fun _ _ => rfl
  have ad : ∀ (a b : Int) (η' : Hd), fAdd (.int a) (.int b) η' = some (.int (iadd a b), η') := fun _ _ _ => rfl
  have gt : ∀ (a b : Int) (η' : Hd), fB2 igt (.int a) (.int b) η' = some (.bl (igt a b), η') := fun _ _ _ => rfl
  have s0 := fun v => (st η p q r v hg).1
  have s2 := (st η p q r 0 hg).2.2
  have hS := fun a b c => gs η _ (l3 a b c) hg
  have j0 := fun a b c => (ix _ a b c (hS a b c)).1
  have j1 := fun a b c => (ix _ a b c (hS a b c)).2.1
  have t0 : ∀ a b c v, fSet (.ref g) (.int 0) (.int v) (η.set g (.lst (l3 a b c))) = some (η.set g (.lst (l3 v b c))) := fun a b c v => by rw [(st _ a b c v (hS a b c)).1, Hd.set_set]
  have t1 : ∀ a b c v, fSet (.ref g) (.int 1) (.int v) (η.set g (.lst (l3 a b c))) = some (η.set g (.lst (l3 a v c))) := fun a b c v => by rw [(st _ a b c v (hS a b c)).2.1, Hd.set_set]
  have fin : ∀ a : Int, ∀ l : List D, (∃ x y z, l = l3 x y z) → kv (.int (imod a (Int.ofNat (n + 1)))) (η.set g (.lst l)) = true := fun a l ⟨x, y, z, e⟩ => by
    rw [e]; exact hk _ _ _ _ (lo a).1 (lo a).2
  have three : ∀ (x y z : Int), ∃ x' y' z', l3 x y z = l3 x' y' z' := fun x y z => ⟨x, y, z, rfl⟩
  generalize hM : Int.ofNat (n + 1) = M at *
  have long : (match ieq r 2 with
      | true => false
      | false => match ieq r 1 with
        | true => !(igt p 0)
        | false => true) = true → b_roll [some (.ref g), some (.int M), none] η ⟨fun _ η1 => kv .non η1, kv, fun _ _ => false, fun _ _ => false, kx⟩ = true := fun hh => by
    cases e2 : ieq r 2 with
    | true => rw [e2] at hh; cases hh
    | false =>
      rw [e2] at hh
      cases e1 : ieq r 1 with
      | false =>
        simp [b_roll, sSeq, sIf, sNil, ctOr, ctAnd, cTst, cOp, cC, cVar, sRet, sAsg, gNm, gSb, cCons, cNil, cFn, f1, gInt, i0, i2, eqi, e1, e2, s2, j0, j1, t0, t1, m1, m2, ad, md1, dv7, md2, fin, three]
      | true =>
        rw [e1] at hh
        have e0 : igt p 0 = false := by simpa using hh
        simp [b_roll, sSeq, sIf, sNil, ctOr, ctAnd, cTst, cOp, cC, cVar, sRet, sAsg, gNm, gSb, cCons, cNil, cFn, f1, gInt, i0, i2, eqi, e0, e1, e2, gt, s2, j0, j1, t0, t1, m1, m2, ad, md1, dv7, md2, fin, three]
  cases e2 : ieq r 2 with
  | true => simp [b_roll, sSeq, sIf, sNil, ctOr, ctAnd, cTst, cOp, cC, cVar, sRet, sAsg, gNm, gSb, cCons, cNil, cFn, f1, gInt, i0, i2, eqi, e2, md2, dv1, s0, fin, three]
  | false =>
    cases e1 : ieq r 1 with
    | false => exact long (by rw [e2, e1])
    | true =>
      cases e0 : igt p 0 with
      | false => exact long (by rw [e2, e1, e0]; rfl)
      | true => simp [b_roll, sSeq, sIf, sNil, ctOr, ctAnd, cTst, cOp, cC, cVar, sRet, sAsg, gNm, gSb, cCons, cNil, cFn, f1, gInt, i0, i2, eqi, e0, e1, e2, gt, md2, dv1, s0, fin, three]
end DL

/-! the ends of a law -/
namespace DL
open PySem PySem.Spec L2
theorem hu65 {A : Around} {k : Nat} (hr : Room k A) : A.units + 65 < cLine := by have := hr.un; omega
section
variable {X : Cx} {N : Nm} {E : XK}
end
def spLaw (K : PySem.W.Frag) (N : Nm) : Sp := fun vs H Q _ => ∃ (a : Addr) (ns : List Int), vs = [.ref a] ∧ SqL K H a (ns.map V.int) ∧ Tabs N.tabs H ∧ ∀ H', Q (.bl true) H'
theorem tLaw_of {K : PySem.W.Frag} {N : Nm} {Ns : List Str} {vs : List V} {H : Hp} {Q : VK} {E : XK} {nx : St → Hp → Prop} (h : spLaw K N vs H Q E) (hl : 1 ≤ Ns.length) : tLaw K N Ns.length { nx := nx, rt := Q } (L2.start Ns vs) H := by
  obtain ⟨a, ns, rfl, h1, h2, h3⟩ := h
  exact ⟨a, ns, rfl, by simp [L2.start]; omega, h1, h2, h3⟩
theorem tRnd_of {K : PySem.W.Frag} {N : Nm} {Ns : List Str} {vs : List V} {H : Hp} {Q : VK} {E : XK} {nx : St → Hp → Prop} (h : spRnd K N vs H Q E) (hl : 3 ≤ Ns.length) : tRnd K N Ns.length { nx := nx, rt := Q } (L2.start Ns vs) H := by
  obtain ⟨a, ns, m, rfl, h1, h2, h3, h4⟩ := h
  match Ns, hl with
  | _ :: _ :: _ :: t, _ => exact ⟨a, ns, m, List.replicate t.length none, by simp [L2.start, List.replicate_succ], by simp, h1, h2, h3, h4⟩
end DL

/-! generator expressions within sum, any, all -/
namespace DL
open PySem PySem.Spec L2
/-- the context of a generator expression's body -/
abbrev genCx (X : Cx) (AY : Around) (s : Shared) (H : Hp) (cenv : Env) (fp : List Addr) : Cx :=
  { X with A := AY, s_0 := s, H_0 := H, env := cenv, outer := X.stack, stack := cenv :: X.stack, ex := fp, fn := fun _ => false, calm := true, pn := [], xe := fun _ _ => False }
section
variable {X : Cx} {pins : List (Addr × Obj)} {σ : L2.St} {H : Hp} {s : Shared}
theorem gen_start {AY : Around} {scope : Scope} {own : List (Str × Nat)} {fp : List Addr} {code : Value} {cenv : Env} {h' : Heap} {g' : Array GenState} {t' : Nat} {m0 : Str → Option Value}
    (I : Inv X pins σ H s) (ok : BlkOk X.N X.env.scope scope own) (hN : X.N.Nodup) (hfp : ∀ b ∈ fp, FpOk X pins H b ∧ b < s.heap.objs.size)
    (hce : cenv = genEnv scope (cloFrom X.env.cells scope.names []) s.heap.objs.size code builtinsNs X.env) (hcell : ∀ y ∈ scope.names, y.2 ≠ .cell) (hAh : AY.handled = none) (hAf : AY.frames = some (cenv :: X.stack))
    (hns : h'.Ns s.heap.objs.size m0) (kp : ∀ b o, s.heap.get? b = some o → h'.get? b = some o) (hb : PyProof.Rows.AllBare g') :
    Inv (genCx X AY s H cenv fp) [] (wipe σ (own.map (·.2))) H { s with heap := h', gens := g', toks := t' } := by
  have hfree : ∀ y ∈ scope.names, y.2 = .free → ∃ c, X.env.cells.lookup y.1 = some c := fun y hy e => (ok.free y hy e).elim (fun k => I.ok.has _ (.inl k)) fun k => I.ok.has _ (.inr k)
  have hL : cenv.locals = s.heap.objs.size := by rw [hce]; rfl
  have hcl : cenv.cells = cloFrom X.env.cells scope.names [] := by rw [hce]; rfl
  have hsc : cenv.scope = scope := by rw [hce]; rfl
  have cm : ∀ {y c}, cenv.cells.lookup y = some c → X.env.cells.lookup y = some c ∧ c < s.heap.objs.size := fun {y c} e => by
    rw [hcl] at e
    rcases cloFrom_mem (PySem.mem_of_lookup e) with hm | ⟨h1, e2⟩
    · cases hm
    · obtain ⟨c1, hc⟩ := hfree _ h1 rfl
      have hc : X.env.cells.lookup y = some c1 := hc
      have e3 : c = c1 := by rw [e2, hc]; rfl
      subst e3
      obtain ⟨_, z⟩ := I.cell _ _ hc
      exact ⟨hc, z.lt⟩
  have look : ∀ {y}, scope.names.lookup y = some .free → ∃ c, cenv.cells.lookup y = some c := fun {y} hl => by
    rw [hcl]
    exact mem_lookup (cloFrom_has (cells := X.env.cells) (acc := []) (PySem.mem_of_lookup hl))
  have okY : (genCx X AY s H cenv fp).Ok := by
    refine ⟨I.ok.mod, by show cenv.scope.kind = _; rw [hsc]; exact ok.kind, by show cenv.globals = _; rw [hce]; exact I.ok.glob, by show cenv.builtins = _; rw [hce]; rfl, by show s.heap.objs.size ≤ cenv.locals; rw [hL]; exact Nat.le_refl _,
      fun y z c e1 e2 => I.ok.inj y z c (cm e1).1 (cm e2).1, fun y hy => ?_, (fun y c z _ => by cases z), fun _ => hAh, hAf, .inr ⟨rfl, by show cenv.frame = some cenv.locals; rw [hce]; rfl⟩, fun b hb => ⟨?_, fun y c e z => ?_⟩, I.bs, Nat.le_trans I.ok.bsz I.sz, fun b o e hb => ?_, fun b hb z => ?_, I.stack, I.stkFree⟩
    · have hy : scope.names.lookup y = some .cell ∨ scope.names.lookup y = some .free := by
        have hy' : cenv.scope.names.lookup y = some .cell ∨ cenv.scope.names.lookup y = some .free := hy
        rw [hsc] at hy'
        exact hy'
      rcases hy with hy | hy
      · exact absurd rfl (hcell _ (PySem.mem_of_lookup hy))
      · exact look hy
    · show b ≠ cenv.locals
      rw [hL]; exact Nat.ne_of_lt (hfp b hb).2
    · exact (hfp b hb).1.2.2.2.2.1 y c (cm e).1 z
    · rcases (hfp b hb).1.2.2.2.1 with z | z
      · exact I.ok.noex b o e z
      · exact absurd (Nat.lt_of_lt_of_le (Heap.lt_size e) (Nat.le_trans I.ok.bsz z)) (Nat.lt_irrefl _)
    · rcases List.mem_cons.mp (I.stkSub b z) with z | z
      · exact (hfp b hb).1.2.1 z
      · exact (hfp b hb).1.2.2.1 z
  refine ⟨okY, rfl, hb, Un.kept kp, ⟨m0, by show h'.Ns cenv.locals m0; rw [hL]; exact hns, fun i y av e1 e2 e3 => ?_⟩, fun y c e => ?_, ?_, fun y c e => ?_, fun p hp => absurd (show p ∈ ([] : List (Addr × Obj)) ++ [] from hp) (by simp), I.hok.kept kp, by rw [wipe_length]; exact I.len⟩
  · obtain ⟨e2, hne⟩ := wipe_some e2
    have no : ∀ k, scope.names.lookup y = some k → k = .local ∨ k = .cell → False := fun k e hh => by
      rcases ok.own _ (PySem.mem_of_lookup e) hh with e' | e'
      · obtain ⟨p, hp, hpy⟩ := List.mem_map.mp e'
        have e3 := ok.ix p hp
        have : p.1 = y := hpy
        rw [this] at e3
        exact hne (List.mem_map.mpr ⟨p, hp, nodup_ix hN e3 e1⟩)
      · exact e' (List.mem_of_getElem? e1)
    have e3 : Vis cenv.scope y := e3
    rw [hsc] at e3
    have hfr : scope.names.lookup y = some .free := by
      rcases e3 with e3 | e3 | e3
      · exact (no _ e3 (.inl rfl)).elim
      · exact (no _ e3 (.inr rfl)).elim
      · exact e3
    obtain ⟨m, hn, hl⟩ := I.loc
    have hvis : Vis X.env.scope y := (ok.free _ (PySem.mem_of_lookup hfr) rfl).elim (fun k => .inr (.inl k)) (fun k => .inr (.inr k))
    obtain ⟨w, r, q⟩ := hl i y av e1 e2 hvis
    obtain ⟨c, h1⟩ := look hfr
    refine ⟨w, r, .inr ⟨.inr (by show cenv.scope.names.lookup y = _; rw [hsc]; exact hfr), c, h1, ?_⟩⟩
    rcases q with ⟨k, _⟩ | ⟨_, c', e', z⟩
    · have k : X.env.scope.names.lookup y = some .local := k
      rcases ok.free _ (PySem.mem_of_lookup hfr) rfl with k' | k' <;> rw [show X.env.scope.names.lookup y = _ from k'] at k <;> cases k
    · rw [(cm h1).1] at e'; cases e'
      exact z.keeps kp
  · obtain ⟨w, z⟩ := I.cell y c (cm e).1
    exact ⟨w, z.keeps kp⟩
  · show H cenv.locals = none
    rw [hL]; exact I.hok.fresh (Nat.le_refl _)
  · exact I.freeC y c (cm e).1
end
end DL

/-! the body of a generator expression, from yield to yield -/
namespace DL
open PySem PySem.Spec L2
section
variable {Y : Cx} {Γ : Type} {γ : Heap → Γ}
/-- what is said of each yield: as, the consumer's objects; W, what is wanted ahead of each turn; Yd, what is known of a value that is handed out -/
def gY (Y : Cx) (γ : Heap → Γ) (n : Nat) (as fp : List Addr) (σw : L2.St) (tn : Nat → Heap → Prop) (W : Nat → Γ → Hp → Prop) (Yd : Nat → Γ → V → Hp → Prop) : Protocol := fun m s₀ v s kap =>
  ∃ i y H, i < n ∧ n - (i + 1) + 1 ≤ m ∧ RelV y v ∧ Inv Y (pinsAt as s₀.heap) σw H s ∧ tn (i + 1) s.heap ∧ (∀ b ∈ fp, H b = none) ∧ Yd i (γ s₀.heap) y H ∧ ∀ s', Inv Y (pinsAt as s'.heap) σw H s' → tn (i + 1) s'.heap → W (i + 1) (γ s'.heap) H → kap (.send .none) s'
def gR (Y : Cx) (γ : Heap → Γ) (as : List Addr) (σw : L2.St) (End : Γ → Hp → Prop) : Nat → Shared → Shared → Prop := fun _ s₀ s₁ => ∃ H, Inv Y (pinsAt as s₀.heap) σw H s₁ ∧ End (γ s₀.heap) H
structure GStep {Γ : Type} (n : Nat) (J : It) (g : TG) (tt : TT) (te : TE) (vs : List Nat) (σw : L2.St) (W : Nat → Γ → Hp → Prop) (Yd : Nat → Γ → V → Hp → Prop) (End : Γ → Hp → Prop) : Prop where
  go : ∀ h i H, i < n → W i h H → J.go i H ∧ ∀ x H', J.yld i H x H' → g x σw H' fun σ2 H2 => wipe σ2 vs = σw ∧ tt σ2 H2 fun b H3 => if b = true then te σ2 H3 fun y H4 => Yd i h y H4 else W (i + 1) h H3
  stop : ∀ h H, W n h H → J.stop n H ∧ End h H
theorem gen_seg {A : Around} {elt tg iter : Expr} {ifs : List Expr} {scope : Scope} {pos : Pos} {it : Addr} {as fp : List Addr} {n : Nat} {J : It} {tn : Nat → Heap → Prop} {g : TG} {tt : TT} {te : TE} {vs : List Nat} {σw : L2.St} {W : Nat → Γ → Hp → Prop} {Yd : Nat → Γ → V → Hp → Prop} {End : Γ → Hp → Prop}
    (hA : A.over (.compLoop (.GeneratorExp elt [⟨tg, iter, ifs, 0⟩] scope pos) 0 (.ref it) .none Y.env) [] = Y.A) (hc : Y.calm = true) (hpn : Y.pn = []) (hex : Y.ex = fp) (hco : Y.env.scope.isCoroutine = false) (hd : ∀ b ∈ fp, b ∉ as)
    (T : Turn Y.prog Y.w Y.K tg J fp it tn) (hx : Y.xe = fun _ _ => False) (pg : PG Y tg g) (pt : PTs Y ifs tt) (pe : PE Y elt te) (G : GStep n J g tt te vs σw W Yd End) :
    ∀ (k i : Nat) (s₀ s : Shared) (H : Hp) (m : Nat), n - i = k → i ≤ n → k + 1 ≤ m → Inv Y (pinsAt as s₀.heap) σw H s → tn i s.heap → (∀ b ∈ fp, H b = none) → W i (γ s₀.heap) H →
      Seg (model Y.prog Y.w) A (fun n s₀ r s₁ => r = .ok .next ∧ gR Y γ as σw End n s₀ s₁) (gY Y γ n as fp σw tn W Yd) m s₀
        (.compLoop (.GeneratorExp elt [⟨tg, iter, ifs, 0⟩] scope pos) 0 (.ref it) .none Y.env) ((model Y.prog Y.w).den (.compLoop (.GeneratorExp elt [⟨tg, iter, ifs, 0⟩] scope pos) 0 (.ref it) .none Y.env)) [] s := by
  have stat : ∀ {s₀ : Shared} {σ' : L2.St} {H' : Hp} {s' : Shared}, Inv Y (pinsAt as s₀.heap) σ' H' s' → (∀ b ∈ fp, H' b = none) → ∀ b ∈ fp, FpOk Y (pinsAt as s₀.heap) H' b := fun {s₀ σ' H' s'} I' hn b hb =>
    ⟨hn b hb, (I'.ok.exf b (by rw [hex]; exact hb)).1, I'.ok.exfs b (by rw [hex]; exact hb), .inl (by rw [hex]; exact hb), fun x c e => (I'.ok.exf b (by rw [hex]; exact hb)).2 x c e, fun p hp z => by
      rw [hpn] at hp
      exact hd b hb (by rw [← z]; exact (of_pinsAt (show p ∈ pinsAt as s₀.heap from hp)).1)⟩
  intro k
  induction k with
  | zero =>
    intro i s₀ s H m hk hi hm I st hn w
    have e : i = n := by omega
    subst e
    obtain ⟨stop, en⟩ := G.stop (γ s₀.heap) H w
    show Seg _ A _ _ _ s₀ _ ((compTurn (.GeneratorExp elt [⟨tg, iter, ifs, 0⟩] scope pos) 0 (.ref it) .none Y.env).onRaise (leaving Y.env)) [] s
    rw [compTurn_gen, Sem.onRaise_eq_wrap]
    refine seg_bind_wrap (wpAny_standAt ?_)
    have td := T.done Y rfl rfl rfl hc i _ s _ H (fun _ _ => False) I (stat I hn) st stop
    rw [← hA] at td
    refine seg_bind_wrap (thnF td fun r s1 ⟨hr, I1⟩ => ?_)
    subst hr
    exact seg_end (.ok .next) ⟨rfl, H, I1, en⟩
  | succ k ih =>
    intro i s₀ s H m hk hi hm I st hn w
    have hlt : i < n := by omega
    obtain ⟨go, step⟩ := G.go (γ s₀.heap) i H hlt w
    show Seg _ A _ _ _ s₀ _ ((compTurn (.GeneratorExp elt [⟨tg, iter, ifs, 0⟩] scope pos) 0 (.ref it) .none Y.env).onRaise (leaving Y.env)) [] s
    rw [compTurn_gen, Sem.onRaise_eq_wrap]
    refine seg_bind_wrap (wpAny_standAt ?_)
    have ti := T.item Y rfl rfl rfl hc i _ s _ H (fun _ _ => False) I (stat I hn) st go
    rw [← hA] at ti
    refine seg_bind_wrap (thnF ti fun r s1 ⟨u, hr, h1⟩ => ?_)
    subst hr
    refine seg_bind_wrap (thnF h1 fun _ s7 ⟨x, H7, I7, r7, y7, st7, n7⟩ => ?_)
    have I7' := I7.pinned (stat I7 n7) (T.obj _ _ st7)
    have ag := pg.run _ s7 _ H7 x u _ I7' r7 (step x H7 y7)
    rw [hx, ← hA] at ag
    refine seg_bind_wrap (thnF ag fun _ s8 ⟨σ8, H8, I8, hw8, q8⟩ => ?_)
    have at_ := pt.run _ s8 σ8 H8 _ I8 q8
    rw [hx, ← hA] at at_
    refine seg_bind_wrap (thnF at_ fun b s9 ⟨H9, I9, q9⟩ => ?_)
    have fin : ∀ {s' : Shared} {H' : Hp}, Inv Y (pinsAt as s₀.heap ++ pinsAt fp s7.heap) σ8 H' s' → Inv Y (pinsAt as s₀.heap) σw H' s' ∧ tn (i + 1) s'.heap ∧ ∀ b ∈ fp, H' b = none := fun {s' H'} I' => by
      have pin' : ∀ b ∈ fp, ∀ o, s7.heap.get? b = some o → s'.heap.get? b = some o ∧ H' b = none := fun b hb o e =>
        let z := I'.pin (b, o) (List.mem_append_right _ (List.mem_append_right _ (mem_pinsAt hb e)))
        ⟨z.1, z.2.1⟩
      have hl : σw.length = σ8.length := by rw [← hw8, wipe_length]
      refine ⟨(I'.unpinned (pins := pinsAt as s₀.heap)).weak hl (fun j v e => ?_), T.keep _ _ _ st7 fun b hb o e => (pin' b hb o e).1, fun b hb => ?_⟩
      · rw [← hw8] at e
        exact (wipe_some e).1
      · obtain ⟨o, e, _⟩ := T.obj _ _ st7 b hb
        exact (pin' b hb o e).2
    cases b with
    | false =>
      simp only [Bool.false_eq_true, if_false] at q9 ⊢
      obtain ⟨Ia, sta, na⟩ := fin I9
      exact seg_again rfl (ih (i + 1) s₀ s9 H9 m (by omega) hlt (by omega) Ia sta na q9)
    | true =>
      simp only [if_true] at q9 ⊢
      have hy : ∀ v, yieldOut Y.env v = yieldValue v := fun v => by simp only [yieldOut, hco, Bool.false_eq_true, if_false]
      simp only [hy]
      rw [Sem.bind_eq_wrap', Sem.bind_eq_wrap', Sem.wrap_wrap, Sem.wrap_wrap]
      have ae := pe.run _ s9 σ8 H9 _ I9 q9
      rw [hx, ← hA] at ae
      refine seg_wrap (thnF ae fun v s10 ⟨yv, H10, I10, r10, yd⟩ => ?_)
      obtain ⟨Ia, sta, na⟩ := fin I10
      obtain ⟨m', rfl⟩ : ∃ m', m = m' + 1 := ⟨m - 1, by omega⟩
      refine seg_at (seg_yield rfl rfl rfl ⟨i, yv, H10, hlt, by omega, r10, Ia, sta, na, yd, fun s' I' st' w' => ?_⟩)
      exact seg_again rfl (ih (i + 1) s' s' H10 m' (by omega) hlt (by omega) I' st' na w')
theorem gen_seg0 {A : Around} {elt tg iter : Expr} {ifs : List Expr} {scope : Scope} {pos : Pos} {it : Addr} {as fp : List Addr} {n : Nat} {J : It} {tn : Nat → Heap → Prop} {g : TG} {tt : TT} {te : TE} {vs : List Nat} {σw : L2.St} {W : Nat → Γ → Hp → Prop} {Yd : Nat → Γ → V → Hp → Prop} {End : Γ → Hp → Prop}
    (hA : A.over (.compLoop (.GeneratorExp elt [⟨tg, iter, ifs, 0⟩] scope pos) 0 (.ref it) .none Y.env) [] = Y.A) (hc : Y.calm = true) (hpn : Y.pn = []) (hex : Y.ex = fp) (hco : Y.env.scope.isCoroutine = false) (hd : ∀ b ∈ fp, b ∉ as)
    (T : Turn Y.prog Y.w Y.K tg J fp it tn) (hx : Y.xe = fun _ _ => False) (pg : PG Y tg g) (pt : PTs Y ifs tt) (pe : PE Y elt te) (G : GStep n J g tt te vs σw W Yd End)
    {s₀ s : Shared} {H : Hp} (I : Inv Y (pinsAt as s₀.heap) σw H s) (st : tn 0 s.heap) (hn : ∀ b ∈ fp, H b = none) (w : W 0 (γ s₀.heap) H) :
      Seg (model Y.prog Y.w) A (fun n s₀ r s₁ => r = .ok .next ∧ gR Y γ as σw End n s₀ s₁) (gY Y γ n as fp σw tn W Yd) (n + 1) s₀
        (.compStart (.GeneratorExp elt [⟨tg, iter, ifs, 0⟩] scope pos) 0 (.ref it) .none Y.env) ((model Y.prog Y.w).den (.compStart (.GeneratorExp elt [⟨tg, iter, ifs, 0⟩] scope pos) 0 (.ref it) .none Y.env)) [] s := by
  have loop := gen_seg (γ := γ) hA hc hpn hex hco hd T hx pg pt pe G n 0 s₀ s H (n + 1) (Nat.sub_zero _) (Nat.zero_le _) (Nat.le_refl _) I st hn w
  show Seg _ A _ _ _ s₀ _ ((compStart (.GeneratorExp elt [⟨tg, iter, ifs, 0⟩] scope pos) 0 (.ref it) .none Y.env).onRaise (leaving Y.env)) [] s
  unfold compStart
  rw [Sem.onRaise_eq_wrap]
  show Seg _ A _ _ _ s₀ _ ((ask >>= _).wrap _ _ _ _) [] s
  refine seg_bind_wrap (wpAny_askSetting ?_)
  split
  · exact seg_again rfl loop
  · refine seg_bind_wrap (wpAny_rule ?_)
    show Seg _ A _ _ _ s₀ _ ((standAt iter.pos >>= _).wrap _ _ _ _) [] s
    exact seg_bind_wrap (wpAny_standAt (seg_bind_wrap (T.self _ 0 s _ _ st (seg_again rfl loop))))
end
end DL

/-! the consumer's side of a generator expression -/
namespace DL
open PySem PySem.Spec L2
section
variable {Γ : Type} {γ : Heap → Γ} {Y : Cx} {A : Around} {as fp : List Addr} {n : Nat} {tn : Nat → Heap → Prop} {σw : L2.St} {W : Nat → Γ → Hp → Prop} {Yd : Nat → Γ → V → Hp → Prop} {End : Γ → Hp → Prop}
/-- woken in any state that is as it was, it goes on -/
def Rest (γ : Heap → Γ) (Y : Cx) (A : Around) (n : Nat) (as fp : List Addr) (σw : L2.St) (tn : Nat → Heap → Prop) (W : Nat → Γ → Hp → Prop) (Yd : Nat → Γ → V → Hp → Prop) (End : Γ → Hp → Prop) (i : Nat) (H : Hp) (gs : GenState) (m : Nat) : Prop :=
  ∀ s', Inv Y (pinsAt as s'.heap) σw H s' → tn i s'.heap → W i (γ s'.heap) H → gs.Goes (model Y.prog Y.w) A.in1 (fun n s₀ r s₁ => r = .ok .next ∧ gR Y γ as σw End n s₀ s₁) (gY Y γ n as fp σw tn W Yd) m (.send .none) s'
/-- the generator a, number gi, at rest ahead of turn i -/
structure GAt (γ : Heap → Γ) (Y : Cx) (A : Around) (n : Nat) (as fp : List Addr) (σw : L2.St) (tn : Nat → Heap → Prop) (W : Nat → Γ → Hp → Prop) (Yd : Nat → Γ → V → Hp → Prop) (End : Γ → Hp → Prop) (a : Addr) (gi i m : Nat) (H : Hp) (s : Shared) : Prop where
  isg : s.heap.IsGen a gi
  inv : Inv Y (pinsAt as s.heap) σw H s
  tni : tn i s.heap
  fpn : ∀ b ∈ fp, H b = none
  alive : ∀ b ∈ as, ∃ o, s.heap.get? b = some o
  gen : ∃ gs, s.gens[gi]? = some gs ∧ n - i + 1 ≤ m ∧ Rest γ Y A n as fp σw tn W Yd End i H gs m
theorem Inv.gens {pins : List (Addr × Obj)} {σ : L2.St} {H : Hp} {s : Shared} {g' : Array GenState} {h' : Heap} {t' : Nat} (I : Inv Y pins σ H s) (hb : PyProof.Rows.AllBare g') (k : ∀ b o, s.heap.get? b = some o → h'.get? b = some o) : Inv Y pins σ H { s with heap := h', gens := g', toks := t' } := by
  refine I.step (g' := g') (d' := s.drawn) (ch := []) (fun b hb => absurd hb (by simp)) (fun b o _ _ _ e _ => k b o e) (fun b o _ _ _ e _ => ⟨o.slots, k b o e⟩) (fun _ _ _ _ q => q) (fun b o _ e => ⟨o, k b o e⟩) (fun _ _ q => q) (fun _ _ _ q => q) (fun b ps q => ⟨#[], by rw [q]; simp⟩) (fun m hm => ?_) (fun b u q => ?_) hb
  · exact hm.keeps k
  · exact (I.hok b u q).stay (fun c v _ y => k c v y) (fun _ y => y) fun _ _ y => y
theorem bare_set {gs : Array GenState} {g : Nat} {x : GenState} (h : PyProof.Rows.AllBare gs) (hx : x.bare = true) : PyProof.Rows.AllBare (gs.setIfInBounds g x) := fun y hy => by
  obtain ⟨i, hi, rfl⟩ := Array.mem_iff_getElem.mp hy
  rw [Array.getElem_setIfInBounds (by simpa using hi)]
  split
  · exact hx
  · exact h _ (Array.getElem_mem _)
theorem Inv.setGen {pins : List (Addr × Obj)} {σ : L2.St} {H : Hp} {s : Shared} {g : Nat} {x : GenState} (I : Inv Y pins σ H s) (hx : x.bare = true) : Inv Y pins σ H (s.setGen g x) :=
  Inv.gens (t' := s.toks) I (bare_set I.bare hx) fun _ _ e => e
/-- the consumer's objects as they stand -/
theorem Inv.repin {σ : L2.St} {H : Hp} {s s0 : Shared} (hl : ∀ b ∈ as, ∃ o, s0.heap.get? b = some o) (I : Inv Y (pinsAt as s0.heap) σ H s) : Inv Y (pinsAt as s.heap) σ H s ∧ ∀ b ∈ as, ∀ o, s0.heap.get? b = some o → s.heap.get? b = some o := by
  have pin : ∀ b ∈ as, ∀ o, s0.heap.get? b = some o → s.heap.get? b = some o := fun b hb o e => (I.pin (b, o) (List.mem_append_right _ (mem_pinsAt hb e))).1
  refine ⟨I.pins_of fun p hp => ?_, pin⟩
  obtain ⟨h1, h2⟩ := of_pinsAt hp
  obtain ⟨o, e⟩ := hl p.1 h1
  have e2 := pin _ h1 o e
  rw [h2] at e2
  cases e2
  exact I.pin _ (List.mem_append_right _ (mem_pinsAt h1 e))
theorem gen_next {a : Addr} {gi i m : Nat} {H : Hp} {s : Shared} {Q : Option Value → Shared → Prop} {E : Value → Shared → Prop} (hh : A.handled = none) (hroom : A.depth < recursionLimit) (ha : a ∈ as) (G : GAt γ Y A n as fp σw tn W Yd End a gi i (m + 1) H s) (w : W i (γ s.heap) H)
    (hsome : ∀ v s' i' y H', i' < n → RelV y v → GAt γ Y A n as fp σw tn W Yd End a gi (i' + 1) m H' s' → Yd i' (γ s.heap) y H' → (∀ b ∈ as, ∀ o, s.heap.get? b = some o → s'.heap.get? b = some o) → Q (some v) s')
    (hnone : ∀ s' H', Inv Y (pinsAt as s.heap) σw H' s' → End (γ s.heap) H' → Q none s') : wpAny (model Y.prog Y.w) A (pyNext (.ref a)) Q E s := by
  obtain ⟨gs, hgs, hm, rest⟩ := G.gen
  have hlt : gi + 1 ≤ s.gens.size := by
    rcases Nat.lt_or_ge gi s.gens.size with h' | h'
    · exact h'
    · rw [Array.getElem?_eq_none h'] at hgs; cases hgs
  refine GenW.wpAny_gsz hlt ?_
  refine wpAny_pyNext_genexpQ (P := gR Y γ as σw End) (Y := gY Y γ n as fp σw tn W Yd) (n := m + 1) hh G.inv.nolimit hroom G.isg hgs (rest _ (Inv.setGen (g := gi) G.inv rfl) G.tni w) (fun v s1 gs' hb hv hsz => ?_) (fun s1 hp h' hk _ => ?_)
  · obtain ⟨i', y, H', h1, h2, h3, h4, h5, h6, h7, h8⟩ := hv
    have hI : Inv Y (pinsAt as s.heap) σw H' s1 := h4
    obtain ⟨hI2, pin⟩ := Inv.repin (s0 := s) G.alive hI
    have hsz' : gi < s1.gens.size := by
      have : (s1.setGen gi gs').gens.size = s1.gens.size := by simp [Shared.setGen]
      omega
    obtain ⟨o, nm, qn, ho, r⟩ := G.isg
    refine hsome v _ i' y H' h1 h3 ⟨⟨o, nm, qn, pin a ha o ho, r⟩, Inv.setGen hI2 hb, h5, h6, fun b hb => ?_, gs', by simp [Shared.setGen, hsz'], h2, fun s' I' t' w' => h8 s' I' t' w'⟩ h7 pin
    obtain ⟨o, e⟩ := G.alive b hb
    exact ⟨o, pin b hb o e⟩
  · obtain ⟨H', hI, en⟩ := hp
    have hI : Inv Y (pinsAt as s.heap) σw H' s1 := hI
    exact hnone _ H' (Inv.gens (s := s1) (g' := (s1.setGen gi .finished).gens) (h' := h') (t' := s1.toks) hI (bare_set hI.bare rfl) hk) en
end
end DL

/-! any, all over a generator expression -/
namespace DL
open PySem PySem.Spec L2
section
variable {Γ : Type} {γ : Heap → Γ} {Y : Cx} {A : Around} {as fp : List Addr} {n : Nat} {tn : Nat → Heap → Prop} {σw : L2.St} {W : Nat → Γ → Hp → Prop} {Yd : Nat → Γ → V → Hp → Prop} {End : Γ → Hp → Prop} {a : Addr} {gi : Nat} {R : Result → Shared → Prop} {Fin : Bool → Hp → Prop}
theorem any_loop (hh : A.handled = none) (hroom : A.in1.depth < recursionLimit) (ha : a ∈ as) (hY : ∀ i h h' y H, Yd i h y H → ∃ b, y = .bl b ∧ (b = true → Fin true H) ∧ (b = false → W (i + 1) h' H)) (hE : ∀ h H, End h H → Fin false H)
    (hR : ∀ b H' s' pins, Inv Y pins σw H' s' → Fin b H' → R (.ok (.ret (.bool b))) s') :
    ∀ (m i : Nat) (H : Hp) (s : Shared), GAt γ Y A.in1 n as fp σw tn W Yd End a gi i m H s → W i (γ s.heap) H → codeAny (model Y.prog Y.w) A (.builtin "any.loop" ⟨[.ref a], []⟩) R s := by
  intro m
  induction m with
  | zero =>
    intro i H s G w
    obtain ⟨_, _, h, _⟩ := G.gen
    omega
  | succ m ih =>
    intro i H s G w
    refine codeAny_builtin F.entry_any_loop ?_
    rw [Around.under_plainId F.plain_any_loop _]
    show wpAny _ A.in1 (pyNext (.ref a) >>= _) _ _ s
    refine wpAny_bind (gen_next (A := A.in1) hh hroom ha G w (fun v s' i' y H' h1 rv G' yd _ => ?_) (fun s' H' I' en => ?_))
    · obtain ⟨b, rfl, h2, h3⟩ := hY i' (γ s.heap) (γ s'.heap) y H' yd
      obtain rfl : v = Value.bool b := rv
      refine wpAny_bind (wpAny_holding (wpAny_truthy_bool ?_))
      refine wpAny_bind (wpAny_letGo ?_)
      cases b with
      | false =>
        simp only [Bool.false_eq_true, if_false]
        exact wpAny_pure ⟨plainId_quiet F.plain_any_loop _, ih (i' + 1) H' s' G' (h3 rfl)⟩
      | true =>
        simp only [if_true]
        exact wpAny_bind (wpAny_rule (wpAny_pure (hR true H' s' _ G'.inv (h2 rfl))))
    · exact wpAny_bind (wpAny_rule (wpAny_pure (hR false H' s' _ I' (hE _ H' en))))
end
theorem GAt.turned {Γ : Type} {γ : Heap → Γ} {Y : Cx} {A : Around} {as fp : List Addr} {n : Nat} {tn : Nat → Heap → Prop} {σw : L2.St} {W : Nat → Γ → Hp → Prop} {Yd : Nat → Γ → V → Hp → Prop} {End : Γ → Hp → Prop} {a S : Addr} {gi i m : Nat} {H : Hp} {s : Shared} {h' : Heap} {t' : Nat} {o' : Obj}
    (G : GAt γ Y A n as fp σw tn W Yd End a gi i m H s) (hS : S ∈ as) (hSa : S ≠ a) (hSf : S ∉ fp) (hst : ∀ b ∈ as, ∃ H0, FpOk Y [] H0 b) (tk : ∀ i h h', tn i h → (∀ b ∈ fp, ∀ o, h.get? b = some o → h'.get? b = some o) → tn i h') (hs : h'.get? S = some o') (hd : ∀ v, o'.data ≠ .cell v)
    (k : ∀ b o, b ≠ S → s.heap.get? b = some o → h'.get? b = some o) : GAt γ Y A n as fp σw tn W Yd End a gi i m H { s with heap := h', toks := t' } := by
  have hn : ∀ b ∈ as, H b = none := fun b hb => by
    obtain ⟨o, e⟩ := G.alive b hb
    exact (G.inv.pin (b, o) (List.mem_append_right _ (mem_pinsAt hb e))).2.1
  have I0 : Inv Y [] σw H s := G.inv.pins_of fun p hp => nomatch hp
  obtain ⟨H0, _, f1, f2, f3, f4, f5⟩ := hst S hS
  have I1 : Inv Y [] σw H { s with heap := h', toks := t' } := I0.turned (t' := t') k (hn S hS) f1 f3 f4 f5
  obtain ⟨o, nm, qn, ho, r⟩ := G.isg
  refine ⟨⟨o, nm, qn, k a o (Ne.symm hSa) ho, r⟩, I1.pins_of fun p hp => ?_, tk _ _ _ G.tni fun b hb o e => k b o (fun z => hSf (by rw [← z]; exact hb)) e, G.fpn, fun b hb => ?_, G.gen⟩
  · obtain ⟨h1, h2⟩ := of_pinsAt hp
    obtain ⟨H0, _, f1, f2, _⟩ := hst p.1 h1
    refine ⟨h2, hn _ h1, f1, f2, ?_⟩
    by_cases z : p.1 = S
    · rw [z] at h2
      have h2 : h'.get? S = some p.2 := h2
      rw [hs] at h2; cases h2; exact hd
    · obtain ⟨o, e⟩ := G.alive p.1 h1
      have h2 : h'.get? p.1 = some p.2 := h2
      rw [k _ o z e] at h2
      have h3 : o = p.2 := Option.some.inj h2
      rw [← h3]
      exact (G.inv.pin (p.1, o) (List.mem_append_right _ (mem_pinsAt h1 e))).2.2.2.2
  · by_cases z : b = S
    · exact ⟨o', by rw [z]; exact hs⟩
    · obtain ⟨o, e⟩ := G.alive b hb
      exact ⟨o, k b o z e⟩
section
variable {Y : Cx} {A : Around} {as fp : List Addr} {n : Nat} {tn : Nat → Heap → Prop} {σw : L2.St} {W : Nat → Int → Hp → Prop} {Yd : Nat → Int → V → Hp → Prop} {End : Int → Hp → Prop} {a S : Addr} {gi : Nat} {R : Result → Shared → Prop} {Fin : Int → Hp → Prop}
end
end DL

/-! the making of a generator expression -/
namespace DL
open PySem PySem.Spec L2
theorem over_gen {A : Around} {elt tg iter : Expr} {ifs : List Expr} {scope : Scope} {pos : Pos} {it acc : Value} {env : Env} : A.over (.compLoop (.GeneratorExp elt [⟨tg, iter, ifs, 0⟩] scope pos) 0 it acc env) [] = A.deeper env := by
  first
    | rfl
    | (obtain ⟨hd, d, fr, gs, u⟩ := A; simp [Around.over, Around.deeper, marksOver, frameCount, unitsOf, envsOf, guardsOf, pushEnvs, pushGuards, Code.envs, Code.env?, Code.isFrame, Code.guards, Code.isGuard, Code.weight, Code.frames, Code.isCreation, Code.isCaller, Code.cUnits])
section
variable {X : Cx} {pins : List (Addr × Obj)} {σ : L2.St} {H : Hp} {s : Shared}
/-- the code object of a generator expression is new, or found in the table -/
theorem gen_code {T : Tbl} {c P : Addr} {scope : Scope} {gpos : Pos} {E : Value → Shared → Prop} {Q : Value → Addr → Shared → Prop} (I : Inv X pins σ H s) (TB : LamX.TabB X.base X.mg c P) (hcode : X.env.code = .ref c)
    (hm : ∃ e ∈ T, e.1 = P) (hu : ∀ e ∈ T, e.1 = P → e.2.2 gpos.line gpos.col = false) (hT : Tabs T H)
    (h : ∀ (cv : Value) (H1 : Hp) (s' : Shared), Inv X pins σ H1 s' → LamX.ExtN H H1 → Tabs T H1 → s.heap.objs.size ≤ s'.heap.objs.size → (∀ b o, H b = none → s.heap.get? b = some o → s'.heap.get? b = some o ∧ H1 b = none) → Q cv builtinsNs s') :
    wpAny (model X.prog X.w) X.A (genexprCode X.env gpos (X.env.qual ++ "<genexpr>") scope) (fun code s₃ => wpAny (model X.prog X.w) X.A (builtinsFor X.env.globals X.env.builtins) (fun bi s₄ => Q code bi s₄) E s₃) E s := by
  obtain ⟨e0, m0, p0⟩ := hm
  obtain ⟨ps, hP, ht, _⟩ := hT e0 m0
  rw [p0] at hP
  have hPs : s.heap.get? P = some { cls := .none, data := .fields ps } := I.hok P _ hP
  have cd : PySem.W.CodeHd s.heap c P := TB.code.keeps I.bk
  have bl : ∀ {h' : Heap} {tk : Nat} {cv : Value}, (∀ b o, b ≠ P → s.heap.get? b = some o → h'.get? b = some o) → Q cv builtinsNs { s with heap := h', toks := tk } →
      wpAny (model X.prog X.w) X.A (builtinsFor X.env.globals X.env.builtins) (fun bi s₄ => Q cv bi s₄) E { s with heap := h', toks := tk } := fun {h' tk cv} k q => by
    obtain ⟨bm, ob, e1, e2, e3, e4, e5, e6, e7, e8⟩ := TB.bm
    obtain ⟨og, es, ep, hg, r⟩ := I.mod.glob.keeps I.bk
    exact wpAny_builtinsFor (m := X.mg) (by rw [I.ok.glob]; exact ⟨og, es, ep, k _ og TB.gP hg, r⟩) e1 e2 (k _ _ e4 (I.bk _ _ e5)) e6 e7 e8 q
  cases hc : codeAmong gpos ps.toList with
  | none =>
    refine wpAny_genexprCodeX hcode (cd.code hPs ht) (cd.tab hPs) hc fun c' h' tk hx hge hlt hco' hrec htab' _ => ?_
    obtain ⟨c2, oc, vs, t, e2, hoc, hd, hv⟩ := hrec
    cases e2
    have nC : H c' = none := I.hok.fresh hge
    have I1 := LamX.inv_table (t' := tk) (more := #[rawInt gpos.line, rawInt gpos.col, .ref c']) (h' := h') I hP hx htab'.2 hge ⟨oc, vs, t, hoc, hd, hv⟩
    have hE : LamX.ExtN H (upd (upd H P (.tbl (ps ++ #[rawInt gpos.line, rawInt gpos.col, .ref c']))) c' (LamX.CodeO c' (X.env.qual ++ "<genexpr>"))) := fun b o e n => by
      rw [upd_ne (ne_of_none e nC), upd_ne (fun z => n ps (Option.some.inj (e.symm.trans (by rw [z]; exact hP))))]
      exact e
    have eL : (ps ++ #[rawInt gpos.line, rawInt gpos.col, .ref c']).toList = ps.toList ++ [rawInt gpos.line, rawInt gpos.col, .ref c'] := by simp
    refine bl hx (h (.ref c') _ _ I1 hE (fun p hp => ?_) (Nat.le_trans hge (Nat.le_of_lt hlt)) fun b o hb e => ?_)
    · obtain ⟨es, a1, a2, a3⟩ := hT p hp
      by_cases hb : p.1 = P
      · rw [hb] at a1 ⊢
        rw [hP] at a1
        cases a1
        refine ⟨_, by rw [upd_ne (ne_of_none hP nC), upd_same], by rw [eL]; exact PySem.TriplesOk_snoc _ _ _ _ ht, fun at_ hl cv hcv => ?_⟩
        rw [eL] at hcv
        rcases among_snoc _ ht hcv with z | ⟨_, z1, z2⟩
        · obtain ⟨c0, e1, e2⟩ := a3 at_ hl cv z
          exact ⟨c0, e1, hE _ _ e2 LamX.codeO_ne⟩
        · have := hu p hp hb
          rw [z1, z2, hl] at this
          cases this
      · refine ⟨es, by rw [upd_ne (ne_of_none a1 nC), upd_ne hb]; exact a1, a2, fun at_ hl cv hcv => ?_⟩
        obtain ⟨c0, e1, e2⟩ := a3 at_ hl cv hcv
        exact ⟨c0, e1, hE _ _ e2 LamX.codeO_ne⟩
    · have hbP : b ≠ P := fun z => by rw [z, hP] at hb; cases hb
      have hbc : b ≠ c' := Nat.ne_of_lt (Nat.lt_of_lt_of_le (Heap.lt_size e) hge)
      exact ⟨hx b o hbP e, by rw [upd_ne hbc, upd_ne hbP]; exact hb⟩
  | some cv =>
    refine wpAny_genexprCode_hit hcode (cd.code hPs ht) hc ?_
    exact bl (h' := s.heap) (tk := s.toks) (fun _ _ _ e => e) (h cv H s I (LamX.ExtN.refl H) hT (Nat.le_refl _) fun b o hb e => ⟨e, hb⟩)
/-- the generator expression's own scope -/
structure GenSc (scope : Scope) : Prop where
  co : scope.isCoroutine = false
  cell : ∀ y ∈ scope.names, y.2 ≠ .cell
  dot : scope.names.lookup (".0" : Str) = some NameKind.local
def genScB (scope : Scope) : Bool := !scope.isCoroutine && (scope.names.all fun y => !decide (y.2 = .cell)) && decide (scope.names.lookup (".0" : Str) = some NameKind.local)
theorem genSc_by {scope : Scope} (h : genScB scope = true) : GenSc scope := by
  unfold genScB at h
  simp only [Bool.and_eq_true, Bool.not_eq_true', decide_eq_true_eq, decide_eq_false_iff_not, List.all_eq_true] at h
  exact ⟨h.1.1, h.1.2, h.2⟩
abbrev gEnv (X : Cx) (scope : Scope) (L : Addr) (code : Value) : Env := genEnv scope (cloFrom X.env.cells scope.names []) L code builtinsNs X.env
/-- the generator a, number gi, has been made in the state s5; Y its body's context -/
structure Mk (X : Cx) (pins : List (Addr × Obj)) (σ : L2.St) (g : TG) (tt : TT) (te : TE) (vs : List Nat) (Y : Cx) (J : It) (fp : List Addr) (tn : Nat → Heap → Prop) (a : Addr) (gi : Nat) (H2 : Hp) (s5 : Shared) : Prop where
  inv : Inv Y [] (wipe σ vs) H2 s5
  isg : s5.heap.IsGen a gi
  tn0 : tn 0 s5.heap
  keep : ∀ i h h', tn i h → (∀ b ∈ fp, ∀ o, h.get? b = some o → h'.get? b = some o) → tn i h'
  fpn : ∀ b ∈ fp, H2 b = none
  fpl : ∀ b ∈ fp, b < a
  fpa : FpOk Y [] H2 a
  sz : s5.heap.objs.size = a + 1
  obj : ∃ o, s5.heap.get? a = some o ∧ ∀ v, o.data ≠ .cell v
  gst : ∃ gs, s5.gens[gi]? = some gs ∧ ∀ (Γ : Type) (γ : Heap → Γ) (n : Nat) (as : List Addr) (W : Nat → Γ → Hp → Prop) (Yd : Nat → Γ → V → Hp → Prop) (End : Γ → Hp → Prop), (∀ b ∈ fp, b ∉ as) → GStep n J g tt te vs (wipe σ vs) W Yd End → Rest γ Y X.A.in1 n as fp (wipe σ vs) tn W Yd End 0 H2 gs (n + 1)
  prog : Y.prog = X.prog
  w : Y.w = X.w
  back : ∀ pins' σ' H' s', Inv Y pins' σ' H' s' → Inv X pins σ H' s'
theorem gen_made {T : Tbl} {c P : Addr} {elt tg iter : Expr} {ifs : List Expr} {scope : Scope} {own : List (Str × Nat)} {gpos : Pos} {wi : TI} {g : TG} {tt : TT} {te : TE} {k : Nat} {Q' : Value → Shared → Prop} {R : It → Hp → Prop}
    (hr : Room (k + 1) X.A) (hN : X.N.Nodup) (TB : LamX.TabB X.base X.mg c P) (hcode : X.env.code = .ref c) (hm : ∃ e ∈ T, e.1 = P) (hu : ∀ e ∈ T, e.1 = P → e.2.2 gpos.line gpos.col = false) (S : GenSc scope)
    (hi : PI X tg iter wi) (ok : BlkOk X.N X.env.scope scope own)
    (hg : ∀ (AY : Around) (s : Shared) (H : Hp) (L : Addr) (code : Value) (fp : List Addr), Room k AY → PG (genCx X AY s H (gEnv X scope L code) fp) tg g)
    (ht : ∀ (AY : Around) (s : Shared) (H : Hp) (L : Addr) (code : Value) (fp : List Addr), Room k AY → PTs (genCx X AY s H (gEnv X scope L code) fp) ifs tt)
    (he : ∀ (AY : Around) (s : Shared) (H : Hp) (L : Addr) (code : Value) (fp : List Addr), Room k AY → PE (genCx X AY s H (gEnv X scope L code) fp) elt te)
    (hs : ∀ v, genFold iter X.env v = pure v) (I : Inv X pins σ H s) (h : wi σ H fun J H1 => Tabs T H1 ∧ ∀ H2, LamX.ExtN H1 H2 → Tabs T H2 → R J H2)
    (hQ : ∀ (Y : Cx) (J : It) (fp : List Addr) (tn : Nat → Heap → Prop) (a : Addr) (gi : Nat) (H2 : Hp) (s5 : Shared), R J H2 → Mk X pins σ g tt te (own.map (·.2)) Y J fp tn a gi H2 s5 → Q' (.ref a) s5) :
    wpAny (model X.prog X.w) X.A (eval (.GeneratorExp elt [⟨tg, iter, ifs, 0⟩] scope gpos) X.env) Q' X.xe s := by
  have hfree : ∀ y ∈ scope.names, y.2 = .free → ∃ c, X.env.cells.lookup y.1 = some c := fun y hy e => (ok.free y hy e).elim (fun k => I.ok.has _ (.inl k)) fun k => I.ok.has _ (.inr k)
  refine wpAny_GeneratorExp_make S.co (closure_ok hfree) S.cell S.dot ok.kind (by have := hr.dp; omega) ?_ hs
  refine thn (hi.run pins s σ H _ I h) fun xv s1 hx => thn hx fun itv s2 h2 => ?_
  obtain ⟨it, fp, tn, J, H1, e, I2, Tn, st2, f2, hT1, q⟩ := h2
  subst e
  refine ⟨I2.nolimit, gen_code I2 TB hcode hm hu hT1 fun cv H2 s4 I4 x4 t4 sz4 k4 => ?_⟩
  have q2 := q H2 x4 t4
  intro h' hns hsb
  have st4 : tn 0 s4.heap := Tn.keep _ _ _ st2 fun b hb o e => (k4 b o (f2 b hb).1 e).1
  have f4 : ∀ b ∈ fp, FpOk X pins H2 b ∧ b < s4.heap.objs.size := fun b hb => by
    obtain ⟨o, e, _⟩ := Tn.obj _ _ st2 b hb
    exact ⟨⟨(k4 b o (f2 b hb).1 e).2, (f2 b hb).2⟩, Nat.lt_of_lt_of_le (Heap.lt_size e) sz4⟩
  have kp1 : ∀ b o, s4.heap.get? b = some o → h'.get? b = some o := fun b o e => hsb.extBut b o (Nat.ne_of_lt (Heap.lt_size e)) (Heap.get?_push_of_some _ e)
  have sz1 : h'.objs.size = s4.heap.objs.size + 1 := by rw [hsb.1, Heap.size_push]
  generalize hAY : X.A.in1.in1.deeper (gEnv X scope s4.heap.objs.size cv) = AY
  have rY : Room k AY := by
    rw [← hAY]
    exact ⟨hr.hd, by have := hr.dp; show X.A.depth + 1 + 3 * k + 5 < _; omega, by have := hr.un; show X.A.units + 1 + 1 + 3 + 16 * k + 200 < _; omega⟩
  have fY : AY.frames = some (gEnv X scope s4.heap.objs.size cv :: X.stack) := by
    rw [← hAY]; exact Around.frames_deeper I.ok.frames
  have I5a := gen_start (AY := AY) (fp := fp) (t' := s4.toks) (g' := s4.gens) (h' := h') (code := cv) I4 ok hN f4 rfl S.cell rY.hd fY hns kp1 I4.bare
  have I5 := gen_start (AY := AY) (fp := fp) (t' := s4.toks + 1 + 1 + 1) (g' := s4.gens.push (.fresh (.compStart (.GeneratorExp elt [⟨tg, iter, ifs, 0⟩] scope gpos) 0 (.ref it) .none (gEnv X scope s4.heap.objs.size cv)))) (h' := h'.push { cls := .type "generator", data := .fields #[.int s4.gens.size 0, .str "<genexpr>" (s4.toks + 1), .str (X.env.qual ++ "<genexpr>") (s4.toks + 1 + 1)] }) (code := cv) I4 ok hN f4 rfl S.cell rY.hd fY (hns.push _) (fun b o e => Heap.get?_push_of_some _ (kp1 b o e)) (I4.bare.push rfl)
  refine hQ (genCx X AY s4 H2 (gEnv X scope s4.heap.objs.size cv) fp) J fp tn h'.objs.size s4.gens.size H2 _ q2 ⟨I5, ⟨_, _, _, Heap.get?_push_size _ rfl, rfl, rfl, rfl⟩, Tn.keep _ _ _ st4 fun b hb o e => Heap.get?_push_of_some _ (kp1 b o e), Tn.keep, fun b hb => (f4 b hb).1.1, fun b hb => ?_, ?_, Heap.size_push .., ⟨_, Heap.get?_push_size _ rfl, fun v z => by cases z⟩, ?_, rfl, rfl, ?_⟩
  · rw [sz1]; exact Nat.lt_succ_of_lt (f4 b hb).2
  · exact I5a.fpOk (Nat.le_refl _) (I4.hok.fresh (by rw [sz1]; exact Nat.le_succ _))
  · refine ⟨_, Array.getElem?_push_size .., fun Γ γ n as W Yd End hd G s' I' t' w' => ?_⟩
    refine ⟨rfl, ?_⟩
    exact gen_seg0 (γ := γ) (A := X.A.in1.in1) (Y := genCx X AY s4 H2 (gEnv X scope s4.heap.objs.size cv) fp) (s₀ := s') (by rw [over_gen]; exact hAY) rfl rfl rfl S.co hd Tn rfl (hg AY s4 H2 s4.heap.objs.size cv fp rY) (ht AY s4 H2 s4.heap.objs.size cv fp rY) (he AY s4 H2 s4.heap.objs.size cv fp rY) G I' t' (fun b hb => (f4 b hb).1.1) w'
  · intro pins' σ' H' s' I'
    exact I4.call' (ch := fp) I'.os I'.base I'.hok I'.bare fun b hb => ⟨(f4 b hb).1.2.2.2.1, (f4 b hb).1.2.1, (f4 b hb).1.2.2.2.2.1, (f4 b hb).1.2.2.2.2.2⟩
end
end DL

/-! any, all, sum of a generator expression -/
namespace DL
open PySem PySem.Spec L2
section
variable {X : Cx} {N : Nm} {E : XK}
/-- all that a generator expression asks -/
structure Gx (X : Cx) (T : Tbl) (k : Nat) (elt tg iter : Expr) (ifs : List Expr) (scope : Scope) (own : List (Str × Nat)) (wi : TI) (g : TG) (tt : TT) (te : TE) (gp : Pos) : Prop where
  hr : Room (k + 1) X.A
  hN : X.N.Nodup
  code : ∃ c P, LamX.TabB X.base X.mg c P ∧ X.env.code = .ref c ∧ (∃ e ∈ T, e.1 = P) ∧ ∀ e ∈ T, e.1 = P → e.2.2 gp.line gp.col = false
  sc : GenSc scope
  hi : PI X tg iter wi
  ok : BlkOk X.N X.env.scope scope own
  hg : ∀ (AY : Around) (s : Shared) (H : Hp) (L : Addr) (code : Value) (fp : List Addr), Room k AY → PG (genCx X AY s H (gEnv X scope L code) fp) tg g
  ht : ∀ (AY : Around) (s : Shared) (H : Hp) (L : Addr) (code : Value) (fp : List Addr), Room k AY → PTs (genCx X AY s H (gEnv X scope L code) fp) ifs tt
  he : ∀ (AY : Around) (s : Shared) (H : Hp) (L : Addr) (code : Value) (fp : List Addr), Room k AY → PE (genCx X AY s H (gEnv X scope L code) fp) elt te
  hs : ∀ v, genFold iter X.env v = pure v
variable {T : Tbl} {k : Nat} {elt tg iter : Expr} {ifs : List Expr} {scope : Scope} {own : List (Str × Nat)} {wi : TI} {g : TG} {tt : TT} {te : TE}
theorem Mk.at {pins : List (Addr × Obj)} {σ : L2.St} {vs : List Nat} {Y : Cx} {J : It} {fp : List Addr} {tn : Nat → Heap → Prop} {a : Addr} {gi : Nat} {H2 : Hp} {s5 : Shared} (M : Mk X pins σ g tt te vs Y J fp tn a gi H2 s5)
    {Γ : Type} {γ : Heap → Γ} {n : Nat} {W : Nat → Γ → Hp → Prop} {Yd : Nat → Γ → V → Hp → Prop} {End : Γ → Hp → Prop} (G : GStep n J g tt te vs (wipe σ vs) W Yd End) : GAt γ Y X.A.in1 n [a] fp (wipe σ vs) tn W Yd End a gi 0 (n + 1) H2 s5 := by
  obtain ⟨gs, hgs, rest⟩ := M.gst
  have ia : Inv Y ([] ++ pinsAt [a] s5.heap) (wipe σ vs) H2 s5 := M.inv.pinned (fun b hb => by rw [List.mem_singleton.mp hb]; exact M.fpa) fun b hb => by rw [List.mem_singleton.mp hb]; exact M.obj
  refine ⟨M.isg, ia, M.tn0, M.fpn, fun b hb => ?_, gs, hgs, by omega, rest Γ γ n [a] W Yd End (fun b hb z => ?_) G⟩
  · rw [List.mem_singleton.mp hb]; obtain ⟨o, e, _⟩ := M.obj; exact ⟨o, e⟩
  · have := M.fpl b hb
    rw [List.mem_singleton.mp z] at this
    exact Nat.lt_irrefl _ this
/-- any (p = true), all (p = false) -/
def tQst (p : Bool) (T : Tbl) (wi : TI) (g : TG) (tt : TT) (te : TE) (vs : List Nat) : TE := fun σ H Q => wi σ H fun J H1 => Tabs T H1 ∧ ∀ H2, LamX.ExtN H1 H2 → Tabs T H2 →
  ∃ (n : Nat) (W : Nat → Unit → Hp → Prop) (Yd : Nat → Unit → V → Hp → Prop) (End : Unit → Hp → Prop), GStep n J g tt te vs (wipe σ vs) W Yd End ∧ W 0 () H2 ∧ (∀ i y H, Yd i () y H → ∃ b, y = .bl b ∧ (b = p → Q (.bl p) H) ∧ (b = !p → W (i + 1) () H)) ∧ ∀ H, End () H → Q (.bl !p) H
theorem pe_gany {p pos gpos : Pos} (hg : Gl X "any") (hm : X.mg "any" = none) (G : Gx X T k elt tg iter ifs scope own wi g tt te gpos)
    (he : starEach [.GeneratorExp elt [⟨tg, iter, ifs, 0⟩] scope gpos] X.env = (false, eval (.GeneratorExp elt [⟨tg, iter, ifs, 0⟩] scope gpos) X.env) :: starEach [] X.env := by rfl) :
    PE X (.Call (.Name "any" p) [.GeneratorExp elt [⟨tg, iter, ifs, 0⟩] scope gpos] [] pos) (tQst true T wi g tt te (own.map (·.2))) := by
  refine ⟨fun pins s σ H Q I h => ?_⟩
  refine wpAny_Call_Name_kw (ld_blt I hg hm PyProof.Rows.boot_any ?_)
  refine PyProof.Rows.callWith_builtin1 ?_ he (by rfl)
  rw [he]
  show wpAny _ _ (spliced ((false, eval (.GeneratorExp elt [⟨tg, iter, ifs, 0⟩] scope gpos) X.env) :: backTo pos (starEach [] X.env))) _ _ s
  obtain ⟨c, P, TB, hcode, hmT, hu⟩ := G.code
  refine Calls.spliced_cons (gen_made (R := fun J H2 => ∃ (n : Nat) (W : Nat → Unit → Hp → Prop) (Yd : Nat → Unit → V → Hp → Prop) (End : Unit → Hp → Prop), GStep n J g tt te (own.map (·.2)) (wipe σ (own.map (·.2))) W Yd End ∧ W 0 () H2 ∧ (∀ i y H, Yd i () y H → ∃ b, y = .bl b ∧ (b = true → Q (.bl true) H) ∧ (b = !true → W (i + 1) () H)) ∧ ∀ H, End () H → Q (.bl !true) H)
    G.hr G.hN TB hcode hmT hu G.sc G.hi G.ok G.hg G.ht G.he G.hs I h fun Y J fp tn a gi H2 s5 hR M => ?_)
  obtain ⟨n, W, Yd, End, GS, w0, hY, hE⟩ := hR
  refine Calls.spliced_nil ?_
  refine call_function_tree F.kind_any F.plain_any F.entry_any (F.args_any1 _) ?_
  unfold Builtin.«any»
  refine wpAny_bind (m := oneArg "any" _) (wpAny_pure ?_)
  refine wpAny_bind (wpAny_pyIter_gen M.isg ?_)
  refine wpAny_pure ⟨plainId_quiet F.plain_any_loop _, ?_⟩
  rw [← M.prog, ← M.w]
  exact any_loop (γ := fun _ => ()) (A := X.A) (as := [a]) (Fin := fun b H => Q (.bl b) H) G.hr.hd (by have := G.hr.dp; show X.A.depth < _; omega) (List.mem_singleton.mpr rfl) (fun i h h' y H yd => hY i y H yd) (fun h H en => hE H en) (fun b H' s' pins' I' f => ⟨.bl b, H', M.back _ _ _ _ I', rfl, f⟩) (n + 1) 0 H2 s5 (M.at GS) w0
end
end DL

/-! any, all, sum: the readings -/
namespace DL
open PySem PySem.Spec L2
def qstD (p : Bool) (g : CG) (t : CT) (e : CE) (σ : SD) (k : Bool → Hd → Bool) : List D → Hd → Bool
  | [], η => k (!p) η
  | d :: ds, η => g d σ η (fun σ1 η1 => t σ1 η1 (fun b η2 => match b with
    | true => e σ1 η2 (fun y η3 => match y with
      | .bl c => match Bool.xor c p with
        | true => qstD p g t e σ k ds η3
        | false => k p η3
      | _ => false) kF
    | false => qstD p g t e σ k ds η2) kF) kF
def cQst (p : Bool) (i : CI) (g : CG) (t : CT) (e : CE) (vs : List Nat) : CE := fun σ η kv kx => i σ η (fun it η1 => qstD p g t e (wipeD σ vs) (fun b η2 => kv (.bl b) (it.un η2)) it.l (it.fr η1)) kx
section
variable {X : Cx} {N : Nm} {E : XK}
/-- the world ahead of the walk, when the table has grown -/
theorem grown_walk {K : PySem.W.Frag} {W1 : Wl} {it : Its} {H2 : Hp} (o1 : W1.Ok K N.toNames) (fz : FzOk W1 it) (x2 : LamX.ExtN W1.H H2) (t2 : Tabs N.tabs H2) :
    Ext (it.w W1) ⟨W1.μ, it.fr W1.η, H2⟩ ∧ Wl.Ok K N.toNames ⟨W1.μ, it.fr W1.η, H2⟩ := by
  obtain ⟨xf, of⟩ := Its.froze o1 fz
  exact of.grown x2 t2
theorem qst_of {E' : XK} {K : PySem.W.Frag} {p : Bool} {ci : CI} {g : CG} {t : CT} {e : CE} {vs : List Nat} {σ : St} {H : Hp} {Q : VK} (h : tE K N E (cQst p ci g t e vs) σ H Q) : tQst p N.tabs (tI K N E ci) (tGw K N vs g) (tT K N E' t) (tE K N E' e) vs σ H Q := by
  obtain ⟨W, σd, kv, kx, rfl, o, s, h, hv, hx⟩ := h
  refine ⟨W, σd, _, kx, rfl, o, s, h, fun W1 it J x1 o1 fz wk h1 => ⟨o1.tab, fun H2 x2 t2 => ?_⟩, hx⟩
  obtain ⟨xf, of⟩ := Its.froze o1 fz
  obtain ⟨xs, os⟩ := grown_walk o1 fz x2 t2
  have s0 : RelS (it.w W1) (wipeD σd vs) (wipe σ vs) := ((s.mono o x1).mono o1 xf).wipe vs
  have fin : ∀ (W2 : Wl) (b : Bool), Ext (it.w W1) W2 → W2.Ok K N.toNames → kv (.bl b) (it.un W2.η) = true → Q (.bl b) W2.H := fun W2 b x o2 hb => by
    obtain ⟨xt, ot⟩ := Its.thaw o1 fz x o2
    exact hv ⟨W2.μ, it.un W2.η, W2.H⟩ (.bl b) (.bl b) (x1.trans o o1 xt) ot (by rw [RelD]) hb
  refine ⟨it.l.length, fun i _ H => i ≤ it.l.length ∧ ∃ W2, W2.H = H ∧ Ext (it.w W1) W2 ∧ W2.Ok K N.toNames ∧ qstD p g t e (wipeD σd vs) (fun b η2 => kv (.bl b) (it.un η2)) (it.l.drop i) W2.η = true,
    fun i _ y H => i < it.l.length ∧ ∃ W2 c, W2.H = H ∧ y = .bl c ∧ Ext (it.w W1) W2 ∧ W2.Ok K N.toNames ∧ (match Bool.xor c p with
      | true => qstD p g t e (wipeD σd vs) (fun b η2 => kv (.bl b) (it.un η2)) (it.l.drop (i + 1)) W2.η
      | false => kv (.bl p) (it.un W2.η)) = true,
    fun _ H => ∃ W2, W2.H = H ∧ Ext (it.w W1) W2 ∧ W2.Ok K N.toNames ∧ kv (.bl !p) (it.un W2.η) = true, ⟨?_, ?_⟩, ⟨Nat.zero_le _, _, rfl, xs, os, h1⟩, ?_, ?_⟩
  · rintro _ i H hlt ⟨hi, W2, rfl, xw, o2, h2⟩
    have s2 : RelS W2 (wipeD σd vs) (wipe σ vs) := s0.mono of xw
    refine ⟨wk.go W2 i (xw.sty of) o2 hlt, fun y H3 hy => ?_⟩
    obtain ⟨W3, d, e3, x3, o3, eH, eη, r3⟩ := wk.yld W2 i y H3 (xw.sty of) o2 hlt hy
    subst eH
    have ed : it.l.drop i = d :: it.l.drop (i + 1) := by
      rw [List.drop_eq_getElem_cons hlt]
      have : it.l[i] = d := by
        have := List.getElem?_eq_getElem hlt
        rw [this] at e3; exact Option.some.inj e3
      rw [this]
    rw [ed] at h2
    refine ⟨W3, d, wipeD σd vs, _, rfl, o3, r3, s2.mono o2 x3, (by rw [eη]; exact h2), fun W4 σd4 σ4 x4 o4 s4 w4 h4 => ⟨w4.trans (wipe_wipe vs σ), ?_⟩⟩
    refine tT.bind (kx := kF) o4 s4 Xk.never h4 fun W5 b x5 o5 s5 hx5 h5 => ?_
    have x25 : Ext (it.w W1) W5 := xw.trans of o2 (x3.trans o2 o3 (x4.trans o3 o4 x5))
    cases b with
    | true =>
      rw [if_pos rfl]
      refine tE.bind (kx := kF) o5 s5 Xk.never h5 fun W6 dy vy x6 o6 r6 s6 hx6 h6 => ?_
      cases dy with
      | bl c =>
        rw [RelD] at r6
        exact ⟨hlt, W6, c, rfl, r6, x25.trans of o5 x6, o6, h6⟩
      | _ => cases h6
    | false =>
      rw [if_neg (by decide)]
      exact ⟨hlt, W5, rfl, x25, o5, h5⟩
  · rintro _ H ⟨hi, W2, rfl, xw, o2, h2⟩
    rw [List.drop_length] at h2
    exact ⟨wk.stop W2 (xw.sty of) o2, W2, rfl, xw, o2, h2⟩
  · rintro i y H ⟨hlt, W2, c, rfl, rfl, xw, o2, h2⟩
    refine ⟨c, rfl, fun ec => ?_, fun ec => ?_⟩
    · subst ec
      rw [Bool.xor_self] at h2
      exact fin W2 _ xw o2 h2
    · subst ec
      have e : Bool.xor (!p) p = true := by cases p <;> rfl
      rw [e] at h2
      exact ⟨hlt, W2, rfl, xw, o2, h2⟩
  · rintro H ⟨W2, rfl, xw, o2, h2⟩
    exact fin W2 _ xw o2 h2
/-- what a generator expression asks, by readings -/
structure GxD (X : Cx) (N : Nm) (E E' : XK) (k : Nat) (elt tg iter : Expr) (ifs : List Expr) (scope : Scope) (own : List (Str × Nat)) (ci : CI) (g : CG) (t : CT) (e : CE) (gp : Pos) : Prop where
  hr : Room (k + 1) X.A
  hN : X.N.Nodup
  code : ∃ c P, LamX.TabB X.base X.mg c P ∧ X.env.code = .ref c ∧ (∃ e ∈ N.tabs, e.1 = P) ∧ ∀ e ∈ N.tabs, e.1 = P → e.2.2 gp.line gp.col = false
  sc : genScB scope = true
  hi : JI X N E tg iter ci
  ok : BlkOk X.N X.env.scope scope own
  hg : ∀ (AY : Around) (s : Shared) (H : Hp) (L : Addr) (code : Value) (fp : List Addr), Room k AY → JGw (genCx X AY s H (gEnv X scope L code) fp) N (own.map (·.2)) tg g
  ht : ∀ (AY : Around) (s : Shared) (H : Hp) (L : Addr) (code : Value) (fp : List Addr), Room k AY → JTs (genCx X AY s H (gEnv X scope L code) fp) N E' ifs t
  he : ∀ (AY : Around) (s : Shared) (H : Hp) (L : Addr) (code : Value) (fp : List Addr), Room k AY → JE (genCx X AY s H (gEnv X scope L code) fp) N E' elt e
  hs : ∀ v, genFold iter X.env v = pure v
variable {E' : XK} {k : Nat} {elt tg iter : Expr} {ifs : List Expr} {scope : Scope} {own : List (Str × Nat)} {ci : CI} {g : CG} {t : CT} {e : CE} {p pos gpos : Pos}
theorem GxD.gx (G : GxD X N E E' k elt tg iter ifs scope own ci g t e gpos) : Gx X N.tabs k elt tg iter ifs scope own (tI X.K N E ci) (tGw X.K N (own.map (·.2)) g) (tT X.K N E' t) (tE X.K N E' e) gpos :=
  ⟨G.hr, G.hN, G.code, genSc_by G.sc, G.hi, G.ok, G.hg, G.ht, G.he, G.hs⟩
theorem je_gany (hg : Gl X "any") (hm : X.mg "any" = none) (G : GxD X N E E' k elt tg iter ifs scope own ci g t e gpos)
    (he : starEach [.GeneratorExp elt [⟨tg, iter, ifs, 0⟩] scope gpos] X.env = (false, eval (.GeneratorExp elt [⟨tg, iter, ifs, 0⟩] scope gpos) X.env) :: starEach [] X.env := by rfl) :
    JE X N E (.Call (.Name "any" p) [.GeneratorExp elt [⟨tg, iter, ifs, 0⟩] scope gpos] [] pos) (cQst true ci g t e (own.map (·.2))) := PE.imp (pe_gany hg hm G.gx he) fun σ H Q q => qst_of q
end
end DL

/-! sum, min of lists, count, three names at once, o[i] op= e -/
namespace DL
open PySem PySem.Spec L2
section
variable {X : Cx} {N : Nm} {E : XK}
/-! ### sum -/
/-! ### min of a list of rows of ints -/
section
variable {prog : Program} {w : World} {A : Around} {R : Result → Shared → Prop} {I : Addr} {fp wr : List Addr} {G : Array GenState → Array GenState → Prop} {n : Nat} {P : Nat → Value → Prop} {St : Nat → Shared → Prop}
end
end
end DL

/-! count, three names at once, o[i] op= e, tuple(reversed(..)) -/
namespace DL
open PySem PySem.Spec L2
section
variable {X : Cx} {N : Nm} {E : XK}
end
end DL

/-! tuple(reversed(t)), t a tuple -/
namespace DL
open PySem PySem.Spec PyProof.Rows L2 RT
section
variable {prog : Program} {w : World} {A : Around} {E : Value → Shared → Prop} {s : Shared}
end
section
variable {X : Cx} {N : Nm} {E : XK}
end
end DL

/-! the end: the tables of all top defs are empty -/
namespace DL
open PySem PySem.Spec PyProof.Rows L2 LamX
section
variable {N : Nm} {P : Program} {w : World} {K : PySem.W.Frag} {mg : Str → Option Value} {base : Heap}
/-- a def whose code object is known -/
theorem jf_defc {x qual : Str} {st : Stmt} {f c : Addr} {fd : FuncData} {Ns ps : List Str} {k : Nat} {b : CS} (F : Fun K x qual st f fd) (S : FnScope Ns ps (defScope st)) (hc : fd.code = .ref c)
    (hbody : ∀ (A : Around) (outer : List Env) (s : Shared) (H : Hp) (E : XK), Room k (A.deeper (PyProof.Rows.envOfC qual (defScope st) s.heap.objs.size f (.ref c))) → JB (cxOf (L2.CX P w) P w K mg base Ns qual (defScope st) f (.ref c) A outer s H E) N E (defBody st) b) :
    JF P w K mg base (k + 1) f fd ps N (cDef ps.length Ns.length b) := by
  obtain ⟨oc, od, kV, doc, pm, an, cdv, ct, osl, rfl, lk, hcd⟩ := F.ex
  have hc : cdv = .ref c := hc
  subst hc
  refine fn_of lk hcd S (fun vs H Q E h => ?_) (fun A outer s H vs Q E hr h => ?_)
  · obtain ⟨W, ds, kv, kx, _, _, r, h, _⟩ := h
    unfold cDef at h
    cases e : Nat.beq ds.length ps.length with
    | false => rw [e] at h; cases h
    | true => rw [← r.length]; exact Nat.eq_of_beq_eq_true e
  · obtain ⟨W, ds, kv, kx, rfl, o, r, h, hv, hx⟩ := h
    unfold cDef at h
    cases e : Nat.beq ds.length ps.length with
    | false => rw [e] at h; cases h
    | true =>
      rw [e] at h
      have el : ds.length = ps.length := Nat.eq_of_beq_eq_true e
      refine ⟨_, hbody A outer s W.H E hr, W, startD ps.length Ns.length ds, _, rfl, o, by rw [← el]; exact rel_start r, h, ⟨fun W' σd σ x o' s' e' => hv W' .non .non x o' mkNon e', hv, (fun _ _ _ _ _ _ e' => nomatch e'), (fun _ _ _ _ _ _ e' => nomatch e'), hx⟩⟩
/-- each table's name is told once -/
theorem tab_one {α : Type} {T : List (Addr × α)} (h : (T.map (·.1)).Nodup) {P : Addr} {q : α} (hm : (P, q) ∈ T) : ∀ p ∈ T, p.1 = P → p.2 = q := by
  induction T with
  | nil => cases hm
  | cons t T ih =>
    intro p hp e
    have h' := List.nodup_cons.mp (show (t.1 :: T.map (·.1)).Nodup from h)
    rcases List.mem_cons.mp hp with hp | hp
    · rcases List.mem_cons.mp hm with hm | hm
      · rw [hp, ← hm]
      · exact absurd (List.mem_map.mpr ⟨_, hm, by show P = t.1; rw [← e, hp]⟩) h'.1
    · rcases List.mem_cons.mp hm with hm | hm
      · exact absurd (List.mem_map.mpr ⟨p, hp, by rw [e, ← hm]⟩) h'.1
      · exact ih h'.2 hm p hp e
end
section
variable {X : Cx} {N : Nm} {E : XK}
end
end DL

/-! a for whose walk is cut into pieces -/
namespace DL
open PySem PySem.Spec L2
/-- a place within a walk: what is frozen meanwhile, what is left to be walked, the state -/
structure Pc where
  nb : Nat
  fz : Option (Nat × List D)
  rest : List D
  st : SD × Hd
def sameFz : Option (Nat × List D) → Option (Nat × List D) → Bool
  | none, none => true
  | some (a, l), some (b, m) => match Nat.beq a b with
    | true => eqL (same 8) l m
    | false => false
  | _, _ => false
/-- c stands here -/
def Pc.here (c : Pc) (fz : Option (Nat × List D)) (nb : Nat) (ds : List D) (σ : SD) (η : Hd) : Bool := match Nat.beq nb c.nb, Nat.ble nb c.st.2.nx with
  | true, true => match eqL (same 8) ds c.rest with
    | true => match sameFz fz c.fz with
      | true => leS c.st σ η
      | false => false
    | false => false
  | _, _ => false
section
variable {X : Cx} {N : Nm} {E : XK} {m : Nat}
end
end DL

/-! instances: attributes, methods, making -/
namespace DL
open PySem PySem.Spec L2
def clsS : Stmt → Nat → Stmt
  | .ClassDef _ _ _ body _ _ _ _ _ _ _, j => body.getD j (.Pass ⟨0, 0, 0, 0⟩)
  | s, _ => s
def fget (k : Nat) : List (Nat × D) → Option D
  | [] => none
  | p :: t => match Nat.beq p.1 k with
    | true => some p.2
    | false => fget k t
def fput (k : Nat) (d : D) : List (Nat × D) → List (Nat × D)
  | [] => [(k, d)]
  | p :: t => match Nat.beq p.1 k with
    | true => (p.1, d) :: t
    | false => p :: fput k d t
theorem fput_len (k : Nat) (d : D) : ∀ l, (fput k d l).length ≤ l.length + 1
  | [] => by simp [fput]
  | p :: t => by
    unfold fput
    cases Nat.beq p.1 k with
    | true => simp
    | false => simp [fput_len k d t]
theorem fld_inj {FL : List Str} (hn : FL.Nodup) (hq : ("?" : Str) ∉ FL) {k : Nat} (hk : k < FL.length) : ∀ j, FL.getD j "?" = FL.getD k "?" → j = k := by
  intro j e
  have ek : FL.getD k "?" = FL[k] := by rw [List.getD, List.getElem?_eq_getElem hk]; rfl
  by_cases hj : j < FL.length
  · have ej : FL.getD j "?" = FL[j] := by rw [List.getD, List.getElem?_eq_getElem hj]; rfl
    rw [ej, ek] at e
    exact (List.getElem_inj hn).mp e
  · have ej : FL.getD j "?" = "?" := by rw [List.getD, List.getElem?_eq_none (by omega)]; rfl
    rw [ej, ek] at e
    exact absurd (by rw [e]; exact List.getElem_mem hk) hq
theorem fld_no {FL : List Str} {m : Str} (h : m ∉ FL) (hq : m ≠ "?") : ∀ j, FL.getD j "?" ≠ m := by
  intro j e
  by_cases hj : j < FL.length
  · have ej : FL.getD j "?" = FL[j] := by rw [List.getD, List.getElem?_eq_getElem hj]; rfl
    rw [ej] at e
    exact h (by rw [← e]; exact List.getElem_mem hj)
  · have ej : FL.getD j "?" = "?" := by rw [List.getD, List.getElem?_eq_none (by omega)]; rfl
    rw [ej] at e
    exact hq e.symm
section
variable {W : Wl} {N : Names}
theorem RelFs.get {f : Str} {k : Nat} (hf : N.fld k = f) : ∀ {fs : List (Nat × D)} {gs : List (Str × V)} {d : D}, (∀ j, N.fld j = f → j = k) → RelFs W N fs gs → fget k fs = some d → ∃ v, gs.lookup f = some v ∧ RelD W d v
  | [], gs, d, hi, h, e => by cases e
  | (j, x) :: fs, gs, d, hi, h, e => by
    rw [RelFs] at h
    obtain ⟨v, gs', rfl, h1, h2⟩ := h
    unfold fget at e
    cases q : Nat.beq j k with
    | true =>
      rw [q] at e
      cases e
      have : j = k := Nat.eq_of_beq_eq_true q
      subst this
      exact ⟨v, by rw [hf]; simp [List.lookup], h1⟩
    | false =>
      rw [q] at e
      obtain ⟨v', l, r⟩ := RelFs.get hf hi h2 e
      refine ⟨v', ?_, r⟩
      have ne : ¬ f = N.fld j := fun z => by
        have := hi j z.symm
        rw [this, Nat.beq_refl] at q; cases q
      have ne' : (f == N.fld j) = false := by simpa using ne
      simp only [List.lookup, ne']
      exact l
theorem RelFs.no {f : Str} (hf : ∀ j, N.fld j ≠ f) : ∀ {fs : List (Nat × D)} {gs : List (Str × V)}, RelFs W N fs gs → gs.lookup f = none
  | [], gs, h => by rw [RelFs] at h; subst h; rfl
  | (j, x) :: fs, gs, h => by
    rw [RelFs] at h
    obtain ⟨v, gs', rfl, h1, h2⟩ := h
    have ne' : (f == N.fld j) = false := by simpa using fun z => hf j z.symm
    simp only [List.lookup, ne']
    exact RelFs.no hf h2
theorem RelFs.put {f : Str} {k : Nat} (hf : N.fld k = f) (hi : ∀ j, N.fld j = f → j = k) {d : D} {v : V} (r : RelD W d v) : ∀ {fs : List (Nat × D)} {gs : List (Str × V)}, RelFs W N fs gs → RelFs W N (fput k d fs) (putF f v gs)
  | [], gs, h => by
    rw [RelFs] at h; subst h
    show RelFs W N [(k, d)] [(f, v)]
    rw [RelFs]; exact ⟨v, [], by rw [hf], r, by rw [RelFs]⟩
  | (j, x) :: fs, gs, h => by
    rw [RelFs] at h
    obtain ⟨u, gs', rfl, h1, h2⟩ := h
    unfold fput
    cases q : Nat.beq j k with
    | true =>
      have : j = k := Nat.eq_of_beq_eq_true q
      subst this
      show RelFs W N ((j, d) :: fs) (if N.fld j = f then (N.fld j, v) :: gs' else _)
      rw [if_pos hf, RelFs]
      exact ⟨v, gs', rfl, r, h2⟩
    | false =>
      have ne : ¬ N.fld j = f := fun z => by
        have := hi j z
        rw [this, Nat.beq_refl] at q; cases q
      show RelFs W N ((j, x) :: fput k d fs) (if N.fld j = f then _ else (N.fld j, u) :: putF f v gs')
      rw [if_neg ne, RelFs]
      exact ⟨u, _, rfl, h1, RelFs.put hf hi r h2⟩
theorem RelFs.len : ∀ {fs : List (Nat × D)} {gs : List (Str × V)}, RelFs W N fs gs → fs.length = gs.length
  | [], gs, h => by rw [RelFs] at h; subst h; rfl
  | (j, x) :: fs, gs, h => by
    rw [RelFs] at h
    obtain ⟨u, gs', rfl, h1, h2⟩ := h
    simp [RelFs.len h2]
end
/-- the fields of an instance of class c -/
def insAt (c : Nat) (η : Hd) : D → Option (Nat × List (Nat × D))
  | .ref r => match η.get r with
    | some (.ins c' fs) => match Nat.beq c' c with
      | true => some (r, fs)
      | false => none
    | _ => none
  | _ => none
section
variable {X : Cx} {N : Nm} {E : XK}
theorem ins_of {K : PySem.W.Frag} {W : Wl} {c r : Nat} {d : D} {v : V} {fs : List (Nat × D)} (o : W.Ok K N.toNames) (rd : RelD W d v) (h : insAt c W.η d = some (r, fs)) : d = .ref r ∧ W.η.get r = some (.ins c fs) ∧ v = .ref (W.μ r) ∧ ∃ dx gs, W.H (W.μ r) = some (.ins (N.cls c) dx gs) ∧ RelFs W N.toNames fs gs ∧ fs.length ≤ 900 := by
  cases d with
  | ref q =>
    simp only [insAt] at h
    cases e : W.η.get q with
    | none => rw [e] at h; cases h
    | some cl =>
      rw [e] at h
      cases cl with
      | ins c' gs =>
        simp only at h
        cases e2 : Nat.beq c' c with
        | false => rw [e2] at h; cases h
        | true =>
          rw [e2] at h
          cases h
          have := Nat.eq_of_beq_eq_true e2
          subst this
          exact ⟨rfl, e, relRef rd, o.cell _ _ e⟩
      | _ => cases h
  | _ => cases h
def cFld (c k : Nat) (co : CE) : CE := fun σ η kv kx => co σ η (fun x η1 => match insAt c η1 x with
  | some (_, fs) => match fget k fs with
    | some d => kv d η1
    | none => false
  | none => false) kx
theorem je_fld {c k : Nat} {f : Str} {e : Expr} {pos : Pos} {ce : CE} (hC : Cls X.K (N.cls c)) (hA : NoAttr X.K (N.cls c) f) (hf : N.fld k = f) (hi : ∀ j, N.fld j = f → j = k) (he : JE X N E e ce) (hb : attributeBase e f X.env (eval e X.env) = eval e X.env := by rfl) :
    JE X N E (.Attribute e f pos) (cFld c k ce) := PE.imp (pe_fld he hb) fun σ H Q q => by
  obtain ⟨W, σd, kv, kx, rfl, o, s, h, hv, hx⟩ := q
  refine tE.bind o s hx h fun W1 d v x1 o1 r1 s1 hx1 h1 => ?_
  cases e : insAt c W1.η d with
  | none => rw [e] at h1; cases h1
  | some p =>
    obtain ⟨r, fs⟩ := p
    rw [e] at h1
    dsimp only at h1
    cases e2 : fget k fs with
    | none => rw [e2] at h1; cases h1
    | some d2 =>
      rw [e2] at h1
      obtain ⟨rfl, hg, rfl, dx, gs, hH, rf, _⟩ := ins_of o1 r1 e
      obtain ⟨v2, l2, r2⟩ := rf.get hf hi e2
      exact ⟨_, _, dx, gs, v2, rfl, hH, hC, hA, l2, hv W1 d2 v2 x1 o1 r2 h1⟩
def sFldS (c k : Nat) (co cv : CE) : CS := fun σ η K => cv σ η (fun y η1 => co σ η1 (fun x η2 => match insAt c η2 x with
  | some (r, fs) => match Nat.ble fs.length 800 with
    | true => K.nx σ (η2.set r (.ins c (fput k y fs)))
    | false => false
  | none => false) K.xc) K.xc
theorem js_fld {c k : Nat} {f : Str} {o value : Expr} {pos pos' : Pos} {co cv : CE} (hC : Cls X.K (N.cls c)) (hA : NoAttr X.K (N.cls c) f) (hf : N.fld k = f) (hi : ∀ j, N.fld j = f → j = k) (ho : JE X N E o co) (hv : JE X N E value cv)
    (hs : swapsWith value (some (.Attribute o f pos')) pos.line X.env = pure false := by rfl) : JS X N E (.Assign [.Attribute o f pos'] value pos) (sFldS c k co cv) := PS.imp (ps_fld ho hv hs) fun Z σ H q => by
  obtain ⟨W, σd, K, rfl, o, s, h, hk⟩ := q
  refine tE.bind o s hk.xc h fun W1 dy y x1 o1 r1 s1 hx1 h1 => ?_
  refine tE.bind o1 s1 hx1 h1 fun W2 d v x2 o2 r2 s2 hx2 h2 => ?_
  cases e : insAt c W2.η d with
  | none => rw [e] at h2; cases h2
  | some p =>
    obtain ⟨r, fs⟩ := p
    rw [e] at h2
    dsimp only at h2
    cases e2 : Nat.ble fs.length 800 with
    | false => rw [e2] at h2; cases h2
    | true =>
      rw [e2] at h2
      have hl : fs.length ≤ 800 := Nat.le_of_ble_eq_true e2
      obtain ⟨rfl, hg, rfl, dx, gs, hH, rf, _⟩ := ins_of o2 r2 e
      have hl2 := rf.len
      refine ⟨_, _, dx, gs, rfl, hH, hC, hA, by omega, ?_⟩
      obtain ⟨x3, o3⟩ := o2.put (c := .ins c (fput k dy fs)) (ob := .ins (N.cls c) dx (putF f y gs)) hg rfl (fun xx => ⟨dx, _, upd_same, ((rf.mono o2 xx).put hf hi ((r1.mono o1 x2).mono o2 xx)), by have := fput_len k dy fs; omega⟩)
      exact hk.nx _ σd σ (x1.trans o o1 (x2.trans o1 o2 x3)) o3 (s2.mono o2 x3) h2
def cMeth (c : Nat) (F : CF) (co : CE) (ca : CA) : CE := fun σ η kv kx => co σ η (fun x η1 => match insAt c η1 x with
  | some _ => ca σ η1 (fun ds η2 => F (x :: ds) η2 kv kx) kx
  | none => false) kx
theorem je_meth {c k : Nat} {m : Str} {f : Addr} {fd : FuncData} {ps : List Str} {F : CF} {o e : Expr} {es : List Expr} {apos pos : Pos} {co : CE} {ca : CA} {pl : Sem Bool} (hC : Cls X.K (N.cls c)) (hM : Meth X.K (N.cls c) m f) (hf : ∀ j, N.fld j ≠ m) (G : JF X.prog X.w X.K X.mg X.base k f fd ps N F) (hr : Room k X.A) (hb : Binds X.K fd ps [])
    (hx : Passes (L2.CX X.prog X.w) X E) (ho : JE X N E o co) (ha : JA X N E (e :: es) ca) (hst : starEach (e :: es) X.env = (false, eval e X.env) :: starEach es X.env := by rfl) (hpl : (backTo pos (starEach es X.env)).any (·.1) = false := by rfl)
    (ht : eval (.Call (.Attribute o m apos) (e :: es) [] pos) X.env = (do
      let ov ← eval o X.env
      standAt apos.atName
      let (f, first) ← holding [ov] (getMethod ov m pl)
      callWith pos f first (backTo pos (starEach (e :: es) X.env)) (backToKw pos (keywordEach [] X.env))) := by rfl) :
    JE X N E (.Call (.Attribute o m apos) (e :: es) [] pos) (cMeth c F co ca) := PE.imp (pe_meth (dvs := []) ho hC hM G hr hb .nil hx ha hst hpl ht) fun σ H Q q => by
  obtain ⟨W, σd, kv, kx, rfl, o, s, h, hv, hxx⟩ := q
  refine tE.bind o s hxx h fun W1 d v x1 o1 r1 s1 hx1 h1 => ?_
  cases e : insAt c W1.η d with
  | none => rw [e] at h1; cases h1
  | some p =>
    obtain ⟨r, fs⟩ := p
    rw [e] at h1
    obtain ⟨rfl, hg, rfl, dx, gs, hH, rf, _⟩ := ins_of o1 r1 e
    refine ⟨_, dx, gs, rfl, hH, rf.no hf, ?_⟩
    refine tAr.bind o1 s1 hx1 h1 fun W2 ds vs x2 o2 r2 s2 hx2 h2 => ?_
    rw [List.append_nil]
    exact ⟨W2, _, kv, kx, rfl, o2, RelDs.cons (r1.mono o1 x2) r2, h2, hv.mono o o2 (x1.trans o o1 x2), hx2⟩
def cMeth0 (c : Nat) (F : CF) (co : CE) : CE := fun σ η kv kx => co σ η (fun x η1 => match insAt c η1 x with
  | some _ => F [x] η1 kv kx
  | none => false) kx
theorem je_meth0 {c k : Nat} {m : Str} {f : Addr} {fd : FuncData} {ps : List Str} {F : CF} {o : Expr} {apos pos : Pos} {co : CE} {pl : Sem Bool} (hC : Cls X.K (N.cls c)) (hM : Meth X.K (N.cls c) m f) (hf : ∀ j, N.fld j ≠ m) (G : JF X.prog X.w X.K X.mg X.base k f fd ps N F) (hr : Room k X.A) (hb : Binds X.K fd ps [])
    (hx : Passes (L2.CX X.prog X.w) X E) (ho : JE X N E o co)
    (ht : eval (.Call (.Attribute o m apos) [] [] pos) X.env = (do
      let ov ← eval o X.env
      standAt apos.atName
      let (f, first) ← holding [ov] (getMethod ov m pl)
      callWith pos f first (backTo pos (starEach [] X.env)) (backToKw pos (keywordEach [] X.env))) := by rfl) :
    JE X N E (.Call (.Attribute o m apos) [] [] pos) (cMeth0 c F co) := PE.imp (pe_meth0 (dvs := []) ho hC hM G hr hb .nil hx ht) fun σ H Q q => by
  obtain ⟨W, σd, kv, kx, rfl, o, s, h, hv, hxx⟩ := q
  refine tE.bind o s hxx h fun W1 d v x1 o1 r1 s1 hx1 h1 => ?_
  cases e : insAt c W1.η d with
  | none => rw [e] at h1; cases h1
  | some p =>
    obtain ⟨r, fs⟩ := p
    rw [e] at h1
    obtain ⟨rfl, hg, rfl, dx, gs, hH, rf, _⟩ := ins_of o1 r1 e
    exact ⟨_, dx, gs, rfl, hH, rf.no hf, W1, _, kv, kx, rfl, o1, RelDs.cons r1 .nil, h1, hv.mono o o1 x1, hx1⟩
def cMake (c : Nat) (F : CF) (ca : CA) : CE := fun σ η kv kx => ca σ η (fun ds η1 => F (.ref η1.nx :: ds) (η1.new (.ins c [])) (fun v η2 => match v with
  | .non => kv (.ref η1.nx) η2
  | _ => false) kx) kx
theorem je_make {c k : Nat} {x : Str} {f : Addr} {fd : FuncData} {ps : List Str} {F : CF} {e : Expr} {es : List Expr} {p pos : Pos} {ca : CA} (M : L2.Mk X.K (N.cls c) f) (G : JF X.prog X.w X.K X.mg X.base k f fd ps N F) (hr : Room (k + 1) X.A) (hg : Gl X x) (hm : X.mg x = some (.ref (N.cls c))) (hb : Binds X.K fd ps [])
    (hx : Passes (L2.CX X.prog X.w) X E) (ha : JA X N E (e :: es) ca) (hdb : (x == ("__debug__" : Str)) = false := by decide) (hst : starEach (e :: es) X.env = (false, eval e X.env) :: starEach es X.env := by rfl) (hpl : (backTo pos (starEach es X.env)).any (·.1) = false := by rfl) :
    JE X N E (.Call (.Name x p) (e :: es) [] pos) (cMake c F ca) := PE.imp (pe_make (dvs := []) M G hr hg hm hb .nil hx ha hdb hst hpl) fun σ H Q q => by
  obtain ⟨W, σd, kv, kx, rfl, o, s, h, hv, hxx⟩ := q
  refine tAr.bind o s hxx h fun W1 ds vs x1 o1 r1 s1 hx1 h1 => ?_
  intro a dx ha hdx hne
  rw [List.append_nil]
  obtain ⟨x2, o2⟩ := o1.lay (p := dx) (ob := .own a) hdx
  have ha2 : (W1.lay dx (.own a)).H a = none := by show upd W1.H dx (.own a) a = none; rw [upd_ne (Ne.symm hne)]; exact ha
  obtain ⟨x3, o3⟩ := o2.new (p := a) (c := .ins c []) (ob := .ins (N.cls c) dx []) ha2 ⟨dx, [], upd_same, by rw [RelFs], by simp⟩
  have x13 := x2.trans o1 o2 x3
  refine ⟨_, .ref W1.η.nx :: ds, _, kx, rfl, o3, RelDs.cons ?_ (r1.mono o1 x13), h1, fun W4 d v x4 o4 r4 h4 => ?_, hx1.mono o1 o3 x13⟩
  · rw [RelD]
    exact ⟨Nat.lt_succ_self _, by rw [show ((W1.lay dx (.own a)).new a (.ins c []) (.ins (N.cls c) dx [])).μ W1.η.nx = a from Wl.new_mu (W1.lay dx (.own a)) a _ _]⟩
  · cases d with
    | non =>
      rw [RelD] at r4
      refine ⟨r4, hv W4 (.ref W1.η.nx) (.ref a) (x1.trans o o1 (x13.trans o1 o3 x4)) o4 ?_ h4⟩
      rw [RelD]
      have lt : W1.η.nx < ((W1.lay dx (.own a)).new a (.ins c []) (.ins (N.cls c) dx [])).η.nx := Nat.lt_succ_self _
      refine ⟨Nat.lt_of_lt_of_le lt x4.nx, ?_⟩
      rw [x4.mu _ lt, show ((W1.lay dx (.own a)).new a (.ins c []) (.ins (N.cls c) dx [])).μ W1.η.nx = a from Wl.new_mu (W1.lay dx (.own a)) a _ _]
    | _ => cases h4
end
end DL

/-! dicts: in, len, sorted, displays; names of the top -/
namespace DL
open PySem PySem.Spec L2
section
variable {X : Cx} {N : Nm} {E : XK}
/-! ### in -/
def inD (η : Hd) (x y : D) : Option Bool := match y with
  | .ref r => match η.get r with
    | some (.dct t kvs) => match isKey t x with
      | true => match dlook x kvs with
        | some _ => some true
        | none => some false
      | false => none
    | _ => inF η x y
  | _ => inF η x y
def fNotInA : F2 := fun x y η => match inD η x y with
  | some b => some (.bl (!b), η)
  | none => none
def rDIn (neg : Bool) : R2 := fun x y H Q => ∃ a o, y = .ref a ∧ DGet H a x o ∧ Q (.bl (if neg then !o.isSome else o.isSome)) H
theorem op_dNotIn (hu : X.A.units + 1 < cLine) : OpR X (compareOp .NotIn) (rDIn true) := by
  intro pins s σ H x y v u Q I rx ry h
  obtain ⟨a, o, rfl, g, q⟩ := h
  obtain rfl : u = Value.ref a := ry
  exact d_notIn hu I g rx fun s' I' => ⟨.bl _, H, I', rfl, q⟩
theorem OpR.or {f : Value → Value → Sem Value} {r r' : R2} (h : OpR X f r) (h' : OpR X f r') : OpR X f (fun x y H Q => r x y H Q ∨ r' x y H Q) :=
  fun pins s σ H x y v u Q I rx ry q => q.elim (h pins s σ H x y v u Q I rx ry) (h' pins s σ H x y v u Q I rx ry)
theorem inD_or {K : PySem.W.Frag} {W : Wl} {x y : D} {vx vy : V} {b : Bool} (o : W.Ok K N.toNames) (rx : RelD W x vx) (ry : RelD W y vy) (h : inD W.η x y = some b) : inF W.η x y = some b ∨ ∃ a w, vy = .ref a ∧ DGet W.H a vx w ∧ b = w.isSome := by
  cases y with
  | ref r =>
    simp only [inD] at h
    cases e : W.η.get r with
    | none => rw [e] at h; exact .inl h
    | some c =>
      rw [e] at h
      cases c with
      | dct t kvs =>
        simp only at h
        cases ek : isKey t x with
        | false => rw [ek] at h; cases h
        | true =>
          rw [ek] at h
          simp only at h
          refine .inr ?_
          rw [relRef ry]
          cases el : dlook x kvs with
          | none =>
            rw [el] at h; cases h
            exact ⟨_, none, rfl, (dget_of o e ek rx).2 el, rfl⟩
          | some d =>
            rw [el] at h; cases h
            obtain ⟨w, g, _⟩ := (dget_of o e ek rx).1 _ el
            exact ⟨_, some w, rfl, g, rfl⟩
      | _ => exact .inl h
  | _ => exact .inl h
theorem opd_notInA (hu : X.A.units + 65 < cLine) : OpR X (compareOp .NotIn) (r2 X.K N fNotInA) := OpR.imp (OpR.or (opd_notIn (N := N) hu) (op_dNotIn (by omega))) fun x y H Q q => by
  obtain ⟨W, dx, dy, d, η', rfl, o, rx, ry, hf, hq⟩ := q
  unfold fNotInA at hf
  cases e : inD W.η dx dy with
  | none => rw [e] at hf; cases hf
  | some b =>
    rw [e] at hf
    simp only [Option.some.injEq, Prod.mk.injEq] at hf
    obtain ⟨rfl, rfl⟩ := hf
    rcases inD_or o rx ry e with e1 | ⟨a, w, e1, g, rfl⟩
    · exact .inl ⟨W, dx, dy, .bl (!b), W.η, rfl, o, rx, ry, by unfold fNotIn; rw [e1], hq⟩
    · exact .inr ⟨a, w, e1, g, same_w o hq mkBl⟩
/-! ### len -/
def gLenA (d : D) (η : Hd) : Option (D × Hd) := match d with
  | .ref r => match η.get r with
    | some (.dct _ kvs) => some (.int (Int.ofNat kvs.length), η)
    | _ => gLen d η
  | _ => gLen d η
theorem blt_lenA : CallR X (.builtin "len") (rN X.K N (f1 gLenA)) := CallR.imp (CallR.or (blt_len (N := N)) (CallR.or call_lenD call_len_dT)) fun xs H Q q => by
  obtain ⟨W, ds, d, η', rfl, o, rs, hf, hq⟩ := q
  obtain ⟨d0, rfl, hg⟩ := f1_inv hf
  have old : gLen d0 W.η = some (d, η') → rN X.K N fLen xs W.H Q := fun h => ⟨W, [d0], d, η', rfl, o, rs, h, hq⟩
  cases d0 with
  | ref r =>
    simp only [gLenA] at hg
    cases e : W.η.get r with
    | none => rw [e] at hg; exact .inl (old hg)
    | some c =>
      rw [e] at hg
      cases c with
      | dct t kvs =>
        simp only [Option.some.injEq, Prod.mk.injEq] at hg
        obtain ⟨rfl, rfl⟩ := hg
        obtain ⟨v, rfl, r1⟩ := rel1 rs
        rw [relRef r1]
        cases t with
        | false =>
          obtain ⟨ps, h1, h2, h3⟩ := o.cell _ _ e
          refine .inr (.inl ⟨_, ps, rfl, h1, ?_⟩)
          rw [← relK_len h2]
          exact same_w o hq mkInt
        | true =>
          obtain ⟨ps, h1, h2, h3⟩ := o.cell _ _ e
          refine .inr (.inr ⟨_, ps, rfl, h1, ?_⟩)
          rw [← relT_len h2]
          exact same_w o hq mkInt
      | _ => exact .inl (old hg)
  | _ => exact .inl (old hg)
/-! ### a name of the top that holds an int -/
theorem je_gint {x : Str} {i : Int} {pos : Pos} (hg : Gl X x) (hm : ∃ t, X.mg x = some (.int i t)) (hd : (x == ("__debug__" : Str)) = false := by decide) : JE X N E (.Name x pos) (cC (.int i)) := by
  obtain ⟨t, hm⟩ := hm
  exact je_c (pe_glob (v := .int i) hg hm ⟨t, rfl⟩ hd) fun W => mkInt
/-! ### sorted of a dict with int keys -/
def keyInts : List (D × D) → Option (List Int)
  | [] => some []
  | (.int i, _) :: t => match keyInts t with
    | some l => some (i :: l)
    | none => none
  | _ :: _ => none
theorem keyInts_rel {W : Wl} : ∀ {kvs : List (D × D)} {ps : List (Key × V)} {ks : List Int}, RelK W kvs ps → keyInts kvs = some ks → ps.map (·.1) = ks.map Sum.inl
  | [], ps, ks, h, e => by rw [RelK] at h; subst h; cases e; rfl
  | (k, d) :: r, ps, ks, h, e => by
    rw [RelK] at h
    obtain ⟨k', v, ps', rfl, hk, _, h2⟩ := h
    cases k with
    | int i =>
      simp only [keyInts] at e
      cases e2 : keyInts r with
      | none => rw [e2] at e; cases e
      | some l =>
        rw [e2] at e
        cases e
        cases hk
        simp only [List.map_cons]
        rw [keyInts_rel h2 e2]
    | _ => cases e
def gSrtA (d : D) (η : Hd) : Option (D × Hd) := match d with
  | .ref r => match η.get r with
    | some (.dct false kvs) => match keyInts kvs with
      | some ks => match Nat.blt ks.length 64 with
        | true => some (.ref η.nx, η.new (.lst ((sortI (ks.map fun i => [i])).map unI)))
        | false => none
      | none => none
    | _ => gSrt d η
  | _ => gSrt d η
theorem blt_sortedA (hc : X.calm = true) : CallR X (.builtin "sorted") (rN X.K N (f1 gSrtA)) := CallR.imp (CallR.or (blt_sorted (N := N)) (call_sortedDI hc)) fun xs H Q q => by
  obtain ⟨W, ds, d, η', rfl, o, rs, hf, hq⟩ := q
  obtain ⟨d0, rfl, hg⟩ := f1_inv hf
  have old : gSrt d0 W.η = some (d, η') → rN X.K N (f1 gSrt) xs W.H Q := fun h => ⟨W, [d0], d, η', rfl, o, rs, h, hq⟩
  cases d0 with
  | ref r =>
    simp only [gSrtA] at hg
    cases e : W.η.get r with
    | none => rw [e] at hg; exact .inl (old hg)
    | some c =>
      rw [e] at hg
      cases c with
      | dct t kvs =>
        cases t with
        | false =>
          simp only at hg
          cases e2 : keyInts kvs with
          | none => rw [e2] at hg; cases hg
          | some ks =>
            rw [e2] at hg
            simp only at hg
            cases e3 : Nat.blt ks.length 64 with
            | false => rw [e3] at hg; cases hg
            | true =>
              rw [e3] at hg
              simp only [Option.some.injEq, Prod.mk.injEq] at hg
              obtain ⟨rfl, rfl⟩ := hg
              obtain ⟨ps, h1, h2, h3⟩ := o.cell _ _ e
              obtain ⟨v, rfl, r1⟩ := rel1 rs
              have h64 : ks.length < 64 := Nat.le_of_ble_eq_true e3
              refine .inr ⟨_, ps, ks, by rw [relRef r1], .inl h1, keyInts_rel h2 e2, h64, fun ys p hp hs hn => ?_⟩
              have es := srt_one hp hs
              have em : (sortI (ks.map fun i => [i])).map unI = ys.map D.int := by
                rw [← es, List.map_map]; rfl
              rw [em] at hq
              exact new_lst o hq hn ints_rel (by rw [List.length_map, hp.length_eq]; have := sizeLine_eq; omega)
        | true => exact .inl (old hg)
      | _ => exact .inl (old hg)
  | _ => exact .inl (old hg)
end
end DL

/-! comprehensions by clauses -/
namespace DL
open PySem PySem.Spec L2
/-- one clause: its walk, its target, its tests, what is done in each turn -/
def LoopR (J : It) (g : TG) (tt : TT) (tb : St → Hp → (Hp → Prop) → Prop) (vs : List Nat) (σw : St) (H0 : Hp) (Fn : Hp → Prop) : Prop :=
  ∃ W : Nat → Nat → Hp → Prop, (∃ m, W 0 m H0) ∧ ∀ i m H, W i m H → (J.stop i H ∧ Fn H) ∨ (J.go i H ∧ ∃ Nx : Hp → Prop, (∀ H', Nx H' → ∃ m', m' < m ∧ W (i + 1) m' H') ∧
    ∀ x H', J.yld i H x H' → g x σw H' fun σ2 H2 => wipe σ2 vs = σw ∧ tt σ2 H2 fun b H3 => if b = true then tb σ2 H3 Nx else Nx H3)
section
variable {Y : Cx}
end
/-- a new dict: keys ints and texts (false), or rows (true) -/
def dE : Bool → HO
  | false => .dK []
  | true => .dT []
section
variable {X : Cx}
theorem d_store {pins : List (Addr × Obj)} {σ : St} {H H' : Hp} {s : Shared} {a : Addr} {y v : V} {u r : Value} {A : Around} {E : Value → Shared → Prop} {Q : Unit → Shared → Prop} (hu : A.units + 1 < cLine) (I : Inv X pins σ H s) (g : DPut H a y v H') (ry : RelV y u) (rv : RelV v r) (h : ∀ s', Inv X pins σ H' s' → Q () s') :
    wpAny (model X.prog X.w) A (dictSet a u r) Q E s := by
  rcases g with ⟨kvs, k, e, ey, l, eH⟩ | ⟨kvs, k, b, e, ey, eb, l, eH⟩
  · subst ey eH
    obtain ⟨z, hd, vs, rel, dd⟩ := dk_of I.hok e
    have hl : (putK kvs k v).length ≤ sizeLine := by have := length_putK kvs k v; omega
    refine wpAny_dictSet_pairs (hsz := by rw [← rel.length]; exact z) (kV_is ry) dd fun h' dd' hs => h _ ?_
    exact d_write I (by rw [e]; exact True.intro) hs (let ⟨q, _, _, hq, _⟩ := dd'; ⟨q, hq⟩) (dk_new hl hd (rel.put k rv) dd')
  · subst ey eH
    cases (show u = Value.ref b from ry)
    obtain ⟨z, hd, xs, rel, dd⟩ := dt_of I.hok e
    have hl : (putK kvs k v).length ≤ sizeLine := by have := length_putK kvs k v; omega
    refine wpAny_dictSet_heap (hsz := by rw [← Paired.length rel]; exact z) (Nat.lt_of_succ_lt hu) (key_of I.hok eb) dd fun h' dd' hs => h _ ?_
    obtain ⟨q, es, ep, hq, h2, h3, h4, _, h5⟩ := dd'
    refine d_write I (by rw [e]; exact True.intro) hs ⟨q, hq⟩ ⟨hl, hd, _, (rel.put k eb rv).keeps fun c ys ec => ?_, q, es, ep, hq, h2, h3, h4, h5⟩
    rw [upd_ne (ne_of ec e (fun z => nomatch z))]
    exact ec
theorem dE_ok {P : Program} {w : World} {H : Hp} (t : Bool) (h : Heap) (hb : sysModules < h.objs.size) : ObjOk P w H (h.push { cls := .type "dict", data := .dict #[] }) h.objs.size (dE t) := by
  cases t with
  | false => exact dk_empty h hb
  | true => exact dt_empty h hb
end
end DL

/-! dict comprehensions: the readings -/
namespace DL
open PySem PySem.Spec L2
section
variable {X : Cx} {N : Nm} {E : XK}
/-! ### what is stored -/
/-- a pair is put into a dict's cell -/
theorem dput_of {K : PySem.W.Frag} {W : Wl} {r : Nat} {t : Bool} {kvs : List (D × D)} {x y : D} {vx vy : V} (o : W.Ok K N.toNames) (e : W.η.get r = some (.dct t kvs)) (ek : isKey t x = true) (el : Nat.blt kvs.length line = true) (rx : RelD W x vx) (ry : RelD W y vy) :
    ∃ W', DPut W.H (W.μ r) vx vy W'.H ∧ Ext W W' ∧ W'.Ok K N.toNames ∧ W'.η = W.η.set r (.dct t (dput x y kvs)) := by
  have hl : kvs.length < sizeLine := Nat.le_of_ble_eq_true el
  have hl2 : (dput x y kvs).length ≤ sizeLine := Nat.le_trans (dput_len _ _ _) hl
  have c := o.cell r _ e
  cases t with
  | false =>
    obtain ⟨ps, h1, h2, h3⟩ := c
    obtain ⟨k', hk'⟩ := isKey_key ek
    have ev := key_rel hk' rx
    subst ev
    obtain ⟨x', o'⟩ := o.put (c := .dct false (dput x y kvs)) (ob := .dK (putK ps k' vy)) e rfl (fun x' => ⟨_, upd_same, dput_relK hk' (ry.mono o x') (h2.mono o x'), hl2⟩)
    exact ⟨_, .inl ⟨ps, k', h1, rfl, by rw [← relK_len h2]; exact hl, rfl⟩, x', o', rfl⟩
  | true =>
    obtain ⟨ps, h1, h2, h3⟩ := c
    cases x with
    | tup l =>
      obtain ⟨k', hk'⟩ := isKey_keys ek
      obtain ⟨q, vs, rfl, hqs, rq⟩ := relTup rx
      have ev := keys_rel hk' rq
      subst ev
      obtain ⟨x', o'⟩ := o.put (c := .dct true (dput (.tup l) y kvs)) (ob := .dT (putK ps k' vy)) e rfl (fun x' => ⟨_, upd_same, dput_relT hk' (ry.mono o x') (h2.mono o x'), hl2⟩)
      exact ⟨_, .inr ⟨ps, k', q, h1, rfl, hqs, by rw [← relT_len h2]; exact hl, rfl⟩, x', o', rfl⟩
    | _ => cases ek
/-- a new dict -/
theorem newD {K : PySem.W.Frag} {W : Wl} {Da : Addr} (t : Bool) (o : W.Ok K N.toNames) (h : W.H Da = none) : Ext W (W.new Da (.dct t []) (dE t)) ∧ (W.new Da (.dct t []) (dE t)).Ok K N.toNames := by
  refine o.new h ?_
  cases t with
  | false => exact ⟨[], upd_same, by rw [RelK], by simp⟩
  | true => exact ⟨[], upd_same, by rw [RelT], by simp⟩
end
end DL

/-! dict displays: {}, {k: v} -/
namespace DL
open PySem PySem.Spec L2
section
variable {X : Cx} {N : Nm} {E : XK}
def tDisp1 (t : Bool) (tk tv : TE) : TE := fun σ H Q => ∀ p, H p = none → tk σ (upd H p (dE t)) fun x H1 => tv σ H1 fun y H2 => ∃ H3, DPut H2 p x y H3 ∧ Q (.ref p) H3
theorem pe_disp1 {k v : Expr} {tk tv : TE} {pos : Pos} (t : Bool) (hu : X.A.units + 1 < cLine) (hk : PE X k tk) (hv : PE X v tv) : PE X (.Dict [some k] [v] pos) (tDisp1 t tk tv) := by
  refine ⟨fun pins s σ H Q I h => ?_⟩
  have I1 : Inv X pins σ (upd H s.heap.objs.size (dE t)) { s with heap := s.heap.push { cls := .type "dict", data := .dict #[] } } := I.laid (t' := s.toks) (fun b o e => Heap.get?_push_of_some _ e) (Nat.le_refl _) (dE_ok t s.heap I.big)
  rw [PySem.arm_eval_Dict, zip_pairTrees [some k] [v] X.env pos rfl rfl, dictDisplay_pairs (pairTrees [some k] [v] X.env pos) (by intro z; cases z) (by show 1 < 17; decide)]
  refine wpAny_bind (wpAny_standAt (wpAny_bind ?_))
  unfold subDict
  refine wpAny_bind (wpAny_alloc ?_)
  refine wpAny_bind (wpAny_holding ?_)
  rw [if_pos (show (pairTrees [some k] [v] X.env pos).length ≤ 15 from (by decide : 1 ≤ 15))]
  refine wpAny_bind (pairTrees_cons_walk (thn (hk.run pins _ σ _ _ I1 (h _ (I.hok.fresh (Nat.le_refl _)))) fun u s1 ⟨x, H1, J1, r1, q1⟩ => thn (hv.run pins s1 σ H1 _ J1 q1) fun w s2 ⟨y, H2, J2, r2, H3, g, q2⟩ => pairTrees_nil_walk ?_))
  refine wpAny_holding ?_
  rw [List.forIn_cons]
  refine wpAny_bind (wpAny_bind (wpAny_bind (d_store hu J2 g r1 r2 fun s3 I3 => wpAny_pure ?_)))
  dsimp only
  rw [List.forIn_nil]
  exact wpAny_pure (wpAny_pure (wpAny_pure (wpAny_pure ⟨.ref _, H3, I3, rfl, q2⟩)))
def cDisp1 (t : Bool) (ck cv : CE) : CE := fun σ η kv kx => ck σ (η.new (.dct t [])) (fun x η1 => cv σ η1 (fun y η2 => match η2.get η.nx with
  | some (.dct t' kvs) => match isKey t' x, Nat.blt kvs.length line with
    | true, true => kv (.ref η.nx) (η2.set η.nx (.dct t' (dput x y kvs)))
    | _, _ => false
  | _ => false) kx) kx
theorem je_disp1 {k v : Expr} {ck cv : CE} {pos : Pos} (t : Bool) (hu : X.A.units + 1 < cLine) (hk : JE X N E k ck) (hv : JE X N E v cv) : JE X N E (.Dict [some k] [v] pos) (cDisp1 t ck cv) := PE.imp (pe_disp1 t hu hk hv) fun σ H Q q => by
  obtain ⟨W, σd, kv, kx, rfl, o, s, h, hv, hx⟩ := q
  intro p hp
  obtain ⟨xn, on⟩ := newD (N := N) t o hp
  have mn : (W.new p (.dct t []) (dE t)).μ W.η.nx = p := Wl.new_mu W p _ _
  have ln : W.η.nx < (W.new p (.dct t []) (dE t)).η.nx := Nat.lt_succ_self _
  refine tE.bind (W := W.new p (.dct t []) (dE t)) on (s.mono o xn) (hx.mono o on xn) h fun W1 dx x x1 o1 r1 s1 hx1 h1 => ?_
  refine tE.bind o1 s1 hx1 h1 fun W2 dy y x2 o2 r2 s2 hx2 h2 => ?_
  have x02 := x1.trans on o1 x2
  cases e : W2.η.get W.η.nx with
  | none => rw [e] at h2; cases h2
  | some c =>
    rw [e] at h2
    cases c with
    | dct t' kvs =>
      simp only at h2
      cases ek : isKey t' dx with
      | false => rw [ek] at h2; cases h2
      | true =>
        cases el : Nat.blt kvs.length line with
        | false => rw [ek, el] at h2; cases h2
        | true =>
          rw [ek, el] at h2
          obtain ⟨W3, g, x3, o3, e3⟩ := dput_of o2 e ek el (r1.mono o1 x2) r2
          have em : W2.μ W.η.nx = p := by rw [x02.mu _ ln, mn]
          have x03 := x02.trans on o2 x3
          rw [em] at g
          refine ⟨W3.H, g, hv W3 (.ref W.η.nx) (.ref p) (xn.trans o on x03) o3 ?_ (by rw [e3]; exact h2)⟩
          rw [RelD]
          exact ⟨Nat.lt_of_lt_of_le ln x03.nx, by rw [x03.mu _ ln, mn]⟩
    | _ => cases h2
end
end DL

/-! enumerate and zip over lists and tuples -/
namespace DL
open PySem PySem.Spec L2
/-! ### a list (true) or a tuple -/
def Sq (K : PySem.W.Frag) : Bool → Hp → Addr → List V → Prop
  | true => SqL K
  | false => SqT K
/-! ### enumerate -/
set_option maxHeartbeats 1000000 in
theorem meets_enum_newB1 {v : Value} {o : Obj} {H : Heap → Prop} (B : Begins v o H) :
    Meets (Builtin.«enumerate.__new__» ⟨[.type "enumerate", v], []⟩) (fun _ R s => H s.heap ∧
      R (.ok (.ret (.ref (s.heap.push o).objs.size))) { s with heap := (s.heap.push o).push { cls := .type "enumerate", data := .fields #[.none, .bool false, .ref s.heap.objs.size, rawInt 0, .none, .none] } }) :=
  .of_wp fun prog w A R s h => by
    obtain ⟨hp, g, d, tk, os⟩ := s; obtain ⟨h1, h⟩ := h
    have hsub := sub_enumerate
    have q1 : ∀ {A' : Around} {E : Value → Shared → Prop} {Q : Value → Shared → Prop}, Q (.ref hp.objs.size) ⟨hp.push o, g, d, tk, os⟩ → wpAny (model prog w) A' (pyIter v) Q E ⟨hp, g, d, tk, os⟩ :=
      fun q => B.iter prog w _ _ ⟨hp, g, d, tk, os⟩ _ h1 q
    wp_walk using q1
    refine wpAny_stack_any fun st => wpAny_pure ?_
    split
    · rename_i c _ _ _ _ _
      cases (c == Value.type "enumerate")
      · wp_walk using q1
        exact ⟨_, rfl, h⟩
      · wp_walk using q1
        exact ⟨_, rfl, h⟩
    · wp_walk using q1
      exact ⟨_, rfl, h⟩
theorem enum_begins1 {prog : Program} {w : World} {A : Around} {E : Value → Shared → Prop} {s : Shared} {v : Value} {o : Obj} {H : Heap → Prop} {Q : Value → Shared → Prop} (B : Begins v o H) (h1 : H s.heap)
    (h : ∀ h', IsEnum h' (s.heap.objs.size + 1) s.heap.objs.size 0 .none → h'.get? s.heap.objs.size = some o → h'.objs.size = s.heap.objs.size + 2 →
      (∀ b o, s.heap.get? b = some o → h'.get? b = some o) → Q (.ref (s.heap.objs.size + 1)) { s with heap := h' }) :
    wpAny (model prog w) A (call (.type "enumerate") [v]) Q E s := by
  refine callType_new F.called_enumerate (by decide) (F.typeCall_enumerate_1 _) (F.newCall_enumerate_1 _) (fun obj => F.args_object_init_2 obj _) F.entry_enumerate_new
    (meets_enum_newB1 B) ⟨h1, ?_⟩
  have hz : (s.heap.push o).objs.size = s.heap.objs.size + 1 := Heap.size_push ..
  show _ ∧ _
  rw [hz]
  have he : IsEnum ((s.heap.push o).push { cls := .type "enumerate", data := .fields #[.none, .bool false, .ref s.heap.objs.size, rawInt 0, .none, .none] }) (s.heap.objs.size + 1) s.heap.objs.size 0 .none := by
    have := Heap.get?_push_size (s.heap.push o) (o := { cls := .type "enumerate", data := .fields #[.none, .bool false, .ref s.heap.objs.size, rawInt 0, .none, .none] }) rfl
    rw [hz] at this; exact this
  refine ⟨⟨_, he, rfl⟩, h _ he (Heap.get?_push_of_some _ (Heap.get?_push_size _ B.free)) (by rw [Heap.size_push, hz]) fun b o x => Heap.get?_push_of_some _ (Heap.get?_push_of_some _ x)⟩
/-! ### zip of two -/
/-! ### zip of three -/
end DL

/-! enumerate and zip: the readings -/
namespace DL
open PySem PySem.Spec L2
/-- a list or tuple that stays from here on -/
def frzD (η : Hd) : D → Option (List D × Hd)
  | .tup l => some (l, η)
  | .ref r => match η.get r with
    | some (.lst l) => some (l, frzAt r l η)
    | some (.frz l) => some (l, η)
    | _ => none
  | _ => none
def Held (W : Wl) (f : Bool) (a : Addr) (l : List D) (vs : List V) : Prop := RelDs W l vs ∧ (f = false ∧ W.H a = some (.tup vs) ∨ f = true ∧ ∃ q, W.η.get q = some (.frz l) ∧ a = W.μ q ∧ W.H a = some (.lst vs))
section
variable {X : Cx} {N : Nm} {E : XK} {K : PySem.W.Frag} {W Wf W1 : Wl} {f : Bool} {a : Addr} {l : List D} {vs : List V}
theorem Held.sq (h : Held W f a l vs) (x : Sty W W1) : Sq K f W1.H a vs := by
  obtain ⟨_, ⟨rfl, h⟩ | ⟨rfl, q, h1, rfl, h3⟩⟩ := h
  · exact SqT.of (x.tx.tp _ _ h)
  · exact SqL.of (x.fz q l _ h1 h3)
theorem Held.id (h : Held W f a l vs) (o : W.Ok K N.toNames) : Sq K f W.H a vs := h.sq ((Ext.refl W).sty o)
/-! ### enumerate -/
def enumD : Nat → List D → List D
  | _, [] => []
  | i, d :: ds => .tup [.int (Int.ofNat i), d] :: enumD (Nat.succ i) ds
theorem enumD_len : ∀ (i : Nat) (l : List D), (enumD i l).length = l.length
  | _, [] => rfl
  | i, d :: ds => by rw [enumD, List.length_cons, List.length_cons, enumD_len]
theorem enumD_get : ∀ (i : Nat) (l : List D) (k : Nat) (d : D), l[k]? = some d → (enumD i l)[k]? = some (.tup [.int (Int.ofNat (i + k)), d])
  | _, [], k, d, h => by simp at h
  | i, c :: ds, 0, d, h => by simp at h; subst h; rfl
  | i, c :: ds, k + 1, d, h => by
    show (enumD (Nat.succ i) ds)[k]? = _
    rw [enumD_get (Nat.succ i) ds k d (by simpa using h)]
    rw [show Nat.succ i + k = i + (k + 1) by omega]
def ciEnum (a : CA) : CI := fun σ η k kx => a σ η (fun ds η1 => match ds with
  | [d] => match frzD η1 d with
    | some (l, η2) => k ⟨enumD 0 l, none⟩ η2
    | none => false
  | _ => false) kx
/-! ### zip of two -/
/-! ### zip of three -/
end
end DL

/-! sorted of a dict whose keys are rows of ints -/
namespace DL
open PySem PySem.Spec L2
section
variable {prog : Program} {w : World} {d : Addr} {o : Obj} {es : Array DictEntry} {ep : Nat}
theorem kdl_raw (lo : (d == sysModules) = false) (hx : o.ExactDict) (hdt : o.data = .dict es ep) : PySem.W.KdlSrc prog w "dict" d d es.size (fun i v => ∃ en, es[i]? = some en ∧ v = en.key) (fun h => h.get? d = some o) where
  type := fun _ hm => ⟨o, hm, hx.1⟩
  there := fun _ hm => ⟨Heap.lt_size hm, Heap.lt_size hm⟩
  keep := fun _ _ hm hk => hk d (.inl rfl) o hm
  notList := by decide
  notTuple := by decide
  hint := fun _ _ _ _ hm hq => PySem.W.kdl_hint_dict ⟨o, hm, hx.1⟩ hq
  iter := fun A s hh hm => ⟨_, fun i h => h.IsKeyIter s.heap.objs.size d i es.size ep ∧ h.get? d = some o, (fun _ _ hq => iter_keys lo hm hx hdt hq), {
      sub := fun b hb => by simp at hb; simp [hb]
      frame := fun _ _ _ st hk => ⟨st.1.at fun o e => hk _ (by simp) o e, hk d (by simp) o st.2⟩
      item := fun i s' Q E hi st hQ => by
        obtain ⟨en, hen⟩ : ∃ en, es[i]? = some en := ⟨es[i], by simp [hi]⟩
        refine next_key_item st.1 st.2 hdt rfl hen fun h' hit' hs' => ?_
        exact hQ en.key h' s'.toks ⟨en, hen, rfl⟩ ⟨hit', hs'.extBut _ _ (Nat.ne_of_lt (Heap.lt_size hm)) st.2⟩ fun b o hb e => hs'.extBut b o (fun h => hb (by simp [h])) e
      done := fun s' Q E st hQ => next_key_end hh st.1 st.2 hdt rfl (Nat.le_refl _) fun h' he' => hQ h' s'.toks fun b o hb e => he' b o (fun h => hb (by simp [h])) e
      self := fun _ _ _ _ st hQ => wpAny_pyIter_keyiter st.1 hQ }, ⟨⟨_, Heap.get?_push_size _ rfl, rfl, rfl⟩, Heap.get?_push_of_some _ hm⟩⟩
end
def rSrtT : List V → Hp → VK → Prop := fun vs H Q => ∃ (a : Addr) (kvs : List (List Key × V)) (rs : List (List Int)), vs = [V.ref a] ∧ H a = some (.dT kvs) ∧ kvs.map (·.1) = rs.map (fun r => r.map Sum.inl) ∧ (∀ r ∈ rs, r ≠ []) ∧
  ∀ ys : List V, ys.map (rowV H) = rs → (∀ y ∈ ys, ∃ t, y = V.ref t ∧ H t = some (.tup ((rowV H y).map V.int))) → ∀ (zs : List V) (p : Addr), zs.Perm ys → zs.Pairwise (fun x y => lexI (rowV H y) (rowV H x) = false) → H p = none → Q (.ref p) (upd H p (.lst zs))
theorem kV_ints (r : List Int) : (r.map Sum.inl).map kV = r.map V.int := by rw [List.map_map]; rfl
section
variable {X : Cx} {N : Nm} {E : XK}
theorem cr_srtT (hcalm : X.calm = true) : CallR X (.builtin "sorted") rSrtT := by
  intro pins s σ H vs us Q I r h
  obtain ⟨a, kvs, rs, rfl, hd, hk, hne, q⟩ := h
  rw [Vals.ref1 r]
  obtain ⟨z, lo, xs, pr, o, es, ep, ho, hx, hdt, he, _⟩ := I.hok a _ hd
  have l1 : es.size = xs.length := size_of_entries he
  have l2 : kvs.length = xs.length := Paired.length pr
  have l3 : kvs.length = rs.length := by have := congrArg List.length hk; rwa [List.length_map, List.length_map] at this
  refine Calls.call_function_entry PyProof.Rows.kind_sorted PyProof.Rows.plain_sorted PyProof.Rows.entry_sorted (PyProof.Rows.args_sorted1 _) ?_
  unfold Builtin.«sorted»
  refine wpAny_bind (m := checkCount "sorted" 1 1 _) (wpAny_pure ?_)
  refine wpAny_bind (PySem.W.kdu_collect (A := X.A.in1) (kdl_raw lo hx hdt) (I.ok.hd hcalm) ho (by omega) fun h' tk acc hkp hacc => ?_)
  have hal : acc.toList.length = es.size := by rw [Array.length_toList, hacc.1]
  have each : ∀ (j : Nat) (v : Value), acc.toList[j]? = some v → ∃ (t : Addr) (r : List Int), v = .ref t ∧ rs[j]? = some r ∧ H t = some (.tup (r.map V.int)) := fun j v e => by
    obtain ⟨en, e1, e2⟩ := hacc.2 j v (by rw [← Array.getElem?_toList]; exact e)
    have hj : j < es.size := by
      obtain ⟨z, _⟩ := Array.getElem?_eq_some_iff.mp e1
      exact z
    have hkj : kvs[j]? = some (kvs[j]'(by omega)) := List.getElem?_eq_getElem _
    obtain ⟨b, e3, e4, e5, _⟩ := paired_get pr hkj
    have e6 := entry_at he j
    rw [e3, e1] at e6
    have e7 := Option.some.inj e6
    have hrj : rs[j]? = some (rs[j]'(by omega)) := List.getElem?_eq_getElem _
    have e8 : (kvs[j]'(by omega)).1 = (rs[j]'(by omega)).map Sum.inl := by
      have e9 : (kvs.map (·.1))[j]? = (rs.map (fun r => r.map Sum.inl))[j]? := by rw [hk]
      rw [List.getElem?_map, List.getElem?_map, hkj, hrj] at e9
      exact Option.some.inj e9
    refine ⟨b.2.1, rs[j]'(by omega), ?_, hrj, ?_⟩
    · rw [e2, e7]; rfl
    · rw [e5, e8, kV_ints]
  have I1 : Inv X pins σ H { s with heap := h', toks := tk } := I.kept hkp
  have hz' : acc.toList.length ≤ sizeLine := by omega
  have e2 : ∀ v ∈ acc.toList, ∃ t, v = Value.ref t := fun v hv => by
    obtain ⟨j, hj⟩ := List.mem_iff_getElem?.mp hv
    obtain ⟨t, r, rfl, _⟩ := each j v hj
    exact ⟨t, rfl⟩
  have row : ∀ (t : Addr) (r : List Int), H t = some (.tup (r.map V.int)) → rowV H (V.ref t) = r := fun t r e => by simp only [rowV, e]; exact unV_map r
  have hy1 : (acc.toList.map backV).map (rowV H) = rs := by
    refine List.ext_getElem? fun j => ?_
    rw [List.getElem?_map, List.getElem?_map]
    cases e : acc.toList[j]? with
    | none =>
      have : rs[j]? = none := by
        rw [List.getElem?_eq_none_iff] at e ⊢
        omega
      rw [this]; rfl
    | some v =>
      obtain ⟨t, r, rfl, h1, h2⟩ := each j v e
      rw [h1]
      exact congrArg some (row t r h2)
  have hy2 : ∀ y ∈ acc.toList.map backV, ∃ t, y = V.ref t ∧ H t = some (.tup ((rowV H y).map V.int)) := fun y hy => by
    obtain ⟨v, hv, rfl⟩ := List.mem_map.mp hy
    obtain ⟨j, hj⟩ := List.mem_iff_getElem?.mp hv
    obtain ⟨t, r, rfl, _, h2⟩ := each j v hj
    exact ⟨t, rfl, by rw [show rowV H (backV (.ref t)) = r from row t r h2]; exact h2⟩
  have hp : ∀ v ∈ acc.toList, IsRow h' v (rowV H (backV v)) ∧ rowV H (backV v) ≠ [] := fun v hv => by
    obtain ⟨t, e, ht⟩ := hy2 (backV v) (List.mem_map_of_mem hv)
    have hm : rowV H (backV v) ∈ rs := by rw [← hy1]; exact List.mem_map_of_mem (List.mem_map_of_mem hv)
    obtain ⟨t', rfl⟩ := e2 v hv
    cases e
    obtain ⟨_, its2, r2, o, ho, hc, n, hd⟩ := I1.hok _ _ ht
    exact ⟨⟨_, o, its2, n, rfl, ho, hc, hd, r2⟩, hne _ hm⟩
  refine wpAny_bind (wpAny_newList ?_ hz')
  have hoL : (h'.push (PyProof.Rows.seqObj "list" acc.toList.toArray 0)).get? h'.objs.size = some (PyProof.Rows.seqObj "list" acc.toList.toArray 0) := Heap.get?_push_size _ rfl
  show wpAny _ _ _ _ _ { s with heap := h'.push (PyProof.Rows.seqObj "list" acc.toList.toArray 0), toks := tk }
  refine wpAny_bind (wpAny_holding (wpAny_call_entry PyProof.Rows.slot_list_sort ⟨_, hoL, rfl⟩ PyProof.Rows.entry_list_sort
    (SrtO.list_sort_ord (s := { s with heap := h'.push (PyProof.Rows.seqObj "list" acc.toList.toArray 0), toks := tk }) (lexI_swo fun v => rowV H (backV v)) hoL hz' (fun h2 => ?_) fun out hs hb => ⟨_, rfl, ?_⟩) (PyProof.Rows.args_list_sort _)))
  · refine rows_sortable (s := { s with heap := h'.push (PyProof.Rows.seqObj "list" acc.toList.toArray 0), toks := tk }) (k := fun v => rowV H (backV v)) (by omega) (fun v hm => ⟨(hp v hm).1.keeps fun b o e _ => Heap.get?_push_of_some _ e, (hp v hm).2⟩) fun o e => ?_
    have e' : some o = some (PyProof.Rows.seqObj "list" acc.toList.toArray 0) := e.symm.trans hoL
    cases e'
    intro c
    exact absurd (Value.type.inj c) (by decide)
  · have h3 : ∀ u ∈ out, ∃ a, u = Value.ref a := fun u hu => e2 u (hb.perm.mem_iff.mp hu)
    obtain ⟨e', he'⟩ := PyProof.Rows.sortedHeap_at (vs := acc.toList) (out := out.toArray) hoL
    refine wpAny_pure ⟨_, rfl, .ref h'.objs.size, upd H h'.objs.size (.lst (out.map backV)), I1.laid (t' := tk) (fun b u e => ?_) (Nat.le_refl _)
      (show ObjOk X.prog X.w _ _ _ (.lst (out.map backV)) from ⟨?_, out, e', vals_back h3, he'⟩), rfl, q _ hy1 hy2 _ _ (hb.perm.map backV) (List.pairwise_map.mpr hs) (I1.hok.fresh (Nat.le_refl _))⟩
    · have hb : b < h'.objs.size := Heap.lt_size e
      rw [PyProof.Rows.sortedHeap_old (Nat.ne_of_lt hb) (by rw [PyProof.Rows.size_push']; exact Nat.lt_succ_of_lt hb)]
      exact Heap.get?_push_of_some _ e
    · rw [List.length_map, hb.perm.length_eq]; exact hz'
def keyRows : List (D × D) → Option (List (List Int))
  | [] => some []
  | (.tup (x :: xs), _) :: t => match intsOf (x :: xs), keyRows t with
    | some r, some l => some (r :: l)
    | _, _ => none
  | _ :: _ => none
theorem keysOf_ints : ∀ (r : List Int), keysOf (r.map D.int) = some (r.map Sum.inl)
  | [] => rfl
  | i :: r => by simp only [List.map_cons, keysOf, D.key, keysOf_ints r]
theorem keyRows_rel {W : Wl} : ∀ {kvs : List (D × D)} {ps : List (List Key × V)} {rs : List (List Int)}, RelT W kvs ps → keyRows kvs = some rs → ps.map (·.1) = rs.map (fun r => r.map Sum.inl) ∧ ∀ r ∈ rs, r ≠ []
  | [], ps, rs, h, e => by rw [RelT] at h; subst h; cases e; exact ⟨rfl, fun r m => by simp at m⟩
  | (k, d) :: t, ps, rs, h, e => by
    rw [RelT] at h
    obtain ⟨k', v, ps', rfl, hk, _, h2⟩ := h
    cases k with
    | tup xs =>
      cases xs with
      | nil => cases e
      | cons x xs =>
        simp only [keyRows] at e
        cases e1 : intsOf (x :: xs) with
        | none => rw [e1] at e; cases e
        | some r =>
          cases e2 : keyRows t with
          | none => rw [e1, e2] at e; cases e
          | some l =>
            rw [e1, e2] at e
            cases e
            obtain ⟨q1, q2⟩ := keyRows_rel h2 e2
            have ex := intsOf_eq e1
            refine ⟨?_, fun r' hm => ?_⟩
            · have hk' : keysOf (x :: xs) = some k' := hk
              rw [ex, keysOf_ints] at hk'
              have ek : k' = r.map Sum.inl := (Option.some.inj hk').symm
              simp only [List.map_cons]
              rw [q1, ek]
            · rcases List.mem_cons.mp hm with rfl | hm
              · intro z; subst z; cases ex
              · exact q2 r' hm
    | _ => cases e
def gSrtB (d : D) (η : Hd) : Option (D × Hd) := match d with
  | .ref r => match η.get r with
    | some (.dct true kvs) => match keyRows kvs with
      | some rs => match Nat.ble rs.length 60000 with
        | true => some (.ref η.nx, η.new (.lst ((sortI rs).map rowD)))
        | false => none
      | none => none
    | _ => gSrtA d η
  | _ => gSrtA d η
theorem blt_sortedB (hc : X.calm = true) : CallR X (.builtin "sorted") (rN X.K N (f1 gSrtB)) := CallR.imp (CallR.or (blt_sortedA (N := N) hc) (cr_srtT hc)) fun xs H Q q => by
  obtain ⟨W, ds, d, η', rfl, o, rs, hf, hq⟩ := q
  obtain ⟨d0, rfl, hg⟩ := f1_inv hf
  have old : gSrtA d0 W.η = some (d, η') → rN X.K N (f1 gSrtA) xs W.H Q := fun h => ⟨W, [d0], d, η', rfl, o, rs, h, hq⟩
  cases d0 with
  | ref r =>
    simp only [gSrtB] at hg
    cases e : W.η.get r with
    | none => rw [e] at hg; exact .inl (old hg)
    | some c =>
      rw [e] at hg
      cases c with
      | dct t kvs =>
        cases t with
        | true =>
          simp only at hg
          cases e2 : keyRows kvs with
          | none => rw [e2] at hg; cases hg
          | some ks =>
            rw [e2] at hg
            simp only at hg
            cases e3 : Nat.ble ks.length 60000 with
            | false => rw [e3] at hg; cases hg
            | true =>
              rw [e3] at hg
              simp only [Option.some.injEq, Prod.mk.injEq] at hg
              obtain ⟨rfl, rfl⟩ := hg
              obtain ⟨ps, h1, h2, h3⟩ := o.cell _ _ e
              obtain ⟨v, rfl, r1⟩ := rel1 rs
              obtain ⟨q1, q2⟩ := keyRows_rel h2 e2
              refine .inr ⟨_, ps, ks, by rw [relRef r1], h1, q1, q2, fun ys p1 p2 zs p hp hs hn => ?_⟩
              have em : zs.map (rowV W.H) = sortI ks := srI_uniq ((hp.map _).trans (by rw [p1]; exact (sortI_perm _).symm)) (List.pairwise_map.mpr hs) (sortI_sorted _)
              rw [← em] at hq
              refine new_lst o hq hn (rows_rel fun u hu => p2 u (hp.mem_iff.mp hu)) ?_
              have l1 := hp.length_eq
              have l2 := congrArg List.length p1
              rw [List.length_map] at l2
              rw [List.length_map, List.length_map]
              have := Nat.le_of_ble_eq_true e3
              have := sizeLine_eq
              omega
        | false => exact .inl (old hg)
      | _ => exact .inl (old hg)
  | _ => exact .inl (old hg)
end
end DL

/-! any, all of a generator expression with two clauses: the body -/
namespace DL
open PySem PySem.Spec L2
/-- as LoopR, the count of turns at most B -/
def LoopB (B : Nat) (J : It) (g : TG) (tt : TT) (tb : St → Hp → (Hp → Prop) → Prop) (vs : List Nat) (σw : St) (H0 : Hp) (Fn : Hp → Prop) : Prop :=
  ∃ W : Nat → Nat → Hp → Prop, (∃ m, m ≤ B ∧ W 0 m H0) ∧ ∀ i m H, W i m H → (J.stop i H ∧ Fn H) ∨ (J.go i H ∧ ∃ Nx : Hp → Prop, (∀ H', Nx H' → ∃ m', m' < m ∧ W (i + 1) m' H') ∧
    ∀ x H', J.yld i H x H' → g x σw H' fun σ2 H2 => wipe σ2 vs = σw ∧ tt σ2 H2 fun b H3 => if b = true then tb σ2 H3 Nx else Nx H3)
section
variable {Y : Cx}
end
end DL

/-! any, all of a generator expression with two clauses: the making, the walk -/
namespace DL
open PySem PySem.Spec L2
section
variable {Y : Cx}
end
end DL

/-! any, all of a generator expression with two clauses: the rules -/
namespace DL
open PySem PySem.Spec L2
section
variable {Y : Cx} {A : Around} {p : Bool} {Fin End : Hp → Prop} {oa : Obj} {σw : L2.St} {a : Addr} {gi : Nat} {R : Result → Shared → Prop}
end
section
variable {Y : Cx} {A : Around} {oa : Obj} {σw : L2.St} {a : Addr} {gi : Nat} {R : Result → Shared → Prop} {Fin : Bool → Hp → Prop}
end
section
variable {X : Cx} {pins : List (Addr × Obj)} {σ : L2.St} {H : Hp} {s : Shared}
variable {T : Tbl} {k : Nat} {elt t0 i0 t1 i1 : Expr} {ifs0 ifs1 : List Expr} {scope : Scope} {own : List (Str × Nat)} {vs1 : List Nat} {wi wi1 : TI} {g g1 : TG} {tt tt1 : TT} {te : TE}
end
end DL

/-! any, all of a generator expression with two clauses: the readings -/
namespace DL
open PySem PySem.Spec L2
section
variable {X : Cx} {N : Nm} {E : XK}
theorem LoopB.imp {B : Nat} {J : It} {g : TG} {tt : TT} {tb : St → Hp → (Hp → Prop) → Prop} {vs : List Nat} {σw : St} {H0 : Hp} {Fn Fn' : Hp → Prop} (h : LoopB B J g tt tb vs σw H0 Fn) (f : ∀ H, Fn H → Fn' H) : LoopB B J g tt tb vs σw H0 Fn' := by
  obtain ⟨W, hs, turn⟩ := h
  refine ⟨W, hs, fun i m H w => ?_⟩
  rcases turn i m H w with ⟨stop, z⟩ | z
  · exact .inl ⟨stop, f _ z⟩
  · exact .inr z
variable {E' : XK} {k : Nat} {elt t0 i0 t1 i1 : Expr} {ifs0 ifs1 : List Expr} {scope : Scope} {own : List (Str × Nat)} {vs1 : List Nat} {ci ci1 : CI} {g g1 : CG} {t t1' : CT} {e : CE} {p pos gpos : Pos}
end
end DL

/-! a name set to a dict comprehension -/
namespace DL
open PySem PySem.Spec L2
section
variable {X : Cx}
end
section
variable {X : Cx} {N : Nm} {E : XK}
end
end DL

/-! tuples that are known to have no dict: tuple(list), t.index(i) -/
namespace DL
open PySem PySem.Spec L2 PyProof.Rows
section
variable {X : Cx} {N : Nm} {E : XK}
theorem call_tuple_ofF : CallR X (.type "tuple") (fun xs H Q => ∃ p ys, xs = [.ref p] ∧ SqL X.K H p ys ∧ ∀ l o, H l = none → o.dict = none → Q (.ref l) (upd H l (.frz o (.tup ys)))) := by
  intro pins s σ H xs us Q I r h
  obtain ⟨p, ys, rfl, hq, q⟩ := h
  obtain ⟨u, rfl, rx⟩ := vals1 r
  cases rx
  obtain ⟨its, r', pl, hz⟩ := I.list hq
  have hlen := r'.length
  refine call_tuple_list pl.isList (fun h' kp => ?_) (by simp only [List.size_toArray] <;> omega)
  have I1 : Inv X pins σ H { s with heap := h' } := I.kept (t' := s.toks) kp
  have I2 : Inv X pins σ (upd H h'.objs.size (.frz { cls := .type "tuple", data := .seq its.toArray } (.tup ys))) { s with heap := h'.push { cls := .type "tuple", data := .seq its.toArray } } :=
    I1.laid (t' := s.toks) (fun b o e => Heap.get?_push_of_some _ e) (Nat.le_refl _) (show ObjOk X.prog X.w _ _ _ (.frz _ (.tup ys)) from ⟨Heap.get?_push_size _ rfl, hz, its, r', IsTup.new _ _⟩)
  exact ⟨.ref h'.objs.size, _, I2, rfl, q _ _ (I1.hok.fresh (Nat.le_refl _)) rfl⟩
theorem mkFtup {W : Wl} {ds : List D} {vs : List V} {a : Addr} {o : Obj} (h : W.H a = some (.frz o (.tup vs))) (hd : o.dict = none) (r : RelDs W ds vs) : RelD W (.ftup ds) (.ref a) := by rw [RelD]; exact ⟨a, vs, o, rfl, h, hd, r⟩
theorem new_ftup {K : PySem.W.Frag} {W : Wl} {Q : VK} {ds : List D} {vs : List V} {p : Addr} {ob : Obj} (o : W.Ok K N.toNames) (q : ∀ W' v, Ext W W' → W'.Ok K N.toNames → W'.η = W.η → RelD W' (.ftup ds) v → Q v W'.H) (hp : W.H p = none) (hd : ob.dict = none) (r : RelDs W ds vs) : Q (.ref p) (upd W.H p (.frz ob (.tup vs))) := by
  obtain ⟨x, o'⟩ := o.lay (ob := .frz ob (.tup vs)) hp
  exact q (W.lay p (.frz ob (.tup vs))) (.ref p) x o' rfl (mkFtup upd_same hd (r.mono o x))
def gTupleF (d : D) (η : Hd) : Option (D × Hd) := match d with
  | .ref r => match η.list r with
    | some l => some (.ftup l, η)
    | none => none
  | _ => none
theorem ty_tupleF : CallR X (.type "tuple") (rN X.K N (f1 gTupleF)) := CallR.imp call_tuple_ofF fun xs H Q q => by
  obtain ⟨W, ds, d, η', rfl, o, rs, hf, hq⟩ := q
  obtain ⟨x, rfl, hg⟩ := f1_inv hf
  clear hf
  obtain ⟨v, rfl, rx⟩ := rel1 rs
  cases x with
  | ref r =>
    simp only [gTupleF] at hg
    cases e : W.η.list r with
    | none => rw [e] at hg; cases hg
    | some l =>
      rw [e] at hg
      simp only [Option.some.injEq, Prod.mk.injEq] at hg
      obtain ⟨rfl, rfl⟩ := hg
      obtain ⟨vs, g1, g2, g3⟩ := list_of o e
      rw [relRef rx]
      exact ⟨_, vs, rfl, g1, fun p ob hp hd => new_ftup o hq hp hd g2⟩
  | _ => cases hg
/-! t.index(i) -/
end
end DL

/-! cuts to one of a set of states, the cells named anew -/
namespace DL
open PySem PySem.Spec L2
def RenD (n : Nat) (ρ : Nat → Nat) (d d' : D) : Prop := (∃ r, r < n ∧ d = .ref r ∧ d' = .ref (ρ r)) ∨ (d' = d ∧ below 8 0 d = true)
structure Ren (st : SD × Hd) (σ : SD) (η : Hd) (ρ : Nat → Nat) : Prop where
  one : 1 ≤ st.2.nx
  zero : ρ 0 = 0
  inj : ∀ i j, i < st.2.nx → j < st.2.nx → ρ i = ρ j → i = j
  lt : ∀ i, i < st.2.nx → ρ i < η.nx
  len : st.1.length = σ.length
  slot : ∀ (i : Nat) (d : D), st.1[i]? = some (some d) → ∃ d', σ[i]? = some (some d') ∧ RenD st.2.nx ρ d d'
  cell : ∀ (r : Nat) (c : Cell), st.2.get r = some c → r < st.2.nx ∧ ∃ c0, η.get (ρ r) = some c0 ∧ cle 0 c0 c = true
theorem tx_any {μ μ' : Nat → Addr} {η : Hd} {cs : List (Nat × Cell)} {H : Hp} : Tx ⟨μ, ⟨0, cs⟩, H⟩ ⟨μ', η, H⟩ := ⟨Nat.zero_le _, fun r h => absurd h (Nat.not_lt_zero r), fun _ _ h => h, fun _ _ _ h => h⟩
theorem Ren.ok {K : PySem.W.Frag} {N : Names} {W0 W : Wl} {st : SD × Hd} {σd : SD} {σ : St} {ρ : Nat → Nat} (o0 : W0.Ok K N) (o : W.Ok K N) (x : Ext W0 W) (s : RelS W σd σ) (h : Ren st σd W.η ρ) (h0 : W0.η.nx ≤ 1) :
    Ext W0 ⟨fun i => W.μ (ρ i), st.2, W.H⟩ ∧ Wl.Ok K N ⟨fun i => W.μ (ρ i), st.2, W.H⟩ ∧ RelS ⟨fun i => W.μ (ρ i), st.2, W.H⟩ st.1 σ := by
  refine ⟨⟨Nat.le_trans h0 h.one, fun r hr => ?_, x.fr, x.th, fun r c e => ?_⟩, ⟨fun r c e => (h.cell r c e).1, fun r c e => ?_, fun r s c d e1 e2 e => ?_, o.tab⟩, ?_⟩
  · have z : r = 0 := by have : r < W0.η.nx := hr; omega
    subst z
    show W.μ (ρ 0) = W0.μ 0
    rw [h.zero]; exact x.mu 0 hr
  · obtain ⟨hr, c0, g1, g2⟩ := h.cell r c e
    have gm := (cle_ok (cs := []) g2 (o.cell (ρ r) c0 g1)).2
    rcases x.cs (ρ r) c0 g1 with ⟨c1, k1, k2⟩ | ⟨k1, k2⟩
    · have hl := o0.lt _ _ k1
      have z : ρ r = 0 := by omega
      have z2 : r = 0 := h.inj r 0 hr h.one (by rw [z, h.zero])
      subst z2
      rw [h.zero] at k1
      exact .inl ⟨c1, k1, fun m => k2 (gm m)⟩
    · refine .inr ⟨?_, k2⟩
      by_cases z : r = 0
      · subst z; rw [h.zero] at k1; exact k1
      · omega
  · obtain ⟨hr, c0, g1, g2⟩ := h.cell r c e
    exact ((cle_ok (cs := []) g2 (o.cell (ρ r) c0 g1)).1).tx tx_any (fun _ _ h => h)
  · obtain ⟨hr, c1, g1, _⟩ := h.cell r c e1
    obtain ⟨hs, c2, g2, _⟩ := h.cell s d e2
    exact h.inj r s hr hs (o.inj _ _ c1 c2 g1 g2 e)
  · refine ⟨h.len.trans s.len, fun i d e => ?_⟩
    obtain ⟨d', e', rd⟩ := h.slot i d e
    obtain ⟨v, r1, r2⟩ := s.get i d' e'
    refine ⟨v, r1, ?_⟩
    rcases rd with ⟨r, hr, rfl, rfl⟩ | ⟨rfl, hb⟩
    · rw [RelD] at r2 ⊢
      exact ⟨hr, r2.2⟩
    · exact (below_rel (cs := []) 8 hb r2).tx tx_any
section
variable {X : Cx} {N : Nm} {E : XK} {m : Nat}
end
end DL

/-! is None; d.get(k, x) -/
namespace DL
open PySem PySem.Spec L2
section
variable {X : Cx} {N : Nm} {E : XK}
/-! d.get(k, x) -/
end
end DL

/-! sorted(d.items()), keys and values ints -/
namespace DL
open PySem PySem.Spec L2 PyProof.Rows
section
variable {K : PySem.W.Frag} {N : Names} {W : Wl}
theorem Wl.Ok.grow (o : W.Ok K N) {H' : Hp} (g : ∀ b u, W.H b = some u → H' b = some u) : Ext W ⟨W.μ, W.η, H'⟩ ∧ Wl.Ok K N ⟨W.μ, W.η, H'⟩ := by
  have x : Ext W ⟨W.μ, W.η, H'⟩ := ⟨Nat.le_refl _, fun _ _ => rfl, fun a u h _ _ => g a u h, fun a u h t => ⟨u, g a u h, t⟩, fun r c h => .inl ⟨c, h, id⟩⟩
  exact ⟨x, o.lt, fun r c e => (o.cell r c e).mono o x (fun ob _ => g _ ob), o.inj, tabs_keep o.tab fun b u h _ => g b u h⟩
end
section
variable {X : Cx}
end
end DL

/-! d.setdefault(k, x) -/
namespace DL
open PySem PySem.Spec L2
section
variable {X : Cx}
variable {N : Nm} {E : XK}
end
end DL

/-! sorted(d, key=lambda one: (len(one), one)) -/
namespace DL
open PySem PySem.Spec PyProof.Rows L2
section
variable {prog : Program} {w : World} {A : Around} {s : Shared}
end
end DL

/-! the order of rows by (len(one), one) -/
namespace DL
open PySem PySem.Spec PyProof.Rows L2
end DL

/-! sorted(d, key=lambda one: (len(one), one)), d a dict whose keys are rows of ints -/
namespace DL
open PySem PySem.Spec L2
section
variable {X : Cx} {N : Nm} {E : XK}
end
end DL

/-! sorted(d, key=lambda one: (len(one), one)): the reading -/
namespace DL
open PySem PySem.Spec L2
section
variable {X : Cx} {N : Nm} {E : XK}
end
end DL

/-! sorted(d.items()): the reading -/
namespace DL
open PySem PySem.Spec L2 PyProof.Rows
section
variable {X : Cx} {N : Nm} {E : XK}
end
end DL

/-! cuts to one of a set of states, the cells named anew, cells that hold cells -/
namespace DL
open PySem PySem.Spec L2
def RenDs (n : Nat) (ρ : Nat → Nat) : List D → List D → Prop
  | [], l => l = []
  | d :: t, l => ∃ d' t', l = d' :: t' ∧ RenD n ρ d d' ∧ RenDs n ρ t t'
def RenFs (n : Nat) (ρ : Nat → Nat) : List (Nat × D) → List (Nat × D) → Prop
  | [], l => l = []
  | (k, d) :: t, l => ∃ d' t', l = (k, d') :: t' ∧ RenD n ρ d d' ∧ RenFs n ρ t t'
def RenKv (n : Nat) (ρ : Nat → Nat) : List (D × D) → List (D × D) → Prop
  | [], l => l = []
  | (k, d) :: t, l => ∃ d' t', l = (k, d') :: t' ∧ RenD n ρ d d' ∧ RenKv n ρ t t'
def RenC (n : Nat) (ρ : Nat → Nat) (c c0 : Cell) : Prop := cle 0 c0 c = true ∨ (∃ l l0, c = .lst l ∧ c0 = .lst l0 ∧ RenDs n ρ l l0) ∨ (∃ k l l0, c = .ins k l ∧ c0 = .ins k l0 ∧ RenFs n ρ l l0) ∨ (∃ t l l0, c = .dct t l ∧ c0 = .dct t l0 ∧ RenKv n ρ l l0)
structure Ren2 (st : SD × Hd) (σ : SD) (η : Hd) (ρ : Nat → Nat) : Prop where
  one : 1 ≤ st.2.nx
  zero : ρ 0 = 0
  inj : ∀ i j, i < st.2.nx → j < st.2.nx → ρ i = ρ j → i = j
  lt : ∀ i, i < st.2.nx → ρ i < η.nx
  len : st.1.length = σ.length
  slot : ∀ (i : Nat) (d : D), st.1[i]? = some (some d) → ∃ d', σ[i]? = some (some d') ∧ RenD st.2.nx ρ d d'
  cell : ∀ (r : Nat) (c : Cell), st.2.get r = some c → r < st.2.nx ∧ ∃ c0, η.get (ρ r) = some c0 ∧ RenC st.2.nx ρ c c0
section
variable {W : Wl} {n : Nat} {ρ : Nat → Nat} {cs : List (Nat × Cell)}
theorem renD_rel {d d' : D} {v : V} (h : RenD n ρ d d') (r : RelD W d' v) : RelD ⟨fun i => W.μ (ρ i), ⟨n, cs⟩, W.H⟩ d v := by
  rcases h with ⟨r0, hr, rfl, rfl⟩ | ⟨rfl, hb⟩
  · rw [RelD] at r ⊢
    exact ⟨hr, r.2⟩
  · exact (below_rel (cs := []) 8 hb r).tx tx_any
theorem renDs_rel : ∀ {l l0 : List D} {vs : List V}, RenDs n ρ l l0 → RelDs W l0 vs → RelDs ⟨fun i => W.μ (ρ i), ⟨n, cs⟩, W.H⟩ l vs ∧ l.length = l0.length
  | [], l0, vs, h, r => by
    rw [RenDs] at h; subst h
    rw [RelDs] at r; subst r
    exact ⟨.nil, rfl⟩
  | d :: t, l0, vs, h, r => by
    rw [RenDs] at h
    obtain ⟨d', t', rfl, h1, h2⟩ := h
    rw [RelDs] at r
    obtain ⟨v, vs', rfl, r1, r2⟩ := r
    obtain ⟨q1, q2⟩ := renDs_rel h2 r2
    exact ⟨.cons (renD_rel h1 r1) q1, by simp [q2]⟩
theorem renFs_rel {N : Names} : ∀ {l l0 : List (Nat × D)} {vs : List (Str × V)}, RenFs n ρ l l0 → RelFs W N l0 vs → RelFs ⟨fun i => W.μ (ρ i), ⟨n, cs⟩, W.H⟩ N l vs ∧ l.length = l0.length
  | [], l0, vs, h, r => by
    rw [RenFs] at h; subst h
    rw [RelFs] at r; subst r
    exact ⟨by rw [RelFs], rfl⟩
  | (k, d) :: t, l0, vs, h, r => by
    rw [RenFs] at h
    obtain ⟨d', t', rfl, h1, h2⟩ := h
    rw [RelFs] at r
    obtain ⟨v, vs', rfl, r1, r2⟩ := r
    obtain ⟨q1, q2⟩ := renFs_rel h2 r2
    exact ⟨by rw [RelFs]; exact ⟨v, vs', rfl, renD_rel h1 r1, q1⟩, by simp [q2]⟩
theorem renKv_relK : ∀ {l l0 : List (D × D)} {vs : List (Key × V)}, RenKv n ρ l l0 → RelK W l0 vs → RelK ⟨fun i => W.μ (ρ i), ⟨n, cs⟩, W.H⟩ l vs ∧ l.length = l0.length
  | [], l0, vs, h, r => by
    rw [RenKv] at h; subst h
    rw [RelK] at r; subst r
    exact ⟨by rw [RelK], rfl⟩
  | (k, d) :: t, l0, vs, h, r => by
    rw [RenKv] at h
    obtain ⟨d', t', rfl, h1, h2⟩ := h
    rw [RelK] at r
    obtain ⟨k', v, vs', rfl, r0, r1, r2⟩ := r
    obtain ⟨q1, q2⟩ := renKv_relK h2 r2
    exact ⟨by rw [RelK]; exact ⟨k', v, vs', rfl, r0, renD_rel h1 r1, q1⟩, by simp [q2]⟩
theorem renKv_relT : ∀ {l l0 : List (D × D)} {vs : List (List Key × V)}, RenKv n ρ l l0 → RelT W l0 vs → RelT ⟨fun i => W.μ (ρ i), ⟨n, cs⟩, W.H⟩ l vs ∧ l.length = l0.length
  | [], l0, vs, h, r => by
    rw [RenKv] at h; subst h
    rw [RelT] at r; subst r
    exact ⟨by rw [RelT], rfl⟩
  | (k, d) :: t, l0, vs, h, r => by
    rw [RenKv] at h
    obtain ⟨d', t', rfl, h1, h2⟩ := h
    rw [RelT] at r
    obtain ⟨k', v, vs', rfl, r0, r1, r2⟩ := r
    obtain ⟨q1, q2⟩ := renKv_relT h2 r2
    exact ⟨by rw [RelT]; exact ⟨k', v, vs', rfl, r0, renD_rel h1 r1, q1⟩, by simp [q2]⟩
theorem renC_rel {K : PySem.W.Frag} {N : Names} {a : Addr} {c c0 : Cell} (h : RenC n ρ c c0) (r : RelC K N W a c0) : RelC K N ⟨fun i => W.μ (ρ i), ⟨n, cs⟩, W.H⟩ a c ∧ (c.mut = true → c0.mut = true) := by
  rcases h with h | ⟨l, l0, rfl, rfl, h⟩ | ⟨k, l, l0, rfl, rfl, h⟩ | ⟨t, l, l0, rfl, rfl, h⟩
  · obtain ⟨q1, q2⟩ := cle_ok (cs := []) h r
    exact ⟨q1.tx tx_any (fun _ _ h => h), q2⟩
  · obtain ⟨vs, r1, r2, r3⟩ := r
    obtain ⟨q1, q2⟩ := renDs_rel (cs := cs) h r2
    exact ⟨⟨vs, r1, q1, by rw [q2]; exact r3⟩, id⟩
  · obtain ⟨dx, gs, r1, r2, r3⟩ := r
    obtain ⟨q1, q2⟩ := renFs_rel (cs := cs) h r2
    exact ⟨⟨dx, gs, r1, q1, by rw [q2]; exact r3⟩, id⟩
  · cases t with
    | false =>
      obtain ⟨ps, r1, r2, r3⟩ := r
      obtain ⟨q1, q2⟩ := renKv_relK (cs := cs) h r2
      exact ⟨⟨ps, r1, q1, by rw [q2]; exact r3⟩, id⟩
    | true =>
      obtain ⟨ps, r1, r2, r3⟩ := r
      obtain ⟨q1, q2⟩ := renKv_relT (cs := cs) h r2
      exact ⟨⟨ps, r1, q1, by rw [q2]; exact r3⟩, id⟩
end
theorem Ren2.ok {K : PySem.W.Frag} {N : Names} {W0 W : Wl} {st : SD × Hd} {σd : SD} {σ : St} {ρ : Nat → Nat} (o0 : W0.Ok K N) (o : W.Ok K N) (x : Ext W0 W) (s : RelS W σd σ) (h : Ren2 st σd W.η ρ) (h0 : W0.η.nx ≤ 1) :
    Ext W0 ⟨fun i => W.μ (ρ i), st.2, W.H⟩ ∧ Wl.Ok K N ⟨fun i => W.μ (ρ i), st.2, W.H⟩ ∧ RelS ⟨fun i => W.μ (ρ i), st.2, W.H⟩ st.1 σ := by
  refine ⟨⟨Nat.le_trans h0 h.one, fun r hr => ?_, x.fr, x.th, fun r c e => ?_⟩, ⟨fun r c e => (h.cell r c e).1, fun r c e => ?_, fun r s c d e1 e2 e => ?_, o.tab⟩, ?_⟩
  · have z : r = 0 := by have : r < W0.η.nx := hr; omega
    subst z
    show W.μ (ρ 0) = W0.μ 0
    rw [h.zero]; exact x.mu 0 hr
  · obtain ⟨hr, c0, g1, g2⟩ := h.cell r c e
    have gm := (renC_rel (cs := []) g2 (o.cell (ρ r) c0 g1)).2
    rcases x.cs (ρ r) c0 g1 with ⟨c1, k1, k2⟩ | ⟨k1, k2⟩
    · have hl := o0.lt _ _ k1
      have z : ρ r = 0 := by omega
      have z2 : r = 0 := h.inj r 0 hr h.one (by rw [z, h.zero])
      subst z2
      rw [h.zero] at k1
      exact .inl ⟨c1, k1, fun m => k2 (gm m)⟩
    · refine .inr ⟨?_, k2⟩
      by_cases z : r = 0
      · subst z; rw [h.zero] at k1; exact k1
      · omega
  · obtain ⟨hr, c0, g1, g2⟩ := h.cell r c e
    exact (renC_rel (cs := st.2.cs) g2 (o.cell (ρ r) c0 g1)).1
  · obtain ⟨hr, c1, g1, _⟩ := h.cell r c e1
    obtain ⟨hs, c2, g2, _⟩ := h.cell s d e2
    exact h.inj r s hr hs (o.inj _ _ c1 c2 g1 g2 e)
  · refine ⟨h.len.trans s.len, fun i d e => ?_⟩
    obtain ⟨d', e', rd⟩ := h.slot i d e
    obtain ⟨v, r1, r2⟩ := s.get i d' e'
    exact ⟨v, r1, renD_rel rd r2⟩
section
variable {X : Cx} {N : Nm} {E : XK} {m : Nat}
end
end DL

/-! a def of the dice that makes one of few cells -/
namespace DL
open PySem PySem.Spec L2
section
variable {P : Program} {w : World} {K : PySem.W.Frag} {mg : Str → Option Value} {base : Heap} {N : Nm}
end
end DL

/-! a def whose results are known for some arguments -/
namespace DL
open PySem PySem.Spec L2
/-- an argument: data without cells; a cell without cells; the cell of an argument ahead -/
inductive Ag where
  | dt (d : D) | ce (c : Cell) | rp (j : Nat)
structure Rw where
  as : List Ag
  r : D
  c : Option Cell := none
section
variable {P : Program} {w : World} {K : PySem.W.Frag} {mg : Str → Option Value} {base : Heap} {N : Nm}
end
end DL

/-! a dict is walked: it is locked meanwhile -/
namespace DL
open PySem PySem.Spec L2
section
variable {K : PySem.W.Frag} {N : Names} {W W2 : Wl} {r : Nat} {t : Bool} {l : List (D × D)}
/-- what stands at a dict's address -/
def DObj (W : Wl) (t : Bool) (l : List (D × D)) (u : HO) : Prop := (t = false ∧ ∃ ps, u = .dK ps ∧ RelK W l ps ∧ l.length ≤ sizeLine) ∨ (t = true ∧ ∃ ps, u = .dT ps ∧ RelT W l ps ∧ l.length ≤ sizeLine)
theorem DObj.mono {W' : Wl} {u : HO} (o : W.Ok K N) (x : Ext W W') (h : DObj W t l u) : DObj W' t l u := by
  rcases h with ⟨rfl, ps, rfl, q, n⟩ | ⟨rfl, ps, rfl, q, n⟩
  · exact .inl ⟨rfl, ps, rfl, q.mono o x, n⟩
  · exact .inr ⟨rfl, ps, rfl, q.mono o x, n⟩
end
section
variable {X : Cx} {N : Nm} {E : XK}
end
end DL

/-! a dict with rows of rows of ints as keys: {}, d[k] = v, len(d) -/
namespace DL
open PySem PySem.Spec PyProof.Rows L2
section
variable {X : Cx} {N : Nm} {E : XK}
/-! ### keys -/
/-! ### d[k] = v -/
/-! ### len -/
/-! ### a tuple many times -/
end
end DL

/-! a def whose results are shown (not looked at) for all arguments of a kind -/
namespace DL
open PySem PySem.Spec L2
section
variable {P : Program} {w : World} {K : PySem.W.Frag} {mg : Str → Option Value} {base : Heap} {N : Nm}
end
/-! pure expressions -/
/-- the expression gives d and changes nothing -/
def Ev (A : CE) (σ : SD) (η : Hd) (d : D) : Prop := ∀ kv kx, A σ η kv kx = kv d η
def EvA (A : CA) (σ : SD) (η : Hd) (ds : List D) : Prop := ∀ kv kx, A σ η kv kx = kv ds η
theorem ev_var {σ : SD} {η : Hd} {i : Nat} {d : D} (h : σ[i]? = some (some d)) : Ev (cVar i) σ η d := fun kv kx => by unfold cVar; rw [h]
theorem ev_op {σ : SD} {η : Hd} {f : F2} {A B : CE} {x y d : D} (a : Ev A σ η x) (b : Ev B σ η y) (h : f x y η = some (d, η)) : Ev (cOp f A B) σ η d := fun kv kx => by
  unfold cOp; rw [a]; rw [b]; rw [h]
theorem eva_nil {σ : SD} {η : Hd} : EvA cNil σ η [] := fun kv kx => rfl
theorem eva_cons {σ : SD} {η : Hd} {A : CE} {R : CA} {d : D} {ds : List D} (a : Ev A σ η d) (r : EvA R σ η ds) : EvA (cCons A R) σ η (d :: ds) := fun kv kx => by
  unfold cCons; rw [a]; rw [r]
theorem ev_fn {σ : SD} {η : Hd} {f : FN} {A : CA} {ds : List D} {d : D} (a : EvA A σ η ds) (h : f ds η = some (d, η)) : Ev (cFn f A) σ η d := fun kv kx => by
  unfold cFn; rw [a]; rw [h]
theorem get_set_ne {η : Hd} {r q : Nat} {c : Cell} (h : q ≠ r) : (η.set r c).get q = η.get q := by rw [Hd.get_set, if_neg h]
theorem get_set_eq {η : Hd} {r : Nat} {c c0 : Cell} (h : η.get r = some c0) : (η.set r c).get r = some c := by rw [Hd.get_set, if_pos rfl, h]; rfl
theorem get_new_ne {η : Hd} {q : Nat} {c : Cell} (h : q < η.nx) : (η.new c).get q = η.get q := by rw [Hd.get_new, if_neg (Nat.ne_of_lt h)]
theorem get_new_eq {η : Hd} {c : Cell} : (η.new c).get η.nx = some c := by rw [Hd.get_new, if_pos rfl]
end DL

/-! sorted of rows of rows of ints -/
namespace DL
open PySem PySem.Spec L2
/-! ### an order of rows by an order of their things -/
section
variable {α : Type} {lt : α → α → Bool}
end
/-! ### the machine -/
section
variable {prog : Program} {w : World} {A : Around} {E : Value → Shared → Prop} {s : Shared}
inductive Rows2 (h : Heap) : List Value → List (List Int) → Prop
  | nil : Rows2 h [] []
  | cons {x : Value} {r : List Int} {xs : List Value} {rs : List (List Int)} : IsRow h x r → Rows2 h xs rs → Rows2 h (x :: xs) (r :: rs)
theorem Rows2.len {h : Heap} {xs : List Value} {rs : List (List Int)} (a : Rows2 h xs rs) : xs.length = rs.length := by
  induction a with
  | nil => rfl
  | cons _ _ ih => simp [ih]
theorem Rows2.keeps {h h' : Heap} {xs : List Value} {rs : List (List Int)} (a : Rows2 h xs rs) (k : ∀ b o, h.get? b = some o → o.cls = .type "tuple" → h'.get? b = some o) : Rows2 h' xs rs := by
  induction a with
  | nil => exact .nil
  | cons r _ ih => exact .cons (r.keeps k) ih
def IsRow2 (h : Heap) (v : Value) (rs : List (List Int)) : Prop := ∃ (a : Addr) (o : Obj) (xs : List Value) (n : Nat), v = .ref a ∧ h.get? a = some o ∧ o.cls = .type "tuple" ∧ o.data = .seq xs.toArray n ∧ Rows2 h xs rs
theorem IsRow2.keeps {h h' : Heap} {v : Value} {rs : List (List Int)} (r : IsRow2 h v rs) (k : ∀ b o, h.get? b = some o → o.cls = .type "tuple" → h'.get? b = some o) : IsRow2 h' v rs := by
  obtain ⟨a, o, xs, n, e, h1, h2, h3, h4⟩ := r
  exact ⟨a, o, xs, n, e, k a o h1 h2, h2, h3, h4.keeps k⟩
theorem IsRow.key {h : Heap} {a : Addr} {ns : List Int} (r : IsRow h (.ref a) ns) : IsTupleKey (intKind prog w) h ns a := by
  obtain ⟨a', o, xs, n, e, h1, h2, h3, h4⟩ := r
  cases e
  exact ⟨o, _, n, h1, h2, h3, items_of_vals h4⟩
end
end DL

/-! sorted of rows of rows of ints: the rule, the reading -/
namespace DL
open PySem PySem.Spec L2
section
variable {X : Cx} {N : Nm} {E : XK}
/-! ### read by trees -/
end
end DL

/-! isinstance(x, int), isinstance(x, tuple) -/
namespace DL
open PySem PySem.Spec L2
/-- false: int; true: tuple -/
def isTy (t : Bool) : D → Option Bool
  | .int _ => some (!t)
  | .tup _ => some t
  | .ftup _ => some t
  | .non => some false
  | .str _ => some false
  | _ => none
def tyN (t : Bool) : String := match t with
  | false => "int"
  | true => "tuple"
theorem kit_ii (K : PySem.W.Frag) : PySem.W.kitOne K (.type "int") (.type "int") = some true := by rfl
theorem kit_it (K : PySem.W.Frag) : PySem.W.kitOne K (.type "int") (.type "tuple") = some false := by first | rfl | kernel_rfl
theorem kit_ti (K : PySem.W.Frag) : PySem.W.kitOne K (.type "tuple") (.type "int") = some false := by first | rfl | kernel_rfl
theorem kit_tt (K : PySem.W.Frag) : PySem.W.kitOne K (.type "tuple") (.type "tuple") = some true := by rfl
theorem kit_ni (K : PySem.W.Frag) : PySem.W.kitOne K (.type "NoneType") (.type "int") = some false := by first | rfl | kernel_rfl
theorem kit_nt (K : PySem.W.Frag) : PySem.W.kitOne K (.type "NoneType") (.type "tuple") = some false := by first | rfl | kernel_rfl
theorem kit_si (K : PySem.W.Frag) : PySem.W.kitOne K (.type "str") (.type "int") = some false := by first | rfl | kernel_rfl
theorem kit_st (K : PySem.W.Frag) : PySem.W.kitOne K (.type "str") (.type "tuple") = some false := by first | rfl | kernel_rfl
section
variable {X : Cx} {N : Nm} {E : XK}
end
end DL

/-! range going down by ones -/
namespace DL
open PySem PySem.Spec L2
section
variable {X : Cx} {N : Nm} {E : XK}
end
end DL

/-! what a piece of a reading does, said of all values: pure expressions, walks, heaps that grow -/
namespace DL
open PySem PySem.Spec L2
/-! ### lists told by a function -/
def tab {α : Type} (r : Nat) (f : Nat → α) : List α := (List.range r).map f
theorem tab_len {α : Type} {r : Nat} {f : Nat → α} : (tab r f).length = r := by simp [tab]
theorem tab_get {α : Type} {r k : Nat} {f : Nat → α} (h : k < r) : (tab r f)[k]? = some (f k) := by
  simp [tab, List.getElem?_range h]
theorem tab_ext {α : Type} {r : Nat} {f g : Nat → α} (h : ∀ i, i < r → f i = g i) : tab r f = tab r g := by
  unfold tab
  exact List.map_congr_left fun i hi => h i (List.mem_range.mp hi)
theorem tab_set {α : Type} {r k : Nat} {f : Nat → α} {v : α} : (tab r f).set k v = tab r (fun i => if i = k then v else f i) := by
  apply List.ext_getElem?
  intro i
  by_cases hi : i < r
  · rw [tab_get hi]
    by_cases e : i = k
    · subst e; rw [List.getElem?_set_self (by rw [tab_len]; exact hi), if_pos rfl]
    · rw [List.getElem?_set_ne (Ne.symm e), tab_get hi, if_neg e]
  · rw [List.getElem?_eq_none (by rw [List.length_set, tab_len]; omega), List.getElem?_eq_none (by rw [tab_len]; omega)]
abbrev iD (i : Int) : D := .int i
/-- a row of ints, rows of ints -/
def iRow (r : Nat) (f : Nat → Int) : List D := tab r (fun i => iD (f i))
/-! ### sums -/
def sumTo (t : Nat) (f : Nat → Int) : Int := match t with
  | 0 => 0
  | t + 1 => sumTo t f + f t
theorem sumTo_ext : ∀ {t : Nat} {f g : Nat → Int}, (∀ i, i < t → f i = g i) → sumTo t f = sumTo t g
  | 0, _, _, _ => rfl
  | t + 1, f, g, h => by rw [sumTo, sumTo, sumTo_ext (fun i hi => h i (by omega)), h t (by omega)]
theorem sumTo_zero : ∀ {t : Nat}, sumTo t (fun _ => 0) = 0
  | 0 => rfl
  | t + 1 => by rw [sumTo, sumTo_zero]; rfl
/-! ### pure expressions -/
section
variable {σ : SD} {η : Hd} {A B : CE}
theorem list_cases {r : Nat} {l : List D} (h : η.list r = some l) : η.get r = some (.lst l) ∨ η.get r = some (.frz l) := by
  unfold Hd.list at h
  split at h
  · rename_i e; cases h; exact .inl e
  · rename_i e; cases h; exact .inr e
  · cases h
theorem list_lst {r : Nat} {l : List D} (h : η.get r = some (.lst l)) : η.list r = some l := by unfold Hd.list; rw [h]
theorem list_frz {r : Nat} {l : List D} (h : η.get r = some (.frz l)) : η.list r = some l := by unfold Hd.list; rw [h]
theorem ev_ixL {r : Nat} {l : List D} {k : Nat} {d : D} (a : Ev A σ η (.ref r)) (hl : η.list r = some l) (b : Ev B σ η (.int (Int.ofNat k))) (h : l[k]? = some d) : Ev (cOp fIx A B) σ η d := ev_op a b (by
  have e : (match atD l (Int.ofNat k) with | some d => some (d, η) | none => none) = some (d, η) := by show (match l[k]? with | some d => some (d, η) | none => none) = _; rw [h]
  rcases list_cases hl with q | q
  · simp only [fIx, q]; exact e
  · simp only [fIx, q]; exact e)
theorem ieq_dec (i j : Int) : ieq i j = decide (i = j) := by
  rw [ieq_eq]
  by_cases h : i = j
  · subst h; simp
  · simp [h]
theorem ev_lenL {r : Nat} {l : List D} (a : Ev A σ η (.ref r)) (h : η.list r = some l) : Ev (cFn (f1 gLenA) (cCons A cNil)) σ η (.int (Int.ofNat l.length)) := ev_fn (eva_cons a eva_nil) (by
  rcases list_cases h with q | q
  · simp only [f1, gLenA, q, gLen]
  · simp only [f1, gLenA, q, gLen])
end
/-! ### what the statements are -/
section
variable {σ : SD} {η : Hd} {K : KS} {kv : KV} {kx : KX}
theorem w_sub {c a b : CE} : sAsg c (gSb a b) σ η K = c σ η (fun d η1 => a σ η1 (fun x η2 => b σ η2 (fun y η3 => match fSet x y d η3 with
  | some η4 => K.nx σ η4
  | none => false) K.xc) K.xc) K.xc := rfl
theorem w_fn1 {f : FN} {A : CE} : cFn f (cCons A cNil) σ η kv kx = A σ η (fun d η1 => match f [d] η1 with
  | some (d, η2) => kv d η2
  | none => false) kx := rfl
theorem w_var {i : Nat} {d : D} (h : σ[i]? = some (some d)) : cVar i σ η kv kx = kv d η := ev_var h kv kx
end
/-! ### walks -/
section
variable {σ : SD} {η : Hd} {A B C : CE}
/-- the heap behind a list that is read alone from here on -/
def frzd (η : Hd) (v : D) : Hd := match v with
  | .ref r => match η.get r with
    | some (.lst l) => frzAt r l η
    | _ => η
  | _ => η
/-- what a value has, read as a row -/
def rowAt (η : Hd) (v : D) : Option (List D) := match v with
  | .tup l => some l
  | .ref r => η.list r
  | _ => none
end
/-! ### heaps that grow: lists of S may be read alone from now on -/
def Gr (S : List Nat) (η η' : Hd) : Prop := η.nx ≤ η'.nx ∧ ∀ q, q < η.nx → η'.get q = η.get q ∨ (q ∈ S ∧ ∃ l, η.get q = some (.lst l) ∧ η'.get q = some (.frz l))
section
variable {S : List Nat} {η η1 η2 : Hd}
theorem Gr.refl (S : List Nat) (η : Hd) : Gr S η η := ⟨Nat.le_refl _, fun _ _ => .inl rfl⟩
theorem Gr.trans (a : Gr S η η1) (b : Gr S η1 η2) : Gr S η η2 := ⟨Nat.le_trans a.1 b.1, fun q h => by
  rcases b.2 q (Nat.lt_of_lt_of_le h a.1) with e | ⟨hs, l, e1, e2⟩
  · rcases a.2 q h with f | ⟨hs, l, f1, f2⟩
    · exact .inl (e.trans f)
    · exact .inr ⟨hs, l, f1, e.trans f2⟩
  · rcases a.2 q h with f | ⟨_, l', f1, f2⟩
    · exact .inr ⟨hs, l, f.symm.trans e1, e2⟩
    · rw [e1] at f2; cases f2⟩
theorem Gr.sub {T : List Nat} (a : Gr S η η1) (h : ∀ q ∈ S, q < η.nx → q ∈ T) : Gr T η η1 := ⟨a.1, fun q hq => (a.2 q hq).imp id fun ⟨hs, r⟩ => ⟨h q hs hq, r⟩⟩
theorem Gr.list (a : Gr S η η1) {q : Nat} {l : List D} (h : q < η.nx) (e : η.list q = some l) : η1.list q = some l := by
  rcases a.2 q h with f | ⟨_, l', f1, f2⟩
  · rcases list_cases e with g | g
    · exact list_lst (f.trans g)
    · exact list_frz (f.trans g)
  · rcases list_cases e with g | g
    · rw [f1] at g; cases g; exact list_frz f2
    · rw [f1] at g; cases g
theorem Gr.get (a : Gr S η η1) {q : Nat} {c : Cell} (h : q < η.nx) (e : η.get q = some c) (hc : ∀ l, c ≠ .lst l) : η1.get q = some c := by
  rcases a.2 q h with f | ⟨_, l', f1, f2⟩
  · exact f.trans e
  · rw [e] at f1; exact absurd (Option.some.inj f1) (hc l')
theorem Gr.keep (a : Gr S η η1) {q : Nat} (h : q < η.nx) (hs : q ∉ S) : η1.get q = η.get q := by
  rcases a.2 q h with f | ⟨z, _⟩
  · exact f
  · exact absurd z hs
theorem Gr.new {c : Cell} : Gr S η (η.new c) := ⟨Nat.le_succ _, fun q h => .inl (get_new_ne h)⟩
theorem Gr.bump : Gr S η (Hd.bump η) := ⟨Nat.le_succ _, fun q h => .inl rfl⟩
theorem Gr.add {g : Nat} {c : Cell} {η0 : Hd} (h : η0.nx ≤ g) (a : Gr S η0 η) : Gr S η0 (η.add g c) := ⟨a.1, fun q hq => by
  rw [Hd.get_add, if_neg (by omega)]; exact a.2 q hq⟩
theorem Gr.frzd {v : D} (h : ∀ r l, v = .ref r → η.get r = some (.lst l) → r ∈ S) : Gr S η (frzd η v) := by
  unfold DL.frzd
  split
  · rename_i r
    split
    · rename_i l e
      refine ⟨Nat.le_refl _, fun q hq => ?_⟩
      show (η.set r (.frz l)).get q = _ ∨ _
      by_cases z : q = r
      · subst z
        exact .inr ⟨h q l rfl e, l, e, get_set_eq e⟩
      · exact .inl (get_set_ne z)
    · exact Gr.refl _ _
  · exact Gr.refl _ _
theorem frzd_nx {v : D} : (DL.frzd η v).nx = η.nx := by
  unfold DL.frzd
  split
  · split
    · rfl
    · rfl
  · rfl
theorem Gr.row (a : Gr S η η1) {v : D} {l : List D} (h : ∀ r, v = .ref r → r < η.nx) (e : rowAt η v = some l) : rowAt η1 v = some l := by
  unfold rowAt at e ⊢
  split at e
  · exact e
  · rename_i r; exact a.list (h r rfl) e
  · cases e
end
/-! ### comprehensions -/
end DL
namespace DL
open PySem PySem.Spec L2
section
variable {σ : SD} {η : Hd} {K : KS} {kv : KV} {kx : KX}
end
end DL

/-! marks: counts, parted, products, for all numbers -/
namespace DL
open PySem PySem.Spec L2
structure MkOk (r : Nat) (m : Nat → Nat → Int) : Prop where
  tri : ∀ i k, k < r → i < k → m i k = 0
  dia : ∀ k, k < r → 0 < m k k
  nn : ∀ i k, i < r → k < r → 0 ≤ m i k ∧ m i k ≤ 1000
  r9 : r ≤ 100
def mkD (r : Nat) (m : Nat → Nat → Int) : D := .tup (tab r (fun i => .tup (iRow r (m i))))
/-- a def that gives d of the one cell C -/
def Gives1 (F : CF) (C : Cell) (d : D) : Prop := ∀ g η kv kx, η.get g = some C → kv d η = true → F [.ref g] η kv kx = true
/-- a value that stands: its cell is there -/
structure Row (S : List Nat) (η : Hd) (v : D) (l : List D) : Prop where
  at_ : rowAt η v = some l
  lt : ∀ q, v = .ref q → q < η.nx
  mem : ∀ q, v = .ref q → q ∈ S
theorem Row.mono {S : List Nat} {η η' : Hd} {v : D} {l : List D} (h : Row S η v l) (x : Gr S η η') : Row S η' v l := ⟨x.row h.lt h.at_, fun q e => Nat.lt_of_lt_of_le (h.lt q e) x.1, h.mem⟩
theorem Row.frz {S : List Nat} {η : Hd} {v : D} {l : List D} (h : Row S η v l) : Gr S η (frzd η v) := Gr.frzd fun r _ e _ => h.mem r e
end DL
namespace DL
open PySem PySem.Spec L2
section
variable {S : List Nat} {η0 η : Hd}
theorem Gr.setN {q : Nat} {c : Cell} (h : η0.nx ≤ q) (a : Gr S η0 η) : Gr S η0 (η.set q c) := ⟨a.1, fun p hp => by
  rw [get_set_ne (by omega)]; exact a.2 p hp⟩
theorem frzd_ref (η : Hd) (r : Nat) : frzd η (.ref r) = η ∨ ∃ l, frzd η (.ref r) = η.set r (.frz l) := by
  simp only [frzd]
  split
  · rename_i l _; exact .inr ⟨l, rfl⟩
  · exact .inl rfl
theorem Gr.frzN {r : Nat} (h : η0.nx ≤ r) (a : Gr S η0 η) : Gr S η0 (DL.frzd η (.ref r)) := by
  rcases frzd_ref η r with e | ⟨l, e⟩
  · rw [e]; exact a
  · rw [e]; exact a.setN h
theorem fSet_at {r t n : Nat} {v : D} {l : List D} (h : η.get r = some (.lst l)) (hl : l.length = n) (ht : t < n) : fSet (.ref r) (.int (Int.ofNat t)) v η = some (η.set r (.lst (l.set t v))) := by
  have : ixD l.length (Int.ofNat t) = some t := by
    unfold ixD
    have : Nat.blt t l.length = true := Nat.ble_eq_true_of_le (by omega)
    simp [this]
  simp only [fSet, h, this]
end
end DL

namespace DL
open PySem PySem.Spec L2
end DL

/-! marks: products of ways, the law's walk with numbers that nobody knows -/
namespace DL
open PySem PySem.Spec L2
/-- a group's marks, its cell -/
structure Gm (Fm : CF) (C : Cell) (r : Nat) (m : Nat → Nat → Int) : Prop where
  M : MkOk r m
  hM : Gives1 Fm C (mkD r m)
  nl : ∀ l, C ≠ .lst l
section
variable {Fm : CF} {C : Cell} {r : Nat} {m : Nat → Nat → Int}
end
/-! ### the law -/
section
variable (Fc Fp Fpr Fpt Fo : CF)
end
/-- the state behind the rolls -/
structure L37 (C : Cell) (r : Nat) (R : List D) (n p : Nat → Nat) (σ : SD) (η : Hd) (q : Nat) (x3 x6 x7 x8 : Option D) : Prop where
  sl : ∃ x0 x2 x9 x12 x13 x14 x15, σ = [x0, some (.ref 0), x2, x3, some (.ref q), some (.ref (q + 1)), x6, x7, x8, x9, some (.ref 1), some (.tup R), x12, x13, x14, x15]
  dice : η.get 0 = some .dice
  cell : η.get 1 = some C
  q2 : 2 ≤ q
  nx : q + 2 ≤ η.nx
  one : η.list q = some (iRow r (fun i => Int.ofNat (n i)))
  two : η.list (q + 1) = some (iRow r (fun i => Int.ofNat (p i)))
theorem L37.mono {C : Cell} (hC : ∀ l, C ≠ .lst l) {r : Nat} {R : List D} {n p : Nat → Nat} {σ : SD} {η η' : Hd} {q : Nat} {x3 x6 x7 x8 : Option D} (h : L37 C r R n p σ η q x3 x6 x7 x8) {S : List Nat} (x : Gr S η η') : L37 C r R n p σ η' q x3 x6 x7 x8 :=
  ⟨h.sl, x.get (by have := h.nx; have := h.q2; omega) h.dice (fun _ e => nomatch e), x.get (by have := h.nx; have := h.q2; omega) h.cell hC, h.q2, Nat.le_trans h.nx x.1, x.list (by have := h.nx; omega) h.one, x.list (by have := h.nx; omega) h.two⟩
end DL

/-! marks: the law's walk -/
namespace DL
open PySem PySem.Spec L2
section
variable {Fm : CF} {C : Cell} {r : Nat} {m : Nat → Nat → Int} {R : List D}
/-- what is known of a group: marks, and how products of its kinds are told by kinds -/
structure Gkn (Fm : CF) (C : Cell) (r : Nat) (m : Nat → Nat → Int) (s : Nat → Nat → Nat → Int) : Prop extends Gm Fm C r m where
  r0 : 0 < r
  r9 : r ≤ 10
  mb : ∀ i j, i < r → j < r → m i j ≤ 1000
  sn : ∀ i j k, i < r → j < r → k < r → 0 ≤ s i j k
  st : ∀ i j l, i < r → j < r → l < r → m i l * m j l = sumTo r (fun k => s i j k * m k l)
variable {s : Nat → Nat → Nat → Int}
abbrev oN (n : Nat → Nat) (i : Nat) : Int := Int.ofNat (n i)
section
variable (G : Gkn Fm C r m s) (hR : R.length = r) {n p : Nat → Nat} (hn : ∀ i, i < r → n i < 3) (hp : ∀ i, i < r → p i < 3)
theorem L37.rows {σ : SD} {η : Hd} {q : Nat} {x3 x6 x7 x8 : Option D} (h : L37 C r R n p σ η q x3 x6 x7 x8) : Row [q, q + 1] η (.ref q) (iRow r (oN n)) ∧ Row [q, q + 1] η (.ref (q + 1)) (iRow r (oN p)) :=
  ⟨⟨h.one, fun _ e => by cases e; have := h.nx; omega, fun _ e => by cases e; simp⟩, ⟨h.two, fun _ e => by cases e; have := h.nx; omega, fun _ e => by cases e; simp⟩⟩
include G hn hp in
include G hn hp in
include G hn hp in
include G hR hn hp in
include G hn hp in
end
end
end DL

set_option maxHeartbeats 4000000
/-! a tuple once -/
namespace DL
open PySem PySem.Spec PyProof.Rows L2
section
variable {X : Cx} {N : Nm} {E : XK}
end
end DL

/-! name.f op= e -/
namespace DL
open PySem PySem.Spec L2
section
variable {X : Cx} {N : Nm} {E : XK}
end
end DL

/-! what an expression gives, whatever the heap has grown by: values (Yl), new lists (Yn), walks (Iw) -/
namespace DL
open PySem PySem.Spec L2
/-- a def's results -/
def Fl (S : List Nat) (F : CF) (ds : List D) (η : Hd) (d : D) : Prop := ∀ (kv : KV) (kx : KX), (∀ η', Gr S η η' → kv d η' = true) → F ds η kv kx = true
section
variable {S : List Nat} {σ : SD} {η : Hd} {A B C : CE}
/-- the instance's cell stands -/
structure Ins (c g : Nat) (fs : List (Nat × D)) (η : Hd) : Prop where
  get : η.get g = some (.ins c fs)
  lt : g < η.nx
theorem Ins.mono {c g : Nat} {fs : List (Nat × D)} {η' : Hd} (h : Ins c g fs η) (x : Gr S η η') : Ins c g fs η' := ⟨x.get h.lt h.get (fun _ e => nomatch e), Nat.lt_of_lt_of_le h.lt x.1⟩
theorem Ins.at {c g : Nat} {fs : List (Nat × D)} (h : Ins c g fs η) : insAt c η (.ref g) = some (g, fs) := by simp only [insAt, h.get, Nat.beq_refl]
end
/-! comprehensions, sums -/
section
variable {S : List Nat}
end
end DL

/-! sums by lengths: value, plus, power_by, spread, gathered, rolled, for all numbers -/
namespace DL
open PySem PySem.Spec L2
/-! rows that are equal -/
/-- the things of a group of sums: rows that differ -/
structure Sg (N n : Nat) (bot : Nat) (len : Nat → Int) (x : Nat → Nat → Int) (s : Nat → Nat → Nat) : Prop where
  N1 : 1 ≤ N
  N9 : N ≤ 100
  n9 : n ≤ 10
  b1 : 1 ≤ bot
  b9 : bot ≤ 1000
  l1 : ∀ q, q < n → 1 ≤ len q ∧ len q ≤ 1000
  x0 : ∀ i q, i < N → q < n → 0 ≤ x i q ∧ x i q ≤ 1000
  sN : ∀ i j, i < N → j < N → s i j < N
  sx : ∀ i j q, i < N → j < N → q < n → (x i q + x j q) % len q = x (s i j) q
  inj : ∀ i j, i < N → j < N → (∀ q, q < n → x i q = x j q) → i = j
/-- the fields of a group of sums -/
def sF (N n : Nat) (len : Nat → Int) : List (Nat × D) := [(0, .tup (iRow n len)), (1, iD (Int.ofNat N))]
def Th (n : Nat) (x : Nat → Nat → Int) (i : Nat) : D := .tup (iRow n (x i))
section
variable {N n bot : Nat} {len : Nat → Int} {x : Nat → Nat → Int} {s : Nat → Nat → Nat}
end
/-! the defs -/
section
variable (c : Nat) (Fw Fth Fv Fp Fpb Fs : CF)
end
/-- the powers of a root -/
def pw (w p : Int) : Nat → Int
  | 0 => 1
  | k + 1 => pw w p k * w % p
section
variable {S : List Nat}
variable {N n bot : Nat} {len : Nat → Int} {x : Nat → Nat → Int} {s : Nat → Nat → Nat} {c g : Nat} {Fw Fth : CF}
/-- what is known of a group's own defs -/
structure Kn (S : List Nat) (N n bot : Nat) (len : Nat → Int) (x : Nat → Nat → Int) (c : Nat) (Fw Fth : CF) : Prop where
  w : ∀ η, Fl S Fw [.tup (iRow n len)] η (iD (Int.ofNat bot))
  th : ∀ g η, Ins c g (sF N n len) η → Fl S Fth [.ref g] η (.tup (tab N (Th n x)))
end
end DL

/-! sums by lengths: gathered, rolled -/
namespace DL
open PySem PySem.Spec L2
section
variable {S : List Nat} {N n bot : Nat} {len : Nat → Int} {x : Nat → Nat → Int} {s : Nat → Nat → Nat} {c g : Nat} {Fw Fth : CF}
/-! rolled -/
def kvT (N n : Nat) (x : Nat → Nat → Int) : List (D × D) := tab N (fun i => (Th n x i, iD (Int.ofNat i)))
/-- the cells of rolled's loops -/
structure RJ (S : List Nat) (N n : Nat) (len : Nat → Int) (x : Nat → Nat → Int) (c g pl fc : Nat) (η0 η : Hd) (F : Nat → Int) : Prop where
  I : Ins c g (sF N n len) η
  gp : η.get pl = some (.dct true (kvT N n x))
  gc : η.get fc = some (.lst (iRow N F))
  gr : Gr S η0 η
  p0 : η0.nx ≤ pl
  f0 : η0.nx ≤ fc
  ne : pl ≠ fc
  p1 : pl < η.nx
  f1 : fc < η.nx
  g0 : g < η0.nx
theorem RJ.mono {pl fc : Nat} {η0 η η' : Hd} {F : Nat → Int} {T : List Nat} (h : RJ S N n len x c g pl fc η0 η F) (y : Gr T η η') (hT : ∀ q ∈ T, q ∈ S ∧ q < η0.nx) : RJ S N n len x c g pl fc η0 η' F :=
  ⟨h.I.mono y, by rw [y.keep h.p1 (fun z => by have := (hT _ z).2; have := h.p0; omega)]; exact h.gp, by rw [y.keep h.f1 (fun z => by have := (hT _ z).2; have := h.f0; omega)]; exact h.gc, h.gr.trans (y.sub fun q hq _ => (hT q hq).1), h.p0, h.f0, h.ne, Nat.lt_of_lt_of_le h.p1 y.1, Nat.lt_of_lt_of_le h.f1 y.1, h.g0⟩
end
end DL

/-! sums by lengths: the numbers' part; lists of lists, laid flat -/
namespace DL
open PySem PySem.Spec L2
/-! ### numbers -/
theorem sumTo_single {t m : Nat} (hm : m < t) {f : Nat → Int} : sumTo t (fun k => if k = m then f k else 0) = f m := by
  induction t with
  | zero => omega
  | succ t ih =>
    rw [sumTo]
    by_cases e : m = t
    · subst e
      rw [if_pos rfl, sumTo_ext (g := fun _ => 0) (fun i hi => if_neg (by omega)), sumTo_zero, Int.zero_add]
    · rw [ih (by omega), if_neg (fun h => e h.symm), Int.add_zero]
section
variable {N : Nat} {z y : Nat → Int} {P Q : Nat → Nat → Int} {u p : Int} {s : Nat → Nat → Nat}
end
/-! ### lists of ints, flat -/
section
variable {S : List Nat}
end
end DL

/-! sums by lengths: the law's walk (printed by k27y.py) -/
namespace DL
open PySem PySem.Spec L2
section
variable {S : List Nat} {σ : SD} {η : Hd} {A B C : CE}
end
section
variable {N n bot : Nat} {len : Nat → Int} {x : Nat → Nat → Int} {s : Nat → Nat → Nat} {c : Nat} {Fw Fth : CF} {w : Int} {z y : Nat → Int} {q : Nat}
/-- the cells -/
structure H27 (N n : Nat) (len : Nat → Int) (c : Nat) (η : Hd) : Prop where
  dice : η.get 0 = some .dice
  I : Ins c 1 (sF N n len) η
theorem H27.mono {S : List Nat} {η η' : Hd} (h : H27 N n len c η) (x : Gr S η η') : H27 N n len c η' := ⟨x.get (by have := h.I.lt; omega) h.dice (fun _ e => nomatch e), h.I.mono x⟩
structure R27 (N : Nat) (z y : Nat → Int) (q : Nat) (η : Hd) : Prop where
  a : η.list q = some (iRow N z)
  b : η.list (q + 1) = some (iRow N y)
  l : q + 1 < η.nx
  z9 : ∀ k, k < N → (z k).natAbs ≤ 4
  y9 : ∀ k, k < N → (y k).natAbs ≤ 4
theorem R27.mono {S : List Nat} {η η' : Hd} (h : R27 N z y q η) (x : Gr S η η') : R27 N z y q η' := ⟨x.list (by have := h.l; omega) h.a, x.list h.l h.b, Nat.lt_of_lt_of_le h.l x.1, h.z9, h.y9⟩
theorem R27.rb {η : Hd} (h : R27 N z y q η) : Row [q, q + 1] η (.ref (q + 1)) (iRow N y) := ⟨h.b, fun _ e => by cases e; exact h.l, fun _ e => by cases e; simp⟩
theorem R27.S {η : Hd} (h : R27 N z y q η) : ∀ p ∈ [q, q + 1], p < η.nx := fun p hp => by
  have := h.l
  simp only [List.mem_cons, List.not_mem_nil, or_false] at hp
  omega

end
end DL

/-! determinants of two, three, four rows (printed by k30a.py) -/
namespace DL
abbrev Mt := Nat → Nat → Int
def adR (m : Mt) (k d : Nat) (t : Int) : Mt := fun i j => if i = k then m k j + t * m d j else m i j
def swapR (m : Mt) (a b : Nat) : Mt := fun i j => if i = a then m b j else if i = b then m a j else m i j
def scaleR (m : Mt) (d : Nat) (u : Int) : Mt := fun i j => if i = d then m d j * u else m i j
def prodTo (t : Nat) (f : Nat → Int) : Int := match t with
  | 0 => 1
  | t + 1 => prodTo t f * f t
structure DetOk (n : Nat) (det : Mt → Int) : Prop where
  ext : ∀ {m m' : Mt}, (∀ i c, i < n → c < n → m i c = m' i c) → det m = det m'
  cong : ∀ {m m' : Mt} {p : Int}, (∀ i c, i < n → c < n → m i c % p = m' i c % p) → det m % p = det m' % p
  add : ∀ {m : Mt} {k d : Nat} {t : Int}, k < n → d < n → k ≠ d → det (adR m k d t) = det m
  swap : ∀ {m : Mt} {a b : Nat}, a < n → b < n → a ≠ b → det (swapR m a b) = -det m
  scale : ∀ {m : Mt} {d : Nat} {u : Int}, d < n → det (scaleR m d u) = det m * u
  zero : ∀ {m : Mt} {i : Nat}, i < n → (∀ c, c < n → m i c = 0) → det m = 0
  diag : ∀ {m : Mt}, (∀ i c, i < n → c < n → i ≠ c → m i c = 0) → det m = prodTo n (fun i => m i i)
  col : ∀ {m : Mt} {j : Nat}, j < n → (∀ i c, i < n → c < j → i ≠ c → m i c = 0) → (∀ i, j ≤ i → i < n → m i j = 0) → det m = 0
theorem em_mul {p a b c d : Int} (h : a % p = b % p) (k : c % p = d % p) : (a * c) % p = (b * d) % p := by rw [Int.mul_emod, h, k, ← Int.mul_emod]
end DL

/-! grids by a prime: rows cleared, in plain words -/
namespace DL
/-- what is asked of a prime -/
structure PrOk (p : Int) (e : Nat) : Prop where
  p2 : 2 ≤ p
  p9 : p ≤ 100
  pe : p - 2 = Int.ofNat e
  e9 : e ≤ 100
  inv : ∀ x, 0 < x → x < p → (x * pw x p e) % p = 1
  dom : ∀ x y, 0 < x → x < p → 0 < y → y < p → (x * y) % p ≠ 0
section
variable {n : Nat} {det : Mt → Int} {p : Int} {e : Nat}
theorem emod_of_lt {a : Int} (h0 : 0 ≤ a) (h1 : a < p) : a % p = a := Int.emod_eq_of_lt h0 h1
theorem PrOk.rg (P : PrOk p e) (a : Int) : 0 ≤ a % p ∧ a % p < p := ⟨Int.emod_nonneg _ (by have := P.p2; omega), Int.emod_lt_of_pos _ (by have := P.p2; omega)⟩
theorem PrOk.mul0 (P : PrOk p e) {a b : Int} (ha : a % p ≠ 0) (hb : b % p ≠ 0) : (a * b) % p ≠ 0 := by
  rw [Int.mul_emod]
  have h1 := P.rg a
  have h2 := P.rg b
  exact P.dom _ _ (by omega) h1.2 (by omega) h2.2
/-- all rows but d less so many times d -/
def elimR (p : Int) (m : Mt) (d j : Nat) : Mt := fun i c => if i = d then m d c else (m i c - m i j * m d c) % p
def elimZ (m : Mt) (d j : Nat) (t : Nat) : Mt := fun i c => if i = d then m d c else if i < t then m i c - m i j * m d c else m i c
theorem det_elim (D : DetOk n det) {m : Mt} {d j : Nat} (hd : d < n) : det (elimR p m d j) % p = det m % p := by
  have h1 : ∀ t, t ≤ n → det (elimZ m d j t) = det m := by
    intro t
    induction t with
    | zero =>
      intro _
      refine D.ext fun i c _ _ => ?_
      unfold elimZ
      by_cases e : i = d
      · rw [if_pos e, e]
      · rw [if_neg e, if_neg (by omega)]
    | succ t ih =>
      intro ht
      rw [← ih (by omega)]
      by_cases e : t = d
      · refine D.ext fun i c _ _ => ?_
        unfold elimZ
        by_cases e2 : i = d
        · rw [if_pos e2, if_pos e2]
        · rw [if_neg e2, if_neg e2]
          by_cases e3 : i < t
          · rw [if_pos e3, if_pos (by omega)]
          · rw [if_neg e3, if_neg (by omega)]
      · rw [← D.add (m := elimZ m d j t) (k := t) (d := d) (t := -(m t j)) (by omega) hd e]
        refine D.ext fun i c _ _ => ?_
        unfold adR elimZ
        by_cases e2 : i = t
        · subst e2
          rw [if_pos rfl, if_neg e, if_pos (by omega), if_neg e, if_neg (by omega), if_pos rfl, Int.neg_mul]
          omega
        · rw [if_neg e2]
          by_cases e3 : i = d
          · rw [if_pos e3, if_pos e3]
          · rw [if_neg e3, if_neg e3]
            by_cases e4 : i < t
            · rw [if_pos e4, if_pos (by omega)]
            · rw [if_neg e4, if_neg (by omega)]
  rw [← h1 n (Nat.le_refl _)]
  refine D.cong fun i c hi _ => ?_
  unfold elimR elimZ
  by_cases e : i = d
  · rw [if_pos e, if_pos e]
  · rw [if_neg e, if_neg e, if_pos hi, Int.emod_emod]
structure ClI (n : Nat) (det : Mt → Int) (p : Int) (m0 : Mt) (j d : Nat) (w : Int) (m : Mt) : Prop where
  rg : ∀ i c, i < n → c < n → 0 ≤ m i c ∧ m i c < p
  dt : det m0 % p = (w * det m) % p
  w0 : w % p ≠ 0
  wb : w.natAbs ≤ 1000
  dj : d ≤ j
  jn : j ≤ n
  ec : ∀ i c, d ≤ i → i < n → c < j → m i c = 0
  un : d = j → ∀ i c, i < n → c < j → m i c = if i = c then 1 else 0
  nz : ∀ i, i < d → ∃ c, c < j ∧ m i c ≠ 0
theorem ClI.start (P : PrOk p e) {m0 : Mt} (h : ∀ i c, i < n → c < n → 0 ≤ m0 i c ∧ m0 i c < p) : ClI n det p m0 0 0 1 m0 :=
  ⟨h, by rw [Int.one_mul], by have := P.p2; rw [emod_of_lt (by omega) (by omega)]; decide, by decide, Nat.le_refl _, Nat.zero_le _, fun i c _ _ hc => absurd hc (by omega), fun _ i c _ hc => absurd hc (by omega), fun i hi => absurd hi (by omega)⟩
theorem ClI.none {m0 m : Mt} {j d : Nat} {w : Int} (C : ClI n det p m0 j d w m) (hj : j < n) (h : ∀ i, d ≤ i → i < n → m i j = 0) : ClI n det p m0 (j + 1) d w m :=
  ⟨C.rg, C.dt, C.w0, C.wb, Nat.le_succ_of_le C.dj, hj, fun i c h1 h2 h3 => by
    by_cases e : c = j
    · rw [e]; exact h i h1 h2
    · exact C.ec i c h1 h2 (by omega), fun e => absurd C.dj (by omega), fun i hi => by
    obtain ⟨c, h1, h2⟩ := C.nz i hi
    exact ⟨c, by omega, h2⟩⟩
def swR (m : Mt) (d h : Nat) : Mt := if h = d then m else swapR m d h
def swW (w : Int) (d h : Nat) : Int := if h = d then w else -w
def scR (p : Int) (m : Mt) (d : Nat) (u : Int) : Mt := fun i c => if i = d then m d c * u % p else m i c
theorem ClI.hit (D : DetOk n det) (P : PrOk p e) {m0 m : Mt} {j d h : Nat} {w u : Int} (C : ClI n det p m0 j d w m) (hj : j < n) (h1 : d ≤ h) (h2 : h < n) (h3 : m h j ≠ 0) (hu : (m h j * u) % p = 1) :
    ClI n det p m0 (j + 1) (d + 1) (swW w d h * m h j % p) (elimR p (scR p (swR m d h) d u) d j) := by
  have hp := P.p2
  have hd : d < n := by omega
  have dj := C.dj
  generalize hm1 : swR m d h = m1
  have r1 : ∀ i c, i < n → c < n → 0 ≤ m1 i c ∧ m1 i c < p := fun i c hi hc => by
    rw [← hm1]; unfold swR
    by_cases e : h = d
    · rw [if_pos e]; exact C.rg i c hi hc
    · rw [if_neg e]; unfold swapR
      split
      · exact C.rg h c h2 hc
      · split
        · exact C.rg d c hd hc
        · exact C.rg i c hi hc
  have x1 : ∀ c, m1 d c = m h c := fun c => by
    rw [← hm1]; unfold swR
    by_cases e : h = d
    · rw [if_pos e, e]
    · rw [if_neg e]; unfold swapR; rw [if_pos rfl]
  have o1 : ∀ i c, i < d → m1 i c = m i c := fun i c hi => by
    rw [← hm1]; unfold swR
    by_cases e : h = d
    · rw [if_pos e]
    · rw [if_neg e]; unfold swapR; rw [if_neg (by omega), if_neg (by omega)]
  have z1 : ∀ i c, d ≤ i → i < n → c < j → m1 i c = 0 := fun i c hi hin hc => by
    rw [← hm1]; unfold swR
    by_cases e : h = d
    · rw [if_pos e]; exact C.ec i c hi hin hc
    · rw [if_neg e]; unfold swapR
      split
      · exact C.ec h c h1 h2 hc
      · split
        · exact C.ec d c (Nat.le_refl _) hd hc
        · exact C.ec i c hi hin hc
  have d1 : swW w d h * det m1 = w * det m := by
    rw [← hm1]; unfold swW swR
    by_cases e : h = d
    · rw [if_pos e, if_pos e]
    · rw [if_neg e, if_neg e, D.swap hd h2 (fun z => e z.symm), Int.neg_mul_neg]
  generalize hm2 : scR p m1 d u = m2
  have a2 : ∀ c, m2 d c = m h c * u % p := fun c => by rw [← hm2]; unfold scR; rw [if_pos rfl, x1]
  have b2 : ∀ i c, i ≠ d → m2 i c = m1 i c := fun i c hi => by rw [← hm2]; unfold scR; rw [if_neg hi]
  have s2 : ∀ c, c < j → m2 d c = 0 := fun c hc => by rw [a2, C.ec h c h1 h2 hc, Int.zero_mul, Int.zero_emod]
  have t2 : m2 d j = 1 := by rw [a2, hu]
  have d2 : det m2 % p = (det m1 * u) % p := by
    rw [← D.scale hd]
    refine D.cong fun i c _ _ => ?_
    rw [← hm2]; unfold scR scaleR
    by_cases e : i = d
    · rw [if_pos e, if_pos e, Int.emod_emod]
    · rw [if_neg e, if_neg e]
  have hx := C.rg h j h2 hj
  have xm : m h j % p ≠ 0 := by rw [emod_of_lt hx.1 hx.2]; exact h3
  have w1 : swW w d h % p ≠ 0 := by
    unfold swW
    split
    · exact C.w0
    · intro z
      exact C.w0 (by
        have : p ∣ -w := Int.dvd_of_emod_eq_zero z
        exact Int.emod_eq_zero_of_dvd (Int.dvd_neg.mp this))
  have e3 : ∀ i c, i ≠ d → elimR p m2 d j i c = (m1 i c - m1 i j * m2 d c) % p := fun i c hi => by
    unfold elimR; rw [if_neg hi, b2 i c hi, b2 i j hi]
  have f3 : ∀ c, elimR p m2 d j d c = m2 d c := fun c => by unfold elimR; rw [if_pos rfl]
  have low : ∀ i c, i ≠ d → i < n → c < j → elimR p m2 d j i c = m1 i c := fun i c hi hin hc => by
    rw [e3 i c hi, s2 c hc, Int.mul_zero, Int.sub_zero]
    have := r1 i c hin (by omega)
    exact emod_of_lt this.1 this.2
  have colj : ∀ i, i ≠ d → elimR p m2 d j i j = 0 := fun i hi => by
    rw [e3 i j hi, t2, Int.mul_one, Int.sub_self, Int.zero_emod]
  refine ⟨fun i c hi hc => ?_, ?_, ?_, ?_, by omega, hj, fun i c h4 h5 h6 => ?_, fun ee i c hi hc => ?_, fun i hi => ?_⟩
  · by_cases e : i = d
    · rw [e, f3, a2]; exact P.rg _
    · rw [e3 i c e]; exact P.rg _
  · rw [C.dt, ← d1]
    have g1 : (swW w d h * m h j % p * det (elimR p m2 d j)) % p = (swW w d h * m h j * (det m1 * u)) % p := by
      refine em_mul (by rw [Int.emod_emod]) ?_
      rw [det_elim D hd, d2]
    rw [g1]
    have g2 : swW w d h * m h j * (det m1 * u) = (swW w d h * det m1) * (m h j * u) := by
      rw [Int.mul_assoc, Int.mul_assoc, Int.mul_left_comm (m h j)]
    have g3 : (swW w d h * det m1 * (m h j * u)) % p = (swW w d h * det m1 * 1) % p := em_mul rfl (by rw [hu, emod_of_lt (by omega) (by omega)])
    rw [g2, g3, Int.mul_one]
  · rw [Int.emod_emod]; exact P.mul0 w1 xm
  · have := P.rg (swW w d h * m h j)
    have := P.p9
    omega
  · have ne : i ≠ d := by omega
    by_cases e : c = j
    · rw [e]; exact colj i ne
    · rw [low i c ne h5 (by omega)]; exact z1 i c (by omega) h5 (by omega)
  · have de : d = j := by omega
    by_cases e : c = j
    · rw [e]
      by_cases e2 : i = d
      · rw [e2, f3, t2, if_pos (by omega)]
      · rw [colj i e2, if_neg (by omega)]
    · have hc' : c < j := by omega
      by_cases e2 : i = d
      · rw [e2, f3, s2 c hc', if_neg (by omega)]
      · rw [low i c e2 hi hc']
        by_cases e4 : i < d
        · rw [o1 i c e4]; exact C.un de i c hi hc'
        · rw [z1 i c (by omega) hi hc', if_neg (by omega)]
  · by_cases e : i = d
    · exact ⟨j, by omega, by rw [e, f3, t2]; decide⟩
    · obtain ⟨c, h4, h5⟩ := C.nz i (by omega)
      refine ⟨c, by omega, ?_⟩
      rw [low i c e (by omega) h4, o1 i c (by omega)]
      exact h5
end
end DL

/-! grids by a prime: lists of lists; rows cleared, walked -/
namespace DL
open PySem PySem.Spec L2
section
variable {S : List Nat} {σ : SD} {η η0 η' : Hd} {A B C : CE}
/-- a list of rows -/
structure Mat (n R : Nat) (m : Mt) (η0 η : Hd) : Prop where
  qs : ∃ q : Nat → Nat, η.get R = some (.lst (tab n (fun i => .ref (q i)))) ∧ ∀ i, i < n → η.list (q i) = some (iRow n (m i)) ∧ q i < η.nx ∧ q i ≠ R ∧ η0.nx ≤ q i
  R0 : η0.nx ≤ R
  R1 : R < η.nx
  gr : Gr [] η0 η
variable {n R : Nat} {m : Mt}
theorem Mat.mono (M : Mat n R m η0 η) (x : Gr [] η η') : Mat n R m η0 η' := by
  obtain ⟨q, h1, h2⟩ := M.qs
  exact ⟨⟨q, by rw [x.keep M.R1 (by simp)]; exact h1, fun i hi => by
    obtain ⟨a, b, c, d⟩ := h2 i hi
    exact ⟨x.list b a, Nat.lt_of_lt_of_le b x.1, c, d⟩⟩, M.R0, Nat.lt_of_lt_of_le M.R1 x.1, M.gr.trans x⟩
theorem Mat.ext {m' : Mt} (M : Mat n R m η0 η) (h : ∀ i c, i < n → c < n → m i c = m' i c) : Mat n R m' η0 η := by
  obtain ⟨q, h1, h2⟩ := M.qs
  refine ⟨⟨q, h1, fun i hi => ?_⟩, M.R0, M.R1, M.gr⟩
  obtain ⟨a, b⟩ := h2 i hi
  refine ⟨?_, b⟩
  rw [a]
  congr 1
  exact tab_ext fun c hc => by rw [h i c hi hc]
/-- a row may be read alone from now on -/
theorem Mat.frz (M : Mat n R m η0 η) {q : Nat} (hq : q ≠ R) (h0 : η0.nx ≤ q) : Mat n R m η0 (frzd η (.ref q)) := by
  have key : ∀ p l, η.list p = some l → (frzd η (.ref q)).list p = some l := fun p l h => by
    simp only [frzd]
    split
    · rename_i l' e
      show (η.set q (.frz l')).list p = some l
      by_cases z : p = q
      · subst z
        rw [list_lst e] at h
        cases h
        exact list_frz (get_set_eq e)
      · unfold Hd.list; rw [get_set_ne z]; exact h
    · exact h
  obtain ⟨qs, h1, h2⟩ := M.qs
  refine ⟨⟨qs, ?_, fun i hi => ?_⟩, M.R0, by rw [frzd_nx]; exact M.R1, M.gr.frzN h0⟩
  · rcases frzd_ref η q with e | ⟨l, e⟩
    · rw [e]; exact h1
    · rw [e, get_set_ne (Ne.symm hq)]; exact h1
  · obtain ⟨a, b, c, d⟩ := h2 i hi
    exact ⟨key _ _ a, by rw [frzd_nx]; exact b, c, d⟩
/-- rows[k] -/
theorem Mat.row (M : Mat n R m η0 η) {k : Nat} (hk : k < n) (a : Ev A σ η (.ref R)) (b : Ev B σ η (.int (Int.ofNat k))) : ∃ q, Ev (cOp fIx A B) σ η (.ref q) ∧ η.list q = some (iRow n (m k)) ∧ q < η.nx ∧ q ≠ R ∧ η0.nx ≤ q := by
  obtain ⟨q, h1, h2⟩ := M.qs
  exact ⟨q k, ev_ixL a (list_lst h1) b (tab_get hk), h2 k hk⟩
theorem Mat.len (M : Mat n R m η0 η) (a : Ev A σ η (.ref R)) : Ev (cFn (f1 gLenA) (cCons A cNil)) σ η (.int (Int.ofNat n)) := by
  obtain ⟨q, h1, _⟩ := M.qs
  have := ev_lenL a (list_lst h1)
  rw [tab_len] at this
  exact this
/-- rows[k] = a row -/
theorem Mat.set (M : Mat n R m η0 η) {k c : Nat} {f : Nat → Int} (hk : k < n) (hc : η.list c = some (iRow n f)) (c1 : c < η.nx) (c2 : c ≠ R) (c3 : η0.nx ≤ c) : ∃ l, fSet (.ref R) (.int (Int.ofNat k)) (.ref c) η = some (η.set R (.lst l)) ∧ Mat n R (fun i => if i = k then f else m i) η0 (η.set R (.lst l)) := by
  obtain ⟨q, h1, h2⟩ := M.qs
  refine ⟨_, fSet_at h1 tab_len hk, ⟨fun i => if i = k then c else q i, ?_, fun i hi => ?_⟩, M.R0, M.R1, M.gr.setN M.R0⟩
  · rw [get_set_eq h1, tab_set]
    congr 2
    exact tab_ext fun i _ => by
      by_cases e : i = k
      · dsimp only; rw [if_pos e, if_pos e]
      · dsimp only; rw [if_neg e, if_neg e]
  · obtain ⟨a, b, d, e⟩ := h2 i hi
    have gl : ∀ p, p ≠ R → (η.set R (.lst ((tab n (fun i => .ref (q i))).set k (.ref c)))).list p = η.list p := fun p hp => by unfold Hd.list; rw [get_set_ne hp]
    by_cases z : i = k
    · dsimp only; rw [if_pos z, if_pos z, gl c c2]
      exact ⟨hc, c1, c2, c3⟩
    · dsimp only; rw [if_neg z, if_neg z, gl _ d]
      exact ⟨a, b, d, e⟩
end
/-! ### turned -/
end DL

/-! grids by a prime: rows cleared, walked -/
namespace DL
open PySem PySem.Spec L2
section
variable {n R : Nat} {m m0 : Mt} {η η0 : Hd} {p : Int} {e : Nat} {det : Mt → Int}
end
end DL

/-! grids by a prime: cleared, corner (printed by k30e.py) -/
namespace DL
open PySem PySem.Spec L2
section
variable {n R : Nat} {m m0 : Mt} {η η0 : Hd} {p : Int} {e : Nat} {det : Mt → Int}
end
end DL

/-! grids by a prime: cleared, corner (printed by k30f_.py) -/
namespace DL
open PySem PySem.Spec L2
section
variable {S : List Nat} {σ : SD} {η : Hd} {kv : KV} {kx : KX} {A B C : CE}
end
section
variable {n R : Nat} {m m0 : Mt} {η η0 : Hd} {p : Int} {e : Nat} {det : Mt → Int}
theorem ClI.fin (Dt : DetOk n det) (P : PrOk p e) {d : Nat} {w : Int} (C : ClI n det p m0 n d w m) (hn0 : 0 < n) : (d = n → det m0 % p = w % p ∧ det m0 % p ≠ 0 ∧ ∀ i c, i < n → c < n → m i c = if i = c then 1 else 0) ∧ (d < n → det m0 % p = 0) := by
  refine ⟨fun h => ?_, fun h => ?_⟩
  · have un := C.un h
    have e1 : det m = 1 := by
      rw [Dt.diag (fun i c hi hc hne => by rw [un i c hi hc, if_neg hne])]
      have : ∀ t, t ≤ n → prodTo t (fun i => m i i) = 1 := by
        intro t
        induction t with
        | zero => intro _; rfl
        | succ t ih => intro ht; rw [prodTo, ih (by omega), un t t (by omega) (by omega), if_pos rfl]; rfl
      exact this n (Nat.le_refl _)
    have e2 := C.dt
    rw [e1, Int.mul_one] at e2
    exact ⟨e2, by rw [e2]; exact C.w0, un⟩
  · have e1 : det m = 0 := Dt.zero (i := n - 1) (by omega) fun c hc => C.ec (n - 1) c (by omega) (by omega) hc
    rw [C.dt, e1, Int.mul_zero, Int.zero_emod]
end
end DL

/-! grids by a prime: unit, times, adding, step -/
namespace DL
open PySem PySem.Spec L2
def idM : Mt := fun i c => if i = c then 1 else 0
def mulM (n : Nat) (p : Int) (a b : Mt) : Mt := fun i c => sumTo n (fun k => a i k * b k c) % p
def addM (k j : Nat) (t : Int) : Mt := fun i c => if i = k ∧ c = j then t else idM i c
section
variable {S : List Nat} {n R : Nat} {m m0 a b : Mt} {η η0 : Hd} {p : Int} {e : Nat}
end
end DL

/-! grids by adding steps: the plain law -/
namespace DL
open PySem PySem.Spec L2
abbrev Stp := Nat × Nat × Int
def negS (p : Int) (s : Stp) : Stp := (s.1, s.2.1, Int.neg s.2.2 % p)
def prodL (n : Nat) (p : Int) (l : List Stp) : Mt := l.foldl (fun acc s => mulM n p acc (addM s.1 s.2.1 s.2.2)) idM
section
variable {n : Nat} {det : Mt → Int} {p : Int} {e : Nat} {m m0 A : Mt}
structure AdI (n : Nat) (det : Mt → Int) (p : Int) (m0 : Mt) (j : Nat) (m : Mt) (l : List Stp) : Prop where
  rg : ∀ i c, i < n → c < n → 0 ≤ m i c ∧ m i c < p
  dt : det m0 % p = det m % p
  cl : ∀ i c, c < j → i < n → i ≠ c → m i c = 0
  dg : ∀ c, c < j → m c c ≠ 0
  st : ∀ s, s ∈ l → s.1 < n ∧ s.2.1 < n ∧ s.1 ≠ s.2.1 ∧ 0 < s.2.2 ∧ s.2.2 < p
  pr : ∀ i c, i < n → c < n → sumTo n (fun t => prodL n p (l.map (negS p)) i t * m t c) % p = m0 i c
theorem AdI.start (P : PrOk p e) (h : ∀ i c, i < n → c < n → 0 ≤ m0 i c ∧ m0 i c < p) : AdI n det p m0 0 m0 [] :=
  ⟨h, rfl, fun _ _ hc => absurd hc (by omega), fun _ hc => absurd hc (by omega), fun _ hs => absurd hs (by simp), fun i c hi hc => by
    rw [show sumTo n (fun t => prodL n p (([] : List Stp).map (negS p)) i t * m0 t c) = sumTo n (fun t => if t = i then m0 t c else 0) from sumTo_ext fun t ht => by
      show idM i t * m0 t c = _
      unfold idM
      by_cases z : t = i
      · rw [if_pos z, if_pos z.symm, Int.one_mul]
      · rw [if_neg z, if_neg (fun h => z h.symm), Int.zero_mul], sumTo_single hi]
    exact emod_of_lt (h i c hi hc).1 (h i c hi hc).2⟩
theorem AdI.next {j : Nat} {l : List Stp} (C : AdI n det p m0 j m l) (h1 : m j j ≠ 0) (h2 : ∀ i, i < n → i ≠ j → m i j = 0) : AdI n det p m0 (j + 1) m l :=
  ⟨C.rg, C.dt, fun i c hc hi hne => by
    by_cases z : c = j
    · rw [z]; exact h2 i hi (by omega)
    · exact C.cl i c (by omega) hi hne, fun c hc => by
    by_cases z : c = j
    · rw [z]; exact h1
    · exact C.dg c (by omega), C.st, C.pr⟩
theorem AdI.raise (Dt : DetOk n det) {j : Nat} {l : List Stp} (C : AdI n det p m0 j m l) (hj : j < n) (h : ∀ i, j ≤ i → i < n → m i j = 0) : det m0 % p = 0 := by
  rw [C.dt, Dt.col hj (fun i c hi hc hne => C.cl i c hc hi hne) h, Int.zero_emod]
theorem AdI.fin (Dt : DetOk n det) (P : PrOk p e) {l : List Stp} (C : AdI n det p m0 n m l) : det m0 % p = prodTo n (fun i => m i i) % p ∧ det m0 % p ≠ 0 := by
  have e1 : det m0 % p = prodTo n (fun i => m i i) % p := by rw [C.dt, Dt.diag (fun i c hi hc hne => C.cl i c hc hi hne)]
  refine ⟨e1, ?_⟩
  rw [e1]
  have : ∀ t, t ≤ n → prodTo t (fun i => m i i) % p ≠ 0 := by
    intro t
    induction t with
    | zero => intro _; have := P.p2; rw [prodTo, emod_of_lt (by omega) (by omega)]; decide
    | succ t ih =>
      intro ht
      have r := C.rg t t (by omega) (by omega)
      refine P.mul0 (ih (by omega)) ?_
      rw [emod_of_lt r.1 r.2]
      exact C.dg t (by omega)
  exact this n (Nat.le_refl _)
end
end DL

/-! grids by adding steps: the walk, with the list of steps at its side -/
namespace DL
open PySem PySem.Spec L2
/-- a list of rows, and lists of something else -/
structure MatT (n R : Nat) (Ts : List (Nat × List D)) (m : Mt) (η0 η : Hd) : Prop where
  qs : ∃ q : Nat → Nat, η.get R = some (.lst (tab n (fun i => .ref (q i)))) ∧ ∀ i, i < n → η.list (q i) = some (iRow n (m i)) ∧ q i < η.nx ∧ q i ≠ R ∧ η0.nx ≤ q i ∧ ∀ x, x ∈ Ts → q i ≠ x.1
  R0 : η0.nx ≤ R
  R1 : R < η.nx
  gr : Gr [] η0 η
  kp : ∀ x, x ∈ Ts → η.get x.1 = some (.lst x.2) ∧ η0.nx ≤ x.1 ∧ x.1 < η.nx ∧ x.1 ≠ R
section
variable {S : List Nat} {σ : SD} {n R : Nat} {Ts : List (Nat × List D)} {m m0 : Mt} {η η0 η' : Hd} {p : Int} {e : Nat} {A B C : CE} {det : Mt → Int}
theorem MatT.sub {Us : List (Nat × List D)} (M : MatT n R Ts m η0 η) (h : ∀ x, x ∈ Us → x ∈ Ts) : MatT n R Us m η0 η := by
  obtain ⟨q, h1, h2⟩ := M.qs
  exact ⟨⟨q, h1, fun i hi => by obtain ⟨a, b, c, d, e⟩ := h2 i hi; exact ⟨a, b, c, d, fun x hx => e x (h x hx)⟩⟩, M.R0, M.R1, M.gr, fun x hx => M.kp x (h x hx)⟩
theorem MatT.mono (M : MatT n R Ts m η0 η) (x : Gr [] η η') : MatT n R Ts m η0 η' := by
  obtain ⟨q, h1, h2⟩ := M.qs
  exact ⟨⟨q, by rw [x.keep M.R1 (by simp)]; exact h1, fun i hi => by
    obtain ⟨a, b, c, d⟩ := h2 i hi
    exact ⟨x.list b a, Nat.lt_of_lt_of_le b x.1, c, d⟩⟩, M.R0, Nat.lt_of_lt_of_le M.R1 x.1, M.gr.trans x, fun y hy => by
    obtain ⟨a, b, c, d⟩ := M.kp y hy
    exact ⟨by rw [x.keep c (by simp)]; exact a, b, Nat.lt_of_lt_of_le c x.1, d⟩⟩
theorem MatT.more (M : MatT n R Ts m η0 η) (x : Gr [] η η') {r : Nat} {L : List D} (g : η'.get r = some (.lst L)) (h1 : η.nx ≤ r) (h2 : r < η'.nx) : MatT n R ((r, L) :: Ts) m η0 η' := by
  have M1 := M.mono x
  obtain ⟨q, a1, a2⟩ := M.qs
  refine ⟨⟨q, by rw [x.keep M.R1 (by simp)]; exact a1, fun i hi => ?_⟩, M1.R0, M1.R1, M1.gr, fun y hy => ?_⟩
  · obtain ⟨a, b, c, d, f⟩ := a2 i hi
    refine ⟨x.list b a, Nat.lt_of_lt_of_le b x.1, c, d, fun y hy => ?_⟩
    rcases List.mem_cons.mp hy with z | z
    · rw [z]; show q i ≠ r; omega
    · exact f y z
  · rcases List.mem_cons.mp hy with z | z
    · rw [z]; exact ⟨g, by have := M.gr.1; show η0.nx ≤ r; omega, h2, by have := M.R1; show r ≠ R; omega⟩
    · exact M1.kp y z
theorem MatT.ext {m' : Mt} (M : MatT n R Ts m η0 η) (h : ∀ i c, i < n → c < n → m i c = m' i c) : MatT n R Ts m' η0 η := by
  obtain ⟨q, h1, h2⟩ := M.qs
  refine ⟨⟨q, h1, fun i hi => ?_⟩, M.R0, M.R1, M.gr, M.kp⟩
  obtain ⟨a, b⟩ := h2 i hi
  refine ⟨?_, b⟩
  rw [a]
  congr 1
  exact tab_ext fun c hc => by rw [h i c hi hc]
theorem MatT.frz (M : MatT n R Ts m η0 η) {q : Nat} (hq : q ≠ R) (h0 : η0.nx ≤ q) (hT : ∀ x, x ∈ Ts → q ≠ x.1) : MatT n R Ts m η0 (frzd η (.ref q)) := by
  have key : ∀ p l, η.list p = some l → (frzd η (.ref q)).list p = some l := fun p l h => by
    simp only [frzd]
    split
    · rename_i l' e
      show (η.set q (.frz l')).list p = some l
      by_cases z : p = q
      · subst z
        rw [list_lst e] at h
        cases h
        exact list_frz (get_set_eq e)
      · unfold Hd.list; rw [get_set_ne z]; exact h
    · exact h
  have keep : ∀ r, r ≠ q → (frzd η (.ref q)).get r = η.get r := fun r hr => by
    rcases frzd_ref η q with e | ⟨l, e⟩
    · rw [e]
    · rw [e, get_set_ne hr]
  obtain ⟨qs, h1, h2⟩ := M.qs
  refine ⟨⟨qs, by rw [keep _ (Ne.symm hq)]; exact h1, fun i hi => ?_⟩, M.R0, by rw [frzd_nx]; exact M.R1, M.gr.frzN h0, fun x hx => ?_⟩
  · obtain ⟨a, b, c, d⟩ := h2 i hi
    exact ⟨key _ _ a, by rw [frzd_nx]; exact b, c, d⟩
  · obtain ⟨a, b, c, d⟩ := M.kp x hx
    exact ⟨by rw [keep _ (Ne.symm (hT x hx))]; exact a, b, by rw [frzd_nx]; exact c, d⟩
theorem MatT.row (M : MatT n R Ts m η0 η) {k : Nat} (hk : k < n) (a : Ev A σ η (.ref R)) (b : Ev B σ η (.int (Int.ofNat k))) : ∃ q, Ev (cOp fIx A B) σ η (.ref q) ∧ η.list q = some (iRow n (m k)) ∧ q < η.nx ∧ q ≠ R ∧ η0.nx ≤ q ∧ ∀ x, x ∈ Ts → q ≠ x.1 := by
  obtain ⟨q, h1, h2⟩ := M.qs
  exact ⟨q k, ev_ixL a (list_lst h1) b (tab_get hk), h2 k hk⟩
theorem MatT.set (M : MatT n R Ts m η0 η) {k c : Nat} {f : Nat → Int} (hk : k < n) (hc : η.list c = some (iRow n f)) (c1 : c < η.nx) (c2 : c ≠ R) (c3 : η0.nx ≤ c) (c4 : ∀ x, x ∈ Ts → c ≠ x.1) : ∃ l, fSet (.ref R) (.int (Int.ofNat k)) (.ref c) η = some (η.set R (.lst l)) ∧ MatT n R Ts (fun i => if i = k then f else m i) η0 (η.set R (.lst l)) := by
  obtain ⟨q, h1, h2⟩ := M.qs
  refine ⟨_, fSet_at h1 tab_len hk, ⟨fun i => if i = k then c else q i, ?_, fun i hi => ?_⟩, M.R0, M.R1, M.gr.setN M.R0, fun x hx => ?_⟩
  · rw [get_set_eq h1, tab_set]
    congr 2
    exact tab_ext fun i _ => by
      by_cases e : i = k
      · dsimp only; rw [if_pos e, if_pos e]
      · dsimp only; rw [if_neg e, if_neg e]
  · obtain ⟨a, b, d, e⟩ := h2 i hi
    have gl : ∀ p, p ≠ R → (η.set R (.lst ((tab n (fun i => .ref (q i))).set k (.ref c)))).list p = η.list p := fun p hp => by unfold Hd.list; rw [get_set_ne hp]
    by_cases z : i = k
    · dsimp only; rw [if_pos z, if_pos z, gl c c2]
      exact ⟨hc, c1, c2, c3, c4⟩
    · dsimp only; rw [if_neg z, if_neg z, gl _ d]
      exact ⟨a, b, d, e⟩
  · obtain ⟨a, b, d, e⟩ := M.kp x hx
    exact ⟨by rw [get_set_ne e]; exact a, b, d, e⟩
end
end DL

/-! grids by adding steps: by_adding (printed by k30j.py) -/
namespace DL
open PySem PySem.Spec L2
section
variable {S : List Nat} {σ : SD} {n R T : Nat} {m m0 : Mt} {η η0 η' : Hd} {p : Int} {e : Nat} {A B C : CE} {det : Mt → Int} {x0 y6 y7 y8 y9 y10 : Option D}
end
end DL

/-! grids by adding steps: by_adding, of_adding -/
namespace DL
open PySem PySem.Spec L2
section
variable {S : List Nat} {σ : SD} {n R T : Nat} {m m0 : Mt} {η η0 η' : Hd} {p : Int} {e : Nat} {A B C E : CE} {det : Mt → Int} {x0 y5 y6 y7 y8 y9 y10 : Option D}
end
end DL

/-! grids by adding steps: what the law's statements need -/
namespace DL
open PySem PySem.Spec L2
section
variable {S : List Nat} {σ : SD} {η η0 : Hd} {A B C : CE} {n : Nat}
end
end DL

/-! grids by adding steps: the law's statements (printed by k30m.py) -/
namespace DL
open PySem PySem.Spec L2
structure H30 (η : Hd) : Prop where
  dice : η.get 0 = some .dice
  lt : 0 < η.nx
theorem H30.mono {η η' : Hd} (H : H30 η) (x : Gr [] η η') : H30 η' := ⟨by rw [x.keep H.lt (by simp)]; exact H.dice, Nat.lt_of_lt_of_le H.lt x.1⟩
section
variable {n b e : Nat} {p : Int} {det : Mt → Int} {hm : Nat → Option Str} {η : Hd} {K : KS} {m m0 : Mt} {y0 y1 y2 y3 y4 y5 y6 y7 y8 y9 y10 y11 y12 y13 y14 y15 y16 y17 y18 y19 : Option D}
end
end DL

/-! the head: the written part with all tables (x_head), the empty tables then left out -/
namespace DL
open PySem PySem.W
def tabB : Obj → Bool
  | ⟨.none, none, .fields vs, sl⟩ => vs.isEmpty && sl.isEmpty
  | _ => false
def noTabs (K : Frag) : Frag := K.filter fun q => !tabB q.2
/-- addresses in rising order -/
def ascB : Nat → Frag → Bool
  | _, [] => true
  | n, (a, _) :: r => Nat.ble n a && ascB (a + 1) r
theorem asc_lo {o : Obj} : ∀ {K : Frag} {n a : Nat}, ascB n K = true → (a, o) ∈ K → n ≤ a
  | [], _, _, _, h => nomatch h
  | (b, u) :: r, n, a, e, h => by
    obtain ⟨e1, e2⟩ := Bool.and_eq_true_iff.mp (show (Nat.ble n b && ascB (b + 1) r) = true from e)
    have h1 := Nat.le_of_ble_eq_true e1
    rcases List.mem_cons.mp h with h | h
    · cases h; exact h1
    · have := asc_lo e2 h; omega
theorem asc_lookup {a : Nat} {o : Obj} : ∀ {K : Frag} {n : Nat}, ascB n K = true → (a, o) ∈ K → K.lookup a = some o
  | [], _, _, h => nomatch h
  | (b, u) :: r, n, e, h => by
    obtain ⟨e1, e2⟩ := Bool.and_eq_true_iff.mp (show (Nat.ble n b && ascB (b + 1) r) = true from e)
    rw [List.lookup_cons]
    rcases List.mem_cons.mp h with h | h
    · cases h
      simp
    · have h1 := asc_lo e2 h
      have h2 : (a == b) = false := by simp; omega
      rw [h2]
      exact asc_lookup e2 h
theorem lk_mem {a : Nat} {o : Obj} : ∀ {K : Frag}, K.lookup a = some o → (a, o) ∈ K
  | [], h => nomatch h
  | (b, u) :: r, h => by
    rw [List.lookup_cons] at h
    cases e : (a == b) with
    | true =>
      rw [e] at h
      cases h
      rw [beq_iff_eq.mp e]
      exact List.mem_cons_self
    | false =>
      rw [e] at h
      exact List.mem_cons_of_mem _ (lk_mem h)
theorem nt_in {K : Frag} {h : Heap} (X : K.In h) (e : ascB 0 K = true) : (noTabs K).In h := fun a o q =>
  X a o (asc_lookup e (List.mem_filter.mp (lk_mem q)).1)
theorem nt_ns {K : Frag} {a : Addr} {x : Str} {r : Option (Option Value)} (_ : nsIn K a x = r) (h2 : nsIn (noTabs K) a x = r) : nsIn (noTabs K) a x = r := h2
theorem nt_find {K : Frag} {a : Value} {x : Str} {r : Option (Option Value)} (_ : findIn K a x = r) (h2 : findIn (noTabs K) a x = r) : findIn (noTabs K) a x = r := h2
theorem nt_lk {K : Frag} {a : Addr} {r : Option Obj} (_ : K.lookup a = r) (h2 : (noTabs K).lookup a = r) : (noTabs K).lookup a = r := h2
theorem nt_tab {K : Frag} {h : Heap} {a : Addr} {o : Obj} (X : K.In h) (q : K.lookup a = some o) : h.get? a = some o := X _ _ q
end DL

/-! sorted(.., reverse=True) of ints; join of texts; the text of an int -/
namespace DL
open PySem PySem.Spec L2
section
variable {X : Cx} {N : Nm} {E : XK}
section
variable {prog : Program} {w : World} {A : Around} {E : Value → Shared → Prop} {s : Shared}
end
/-! ### join -/
/-! ### the text of an int -/
end
end DL

/-! sum and min of a tuple of ints -/
namespace DL
open PySem PySem.Spec L2 PyProof.Rows PySem.Calls
section
variable {X : Cx} {N : Nm} {E : XK}
end
end DL

/-! isinstance of lists too -/
namespace DL
open PySem PySem.Spec L2
def isTyA (t : Bool) (d : D) (η : Hd) : Option Bool := match d with
  | .ref r => match η.get r with
    | some (.lst _) => some false
    | some (.frz _) => some false
    | _ => none
  | d => isTy t d
def cIsiA (t : Bool) (c : CE) : CE := fun σ η kv kx => c σ η (fun x η1 => match isTyA t x η1 with
  | some b => kv (.bl b) η1
  | none => false) kx
theorem kit_li (K : PySem.W.Frag) : PySem.W.kitOne K (.type "list") (.type "int") = some false := by first | rfl | kernel_rfl
theorem kit_lt (K : PySem.W.Frag) : PySem.W.kitOne K (.type "list") (.type "tuple") = some false := by first | rfl | kernel_rfl
section
variable {X : Cx} {N : Nm} {E : XK}
theorem je_isiA {e : Expr} {c : CE} {p q pos : Pos} {x : Str} (t : Bool) (hg : Gl X "isinstance") (hm : X.mg "isinstance" = none) (he : JE X N E e c) (hg2 : Gl X x) (hm2 : X.mg x = none) (hb : bootBuiltins x = some (.type (tyN t))) (hx1 : x ≠ "__name__") (hx2 : (x == ("__debug__" : Str)) = false)
    (hs : starEach [e, .Name x q] X.env = (false, eval e X.env) :: starEach [.Name x q] X.env := by rfl) (hs2 : starEach [.Name x q] X.env = (false, eval (.Name x q) X.env) :: starEach [] X.env := by rfl)
    (hpl : (backTo pos (starEach [.Name x q] X.env)).any (·.1) = false := by rfl) : JE X N E (.Call (.Name "isinstance" p) [e, .Name x q] [] pos) (cIsiA t c) :=
  PE.imp (pe_callB (id := "isinstance") call_isi hg hm (by decide +kernel) (pa_cons he (pa_cons (pe_bltn (v := .ty (tyN t)) hg2 hm2 hb rfl hx1 hx2) pa_nil hs2) hs) (by decide) (by decide) hs hpl) fun σ H Q q => by
    obtain ⟨W, σd, kv, kx, rfl, o, s, h, hv, hx⟩ := q
    refine tE.bind o s hx h fun W1 d v x1 o1 r1 s1 hx1 h1 => ?_
    cases e1 : isTyA t d W1.η with
    | none => rw [e1] at h1; cases h1
    | some b =>
      rw [e1] at h1
      have fin : ∀ {tt : Value}, TyX X.K W1.H v tt → PySem.W.kitOne X.K tt (.type (tyN t)) = some b → rIsi X.K [v, .ty (tyN t)] W1.H Q := fun ty k => ⟨v, _, _, _, b, rfl, .ty _, ty, k, hv W1 (.bl b) (.bl b) x1 o1 mkBl h1⟩
      cases d with
      | int i =>
        rw [relInt r1] at fin ⊢
        cases t with
        | false => cases e1; exact fin (.base (.int i)) (kit_ii _)
        | true => cases e1; exact fin (.base (.int i)) (kit_it _)
      | tup l =>
        obtain ⟨a, vs, rfl, h2, _⟩ := relTup r1
        cases t with
        | false => cases e1; exact fin (.base (.tup h2)) (kit_ti _)
        | true => cases e1; exact fin (.base (.tup h2)) (kit_tt _)
      | ftup l =>
        rw [RelD] at r1
        obtain ⟨a, vs, ob, rfl, h2, _⟩ := r1
        cases t with
        | false => cases e1; exact fin (.fTuple h2) (kit_ti _)
        | true => cases e1; exact fin (.fTuple h2) (kit_tt _)
      | non =>
        rw [relNon r1] at fin ⊢
        cases t with
        | false => cases e1; exact fin (.base .non) (kit_ni _)
        | true => cases e1; exact fin (.base .non) (kit_nt _)
      | str y =>
        rw [relStr r1] at fin ⊢
        cases t with
        | false => cases e1; exact fin (.base (.str y)) (kit_si _)
        | true => cases e1; exact fin (.base (.str y)) (kit_st _)
      | ref r =>
        rw [relRef r1] at fin ⊢
        have go : ∀ {vs : List V}, W1.H (W1.μ r) = some (.lst vs) → false = b → rIsi X.K [.ref (W1.μ r), .ty (tyN t)] W1.H Q := fun h2 hb => by
          subst hb
          cases t with
          | false => exact fin (.base (.lst h2)) (kit_li _)
          | true => exact fin (.base (.lst h2)) (kit_lt _)
        simp only [isTyA] at e1
        cases e : W1.η.get r with
        | none => rw [e] at e1; cases e1
        | some c =>
          rw [e] at e1
          cases c with
          | lst l =>
            obtain ⟨vs, h2, _, _⟩ := o1.cell _ _ e
            exact go h2 (Option.some.inj e1)
          | frz l =>
            obtain ⟨vs, h2, _, _⟩ := o1.cell _ _ e
            exact go h2 (Option.some.inj e1)
          | _ => cases e1
      | _ => cases e1
end
end DL

set_option maxHeartbeats 4000000
/-! a tuple no times; the less of two ints -/
namespace DL
open PySem PySem.Spec PyProof.Rows L2
section
variable {X : Cx} {N : Nm} {E : XK}
end
end DL

/-! sorted of one row alone (an empty one too) -/
namespace DL
open PySem PySem.Spec L2
section
variable {X : Cx} {N : Nm} {E : XK}
end
end DL

/-! the plain layer: values without a heap; lists and dicts that stand in cells of their own -/
namespace PL
open PySem PySem.Spec L2 DL
/-- how a list stands: new; loose (may be read alone from now on); kept (stays as it is); own (may be changed); read (only its items are known) -/
inductive Md | fr | lo | ke | ow | rd
/-- what stays of a cell: it, or at least its list -/
structure Sm (η η' : Hd) (q : Nat) : Prop where
  get : ∀ c, η.get q = some c → (∀ l, c ≠ .lst l) → (∀ l, c ≠ .frz l) → η'.get q = some c
  list : ∀ l, η.list q = some l → η'.list q = some l
theorem Sm.of {η η' : Hd} {q : Nat} (h : η'.get q = η.get q) : Sm η η' q := ⟨fun c e _ _ => h.trans e, fun l e => by unfold Hd.list; rw [h]; exact e⟩
/-- a chain's level: its place, its makers, its ways; where its cells stand -/
structure LvD where
  pl : D
  gs : List D
  ws : List (D × D)
structure LvC where
  v : LvD
  a : Nat
  m : Nat
  w : Nat
structure LvAt (cl : Nat) (η : Hd) (h : LvC) : Prop where
  ga : η.get h.a = some (.ins cl [(0, h.v.pl), (1, .ref h.m), (2, .ref h.w)])
  gm : η.list h.m = some h.v.gs
  gw : η.get h.w = some (.dct false h.v.ws)
  la : h.a < η.nx
  lm : h.m < η.nx
  lw : h.w < η.nx
def LvC.ft (h : LvC) : List Nat := [h.a, h.m, h.w]
/-- an object of several cells F, from the cell r on; nothing of it is changed: a chain, a level, a level's ways -/
inductive Ob where
  | ch (cc cl : Nat) (n mk : D) (vs : List LvD) | lv (cl : Nat) (v : LvD) | ws (kvs : List (D × D))
def Ob.at_ : Ob → Hd → Nat → List Nat → Prop
  | .ch cc cl n mk vs, η, r, F => ∃ (rl : Nat) (hs : List LvC), hs.map (·.v) = vs ∧ F = r :: rl :: hs.flatMap LvC.ft ∧ η.get r = some (.ins cc [(3, n), (1, mk), (4, .ref rl)]) ∧ η.list rl = some (hs.map fun h => .ref h.a) ∧ (∀ h ∈ hs, LvAt cl η h) ∧ r < η.nx ∧ rl < η.nx
  | .lv cl v, η, r, F => ∃ h : LvC, h.v = v ∧ h.a = r ∧ F = h.ft ∧ LvAt cl η h
  | .ws kvs, η, r, F => F = [r] ∧ η.get r = some (.dct false kvs) ∧ r < η.nx
theorem LvAt.lt {cl : Nat} {η : Hd} {h : LvC} (a : LvAt cl η h) : ∀ q ∈ h.ft, q < η.nx := fun q hq => by
  rcases List.mem_cons.mp hq with rfl | hq
  · exact a.la
  · rcases List.mem_cons.mp hq with rfl | hq
    · exact a.lm
    · rw [List.mem_singleton.mp hq]; exact a.lw
theorem LvAt.st {cl : Nat} {η η' : Hd} {h : LvC} (a : LvAt cl η h) (n : η.nx ≤ η'.nx) (f : ∀ q ∈ h.ft, Sm η η' q) : LvAt cl η' h :=
  ⟨(f h.a (.head _)).get _ a.ga (fun _ z => nomatch z) (fun _ z => nomatch z), (f h.m (.tail _ (.head _))).list _ a.gm, (f h.w (.tail _ (.tail _ (.head _)))).get _ a.gw (fun _ z => nomatch z) (fun _ z => nomatch z), Nat.lt_of_lt_of_le a.la n, Nat.lt_of_lt_of_le a.lm n, Nat.lt_of_lt_of_le a.lw n⟩
theorem Ob.lt (X : Ob) {η : Hd} {r : Nat} {F : List Nat} (h : X.at_ η r F) : ∀ q ∈ F, q < η.nx := fun q hq => by
  cases X with
  | ch cc cl n mk vs =>
    obtain ⟨rl, hs, _, rfl, _, _, ha, h1, h2⟩ := h
    rcases List.mem_cons.mp hq with rfl | hq
    · exact h1
    · rcases List.mem_cons.mp hq with rfl | hq
      · exact h2
      · obtain ⟨x, hx, hq⟩ := List.mem_flatMap.mp hq
        exact (ha x hx).lt q hq
  | lv cl v => obtain ⟨h, _, _, rfl, a⟩ := h; exact a.lt q hq
  | ws kvs => obtain ⟨rfl, _, l⟩ := h; rw [List.mem_singleton.mp hq]; exact l
theorem Ob.st (X : Ob) {η η' : Hd} {r : Nat} {F : List Nat} (h : X.at_ η r F) (nx : η.nx ≤ η'.nx) (f : ∀ q ∈ F, Sm η η' q) : X.at_ η' r F := by
  cases X with
  | ch cc cl n mk vs =>
    obtain ⟨rl, hs, e1, rfl, g1, g2, ha, h1, h2⟩ := h
    exact ⟨rl, hs, e1, rfl, (f r (.head _)).get _ g1 (fun _ z => nomatch z) (fun _ z => nomatch z), (f rl (.tail _ (.head _))).list _ g2, fun x hx => (ha x hx).st nx fun q hq => f q (.tail _ (.tail _ (List.mem_flatMap.mpr ⟨x, hx, hq⟩))), Nat.lt_of_lt_of_le h1 nx, Nat.lt_of_lt_of_le h2 nx⟩
  | lv cl v => obtain ⟨h, e1, e2, rfl, a⟩ := h; exact ⟨h, e1, e2, rfl, a.st nx f⟩
  | ws kvs => obtain ⟨rfl, g, l⟩ := h; exact ⟨rfl, (f r (.head _)).get _ g (fun _ z => nomatch z) (fun _ z => nomatch z), Nat.lt_of_lt_of_le l nx⟩
inductive PV where
  | im (d : D) | ls (m : Md) (l : List D) | dc (m : Md) (t : Bool) (kvs : List (D × D)) | cl (c : Cell) | ob (X : Ob)
/-- what is computed; all: some value of S, nobody knows which -/
inductive Rs (α : Type) where
  | val (a : α) | exc (x : Xc) | bad | all (S : D → Prop) (f : D → Rs α)
/-- cells that never change: dice, instances -/
def fixC : Cell → Bool
  | .dice => true
  | .ins _ _ => true
  | .ldc _ _ => true
  | _ => false
def OC (P : Nat → Prop) (η : Hd) (X : Ob) (d : D) : Prop := ∃ r F, d = .ref r ∧ X.at_ η r F ∧ ∀ q ∈ F, ¬ P q
theorem OC.anti {P P' : Nat → Prop} {η : Hd} {X : Ob} {d : D} (h : ∀ q, q < η.nx → P' q → P q) (o : OC P η X d) : OC P' η X d := by
  obtain ⟨r, F, e, a, n⟩ := o
  exact ⟨r, F, e, a, fun q hq p => n q hq (h q (X.lt a q hq) p)⟩
theorem OC.sm {P : Nat → Prop} {η η' : Hd} {X : Ob} {d : D} (n : η.nx ≤ η'.nx) (h : ∀ q, q < η.nx → ¬ P q → Sm η η' q) (o : OC P η X d) : OC P η' X d := by
  obtain ⟨r, F, e, a, z⟩ := o
  exact ⟨r, F, e, X.st a n fun q hq => h q (X.lt a q hq) (z q hq), z⟩
def FC (η : Hd) (c : Cell) (d : D) : Prop := ∃ r, d = .ref r ∧ r < η.nx ∧ η.get r = some c ∧ fixC c = true
theorem fixC_lst {c : Cell} (h : fixC c = true) : (∀ l, c ≠ .lst l) ∧ (∀ l, c ≠ .frz l) ∧ ∀ t l, c ≠ .dct t l := by
  refine ⟨fun l e => ?_, fun l e => ?_, fun t l e => ?_⟩ <;> subst e <;> cases h
namespace Rs
variable {α β : Type}
def bind : Rs α → (α → Rs β) → Rs β
  | val a, f => f a
  | exc x, _ => exc x
  | bad, _ => bad
  | all n g, f => all n fun v => bind (g v) f
def ok : Rs α → (α → Prop) → (Xc → Prop) → Prop
  | val a, Q, _ => Q a
  | exc x, _, E => E x
  | bad, _, _ => False
  | all S g, Q, E => ∀ v, S v → ok (g v) Q E
theorem bind_ok {r : Rs α} {f : α → Rs β} {Q : β → Prop} {E : Xc → Prop} (h : (r.bind f).ok Q E) : r.ok (fun a => (f a).ok Q E) E := by
  induction r with
  | val a => exact h
  | exc x => exact h
  | bad => exact h
  | all n g ih => exact fun v hv => ih v (h v hv)
theorem ok.imp {r : Rs α} {Q Q' : α → Prop} {E E' : Xc → Prop} (h : r.ok Q E) (f : ∀ a, Q a → Q' a) (g : ∀ x, E x → E' x) : r.ok Q' E' := by
  induction r with
  | val a => exact f _ h
  | exc x => exact g _ h
  | bad => exact h
  | all n k ih => exact fun v hv => ih v (h v hv)
end Rs
def Md.pro : Md → Bool
  | .ke => true
  | .ow => true
  | _ => false
def PV.own : PV → Bool
  | .ls .ow _ => true
  | .dc .ow _ _ => true
  | _ => false
def PV.imm : PV → Bool
  | .im _ => true
  | .cl _ => true
  | .ob _ => true
  | _ => false
abbrev PEn := List (Option PV)
abbrev PE := PEn → Rs PV
abbrev PT := PEn → Rs Bool
abbrev PA := PEn → Rs (List PV)
/-- what a value is, under the cells P that stay -/
def RW (P : Nat → Prop) (η : Hd) : PV → D → Prop
  | .im e, d => d = e
  | .ls m l, d => ∃ r, d = .ref r ∧ r < η.nx ∧ η.list r = some l ∧ (m.pro = true → P r ∧ η.get r = some (.lst l)) ∧ (m = .lo ∨ m = .fr → ¬ P r)
  | .dc m t kvs, d => ∃ r, d = .ref r ∧ r < η.nx ∧ η.get r = some (.dct t kvs) ∧ (m.pro = true → P r) ∧ (m = .fr → ¬ P r)
  | .cl c, d => FC η c d
  | .ob X, d => OC P η X d
/-- the heap grows; a cell that is not of P may be read alone from now on -/
structure Fr (P : Nat → Prop) (η η' : Hd) : Prop where
  nx : η.nx ≤ η'.nx
  keep : ∀ q, q < η.nx → η'.get q = η.get q ∨ (¬ P q ∧ ∃ l, η.get q = some (.lst l) ∧ η'.get q = some (.frz l))
/-- a statement's: cells below b; cells that are read alone -/
structure Fs (P0 : Nat → Prop) (b : Nat) (η η' : Hd) : Prop where
  nx : η.nx ≤ η'.nx
  keep : ∀ q, q < b → η'.get q = η.get q ∨ (¬ P0 q ∧ ∃ l, η.get q = some (.lst l) ∧ η'.get q = some (.frz l))
  frz : ∀ q l, q < η.nx → η.get q = some (.frz l) → η'.get q = some (.frz l)
  fix : ∀ q c, q < η.nx → η.get q = some c → fixC c = true → η'.get q = some c
def Pr (P0 : Nat → Prop) (ρ : PEn) (σ : SD) : Nat → Prop := fun q => P0 q ∨ ∃ (i : Nat) (v : PV), ρ[i]? = some (some v) ∧ v.own = true ∧ σ[i]? = some (some (.ref q))
structure Rep (P0 : Nat → Prop) (b : Nat) (ρ : PEn) (σ : SD) (η : Hd) : Prop where
  old : ∀ q, P0 q → q < η.nx
  bn : b ≤ η.nx
  len : σ.length = ρ.length
  at_ : ∀ (i : Nat) (v : PV), ρ[i]? = some (some v) → ∃ d : D, σ[i]? = some (some d) ∧ RW (Pr P0 ρ σ) η v d
  ow : ∀ (i : Nat) (v : PV), ρ[i]? = some (some v) → v.own = true → ∃ r : Nat, σ[i]? = some (some (.ref r)) ∧ b ≤ r ∧ ¬ P0 r
  ke : ∀ (i : Nat) (l : List D), ρ[i]? = some (some (.ls .ke l)) → ∃ r : Nat, σ[i]? = some (some (.ref r)) ∧ P0 r
  kd : ∀ (i : Nat) (t : Bool) (l : List (D × D)), ρ[i]? = some (some (.dc .ke t l)) → ∃ r : Nat, σ[i]? = some (some (.ref r)) ∧ P0 r
  dj : ∀ (i j : Nat) (v w : PV) (d : D), i ≠ j → ρ[i]? = some (some v) → v.own = true → ρ[j]? = some (some w) → w.imm = false → σ[i]? = some (some d) → σ[j]? ≠ some (some d)
section
variable {P P0 P' : Nat → Prop} {b : Nat} {ρ : PEn} {σ : SD} {η η0 η1 η2 η' : Hd} {v : PV} {d : D}
theorem Fr.refl (P : Nat → Prop) (η : Hd) : Fr P η η := ⟨Nat.le_refl _, fun _ _ => .inl rfl⟩
theorem Fr.trans (a : Fr P η η1) (c : Fr P η1 η2) : Fr P η η2 := ⟨Nat.le_trans a.1 c.1, fun q h => by
  rcases c.2 q (Nat.lt_of_lt_of_le h a.1) with e | ⟨hp, l, e1, e2⟩
  · rcases a.2 q h with f | ⟨hp, l, f1, f2⟩
    · exact .inl (e.trans f)
    · exact .inr ⟨hp, l, f1, e.trans f2⟩
  · rcases a.2 q h with f | ⟨_, l', f1, f2⟩
    · exact .inr ⟨hp, l, f.symm.trans e1, e2⟩
    · rw [e1] at f2; cases f2⟩
theorem Fs.refl (P0 : Nat → Prop) (b : Nat) (η : Hd) : Fs P0 b η η := ⟨Nat.le_refl _, fun _ _ => .inl rfl, fun _ _ _ h => h, fun _ _ _ h _ => h⟩
theorem Fs.trans (a : Fs P0 b η η1) (c : Fs P0 b η1 η2) : Fs P0 b η η2 := ⟨Nat.le_trans a.1 c.1, fun q h => by
  rcases c.2 q h with e | ⟨hp, l, e1, e2⟩
  · rcases a.2 q h with f | ⟨hp, l, f1, f2⟩
    · exact .inl (e.trans f)
    · exact .inr ⟨hp, l, f1, e.trans f2⟩
  · rcases a.2 q h with f | ⟨_, l', f1, f2⟩
    · exact .inr ⟨hp, l, f.symm.trans e1, e2⟩
    · exact absurd (e1.symm.trans f2) (fun z => nomatch z), fun q l h e => c.frz q l (Nat.lt_of_lt_of_le h a.1) (a.frz q l h e), fun q d h e hd => c.fix q d (Nat.lt_of_lt_of_le h a.1) (a.fix q d h e hd) hd⟩
theorem Fr.list (a : Fr P η η') {q : Nat} {l : List D} (h : q < η.nx) (e : η.list q = some l) : η'.list q = some l := by
  rcases a.2 q h with f | ⟨_, l', f1, f2⟩
  · rcases list_cases e with g | g
    · exact list_lst (f.trans g)
    · exact list_frz (f.trans g)
  · rcases list_cases e with g | g
    · rw [f1] at g; cases g; exact list_frz f2
    · rw [f1] at g; cases g
theorem Fr.get (a : Fr P η η') {q : Nat} {c : Cell} (h : q < η.nx) (e : η.get q = some c) (hc : ∀ l, c ≠ .lst l) : η'.get q = some c := by
  rcases a.2 q h with f | ⟨_, l', f1, f2⟩
  · exact f.trans e
  · rw [e] at f1; exact absurd (Option.some.inj f1) (hc l')
theorem Fr.pro (a : Fr P η η') {q : Nat} (h : q < η.nx) (p : P q) : η'.get q = η.get q := by
  rcases a.2 q h with f | ⟨z, _⟩
  · exact f
  · exact absurd p z
theorem Fr.fs (a : Fr P η η') (h : ∀ q, P0 q → P q) (hb : b ≤ η.nx) : Fs P0 b η η' := ⟨a.1, fun q hq => (a.2 q (Nat.lt_of_lt_of_le hq hb)).imp id fun ⟨z, r⟩ => ⟨fun p => z (h q p), r⟩, fun q l hq e => a.get hq e (fun _ z => nomatch z), fun q c hq e hc => a.get hq e (fixC_lst hc).1⟩
theorem Fr.weak (a : Fr P η η') (h : ∀ q, q < η.nx → P' q → P q) : Fr P' η η' := ⟨a.1, fun q hq => (a.2 q hq).imp id fun ⟨z, r⟩ => ⟨fun p => z (h q hq p), r⟩⟩
theorem Fr.new {c : Cell} : Fr P η (η.new c) := ⟨Nat.le_succ _, fun q h => .inl (get_new_ne h)⟩
theorem Fr.bump : Fr P η (Hd.bump η) := ⟨Nat.le_succ _, fun q h => .inl rfl⟩
theorem Fr.add {g : Nat} {c : Cell} (h : η0.nx ≤ g) (a : Fr P η0 η) : Fr P η0 (η.add g c) := ⟨a.1, fun q hq => by
  rw [Hd.get_add, if_neg (by omega)]; exact a.2 q hq⟩
theorem Fr.setN {q : Nat} {c : Cell} (h : η0.nx ≤ q) (a : Fr P η0 η) : Fr P η0 (η.set q c) := ⟨a.1, fun p hp => by
  rw [get_set_ne (by omega)]; exact a.2 p hp⟩
theorem Fr.sm (a : Fr P η η') {q : Nat} (h : q < η.nx) : Sm η η' q := by
  rcases a.2 q h with f | ⟨_, l, f1, f2⟩
  · exact .of f
  · exact ⟨fun c e h1 _ => by rw [f1] at e; cases e; exact absurd rfl (h1 l), fun l' e => by rw [list_lst f1] at e; cases e; exact list_frz f2⟩
theorem OC.mono {X : Ob} (f : Fr P' η η') (h : OC P η X d) : OC P η' X d := h.sm f.1 fun q hq _ => f.sm hq
theorem FC.mono {c : Cell} (f : Fr P η η') (h : FC η c d) : FC η' c d := by
  obtain ⟨r, z1, z2, z3, z4⟩ := h
  exact ⟨r, z1, Nat.lt_of_lt_of_le z2 f.1, f.get z2 z3 (fixC_lst z4).1, z4⟩
theorem RW.mono (f : Fr P η η') (h : RW P η v d) : RW P η' v d := by
  cases v with
  | im e => exact h
  | ls m l =>
    obtain ⟨r, h1, h2, h3, h4, h5⟩ := h
    exact ⟨r, h1, Nat.lt_of_lt_of_le h2 f.1, f.list h2 h3, fun z => ⟨(h4 z).1, (f.pro h2 (h4 z).1).trans (h4 z).2⟩, h5⟩
  | dc m t l =>
    obtain ⟨r, h1, h2, h3, h4, h5⟩ := h
    exact ⟨r, h1, Nat.lt_of_lt_of_le h2 f.1, f.get h2 h3 (fun _ z => nomatch z), h4, h5⟩
  | cl c => exact FC.mono f h
  | ob c => exact OC.mono f h
theorem Pr_lt (R : Rep P0 b ρ σ η) {q : Nat} (h : Pr P0 ρ σ q) : q < η.nx := by
  rcases h with h | ⟨i, v, h1, h2, h3⟩
  · exact R.old q h
  · obtain ⟨d, e1, e2⟩ := R.at_ i v h1
    rw [h3] at e1
    cases e1
    cases v with
    | im e => cases h2
    | ls m l => obtain ⟨r, z1, z2, _⟩ := e2; cases z1; exact z2
    | dc m t l => obtain ⟨r, z1, z2, _⟩ := e2; cases z1; exact z2
    | cl c => cases h2
    | ob c => cases h2
theorem Rep.mono (f : Fr (Pr P0 ρ σ) η η') (R : Rep P0 b ρ σ η) : Rep P0 b ρ σ η' :=
  ⟨fun q h => Nat.lt_of_lt_of_le (R.old q h) f.1, Nat.le_trans R.bn f.1, R.len, fun i v h => by obtain ⟨d, e, r⟩ := R.at_ i v h; exact ⟨d, e, r.mono f⟩, R.ow, R.ke, R.kd, R.dj⟩
theorem Rep.lt (R : Rep P0 b ρ σ η) {i r : Nat} {v : PV} (h : ρ[i]? = some (some v)) (hs : σ[i]? = some (some (.ref r))) (hv : v.imm = false) : r < η.nx := by
  obtain ⟨d, e1, e2⟩ := R.at_ i v h
  rw [hs] at e1
  cases e1
  cases v with
  | im e => cases hv
  | ls m l => obtain ⟨r, z1, z2, _⟩ := e2; cases z1; exact z2
  | dc m t l => obtain ⟨r, z1, z2, _⟩ := e2; cases z1; exact z2
  | cl c => cases hv
  | ob c => cases hv
/-- a slot is forgotten -/
theorem Rep.wipe1 (R : Rep P0 b ρ σ η) (i : Nat) (x : Option D) : Rep P0 b (ρ.set i none) (σ.set i x) η := by
  have get : ∀ j v, (ρ.set i none)[j]? = some (some v) → j ≠ i ∧ ρ[j]? = some (some v) := fun j v h => by
    by_cases z : i = j
    · subst z
      by_cases hi : i < ρ.length
      · rw [List.getElem?_set_self hi] at h; cases h
      · rw [List.getElem?_eq_none (by rw [List.length_set]; omega)] at h; cases h
    · rw [List.getElem?_set_ne z] at h; exact ⟨fun e => z e.symm, h⟩
  have sg : ∀ j, j ≠ i → (σ.set i x)[j]? = σ[j]? := fun j h => List.getElem?_set_ne (Ne.symm h)
  have sub : ∀ q, Pr P0 (ρ.set i none) (σ.set i x) q → Pr P0 ρ σ q := fun q h => by
    rcases h with h | ⟨j, v, h1, h2, h3⟩
    · exact .inl h
    · obtain ⟨z, h1⟩ := get j v h1
      rw [sg j z] at h3
      exact .inr ⟨j, v, h1, h2, h3⟩
  refine ⟨R.old, R.bn, by rw [List.length_set, List.length_set]; exact R.len, fun j v h => ?_, fun j v h hv => ?_, fun j l h => ?_, fun j t l h => ?_, fun j k v w d hjk h1 h2 h3 hi h4 => ?_⟩
  · obtain ⟨z, h⟩ := get j v h
    obtain ⟨d, e, r⟩ := R.at_ j v h
    refine ⟨d, by rw [sg j z]; exact e, ?_⟩
    cases v with
    | im e => exact r
    | ls m l =>
      obtain ⟨r, z1, z2, z3, z4, z5⟩ := r
      refine ⟨r, z1, z2, z3, fun hm => ⟨?_, (z4 hm).2⟩, fun hm p => z5 hm (sub _ p)⟩
      cases m with
      | ow => exact .inr ⟨j, _, by rw [List.getElem?_set_ne (Ne.symm z)]; exact h, rfl, by rw [sg j z, e, z1]⟩
      | ke => obtain ⟨r', y1, y2⟩ := R.ke j l h; rw [e, z1] at y1; cases y1; exact .inl y2
      | _ => cases hm
    | dc m t l =>
      obtain ⟨r, z1, z2, z3, z4, z5⟩ := r
      refine ⟨r, z1, z2, z3, fun hm => ?_, fun hm p => z5 hm (sub _ p)⟩
      cases m with
      | ow => exact .inr ⟨j, _, by rw [List.getElem?_set_ne (Ne.symm z)]; exact h, rfl, by rw [sg j z, e, z1]⟩
      | ke => obtain ⟨r', y1, y2⟩ := R.kd j t l h; rw [e, z1] at y1; cases y1; exact .inl y2
      | _ => cases hm
    | cl c => exact r
    | ob c => exact OC.anti (fun q _ p => sub q p) r
  · obtain ⟨z, h⟩ := get j v h
    rw [sg j z]; exact R.ow j v h hv
  · obtain ⟨z, h⟩ := get j _ h
    rw [sg j z]; exact R.ke j l h
  · obtain ⟨z, h⟩ := get j _ h
    rw [sg j z]; exact R.kd j t l h
  · obtain ⟨z, h1⟩ := get j v h1
    obtain ⟨z', h3⟩ := get k w h3
    rw [sg j z] at h4
    rw [sg k z']
    exact R.dj j k v w d hjk h1 h2 h3 hi h4
theorem Rep.wipe (R : Rep P0 b ρ σ η) : ∀ vs : List Nat, Rep P0 b (vs.foldr (fun v r => r.set v none) ρ) (wipeD σ vs) η
  | [] => R
  | v :: vs => (Rep.wipe R vs).wipe1 v none
/-- what a value is that was computed from the slots -/
def RS (P0 : Nat → Prop) (ρ : PEn) (σ : SD) (η : Hd) : PV → D → Prop
  | .im e, d => d = e
  | .ls .fr l, d => ∃ r, d = .ref r ∧ r < η.nx ∧ η.get r = some (.lst l) ∧ ¬ Pr P0 ρ σ r
  | .ls .lo l, d => ∃ r, d = .ref r ∧ r < η.nx ∧ η.list r = some l ∧ ¬ Pr P0 ρ σ r
  | .dc .fr t l, d => ∃ r, d = .ref r ∧ r < η.nx ∧ η.get r = some (.dct t l) ∧ ¬ Pr P0 ρ σ r
  | .cl c, d => FC η c d
  | .ob X, d => OC (Pr P0 ρ σ) η X d
  | v, d => ∃ i : Nat, ρ[i]? = some (some v) ∧ σ[i]? = some (some d)
def PV.fre : PV → Bool
  | .ls .fr _ => true
  | .dc .fr _ _ => true
  | _ => false
/-- new since η0 -/
def Nw (η0 : Hd) (v : PV) (d : D) : Prop := v.fre = true → ∃ r, d = .ref r ∧ η0.nx ≤ r
def frP (P0 : Nat → Prop) (v : PV) (d : D) : Nat → Prop := fun q => P0 q ∨ (v.fre = true ∧ d = .ref q)
theorem Pr.up {P0 : Nat → Prop} {v : PV} {d : D} {q : Nat} (h : Pr P0 ρ σ q) : Pr (frP P0 v d) ρ σ q := h.imp .inl id
theorem Pr.down {P0 : Nat → Prop} {v : PV} {d : D} {q : Nat} (h : Pr (frP P0 v d) ρ σ q) : Pr P0 ρ σ q ∨ (v.fre = true ∧ d = .ref q) := by
  rcases h with (h | h) | h
  · exact .inl (.inl h)
  · exact .inr h
  · exact .inl (.inr h)
theorem RS.down {v w : PV} {d e : D} (h : RS (frP P0 v d) ρ σ η w e) : RS P0 ρ σ η w e := by
  cases w with
  | im _ => exact h
  | ls m l => cases m with
    | fr => obtain ⟨r, z1, z2, z3, z4⟩ := h; exact ⟨r, z1, z2, z3, fun p => z4 p.up⟩
    | lo => obtain ⟨r, z1, z2, z3, z4⟩ := h; exact ⟨r, z1, z2, z3, fun p => z4 p.up⟩
    | ke => exact h
    | ow => exact h
    | rd => exact h
  | dc m t l => cases m with
    | fr => obtain ⟨r, z1, z2, z3, z4⟩ := h; exact ⟨r, z1, z2, z3, fun p => z4 p.up⟩
    | lo => exact h
    | ke => exact h
    | ow => exact h
    | rd => exact h
  | cl c => exact h
  | ob c => exact OC.anti (fun q _ p => p.up) h
/-- a value held while others are computed -/
theorem Rep.hold (R : Rep P0 b ρ σ η0) (f : Fr (Pr P0 ρ σ) η0 η) (s : RS P0 ρ σ η v d) (n : Nw η0 v d) : Rep (frP P0 v d) b ρ σ η ∧ ∀ η', Fr (Pr (frP P0 v d) ρ σ) η η' → Fr (Pr P0 ρ σ) η η' ∧ RS P0 ρ σ η' v d := by
  have lt : ∀ r, v.fre = true → d = .ref r → r < η.nx := fun r hv e => by
    cases v with
    | im _ => cases hv
    | ls m l => cases m with
      | fr => obtain ⟨r', z1, z2, _⟩ := s; rw [e] at z1; cases z1; exact z2
      | _ => cases hv
    | dc m t l => cases m with
      | fr => obtain ⟨r', z1, z2, _⟩ := s; rw [e] at z1; cases z1; exact z2
      | _ => cases hv
    | cl c => cases hv
    | ob c => cases hv
  have apart : ∀ (i : Nat) (u : PV) (r : Nat), ρ[i]? = some (some u) → u.imm = false → σ[i]? = some (some (.ref r)) → ¬ (v.fre = true ∧ d = .ref r) := fun i u r h hu hs z => by
    obtain ⟨r', e, e2⟩ := n z.1
    rw [z.2] at e; cases e
    have := R.lt h hs hu
    omega
  have R1 := R.mono f
  refine ⟨⟨fun q h => ?_, R1.bn, R1.len, fun i u h => ?_, fun i u h hu => ?_, fun i l h => ?_, fun i t l h => ?_, R1.dj⟩, fun η' f' => ⟨f'.weak fun q _ p => p.up, ?_⟩⟩
  · rcases h with h | h
    · exact R1.old q h
    · exact lt q h.1 h.2
  · obtain ⟨e, e1, e2⟩ := R1.at_ i u h
    refine ⟨e, e1, ?_⟩
    cases u with
    | im _ => exact e2
    | ls m l =>
      obtain ⟨r, z1, z2, z3, z4, z5⟩ := e2
      refine ⟨r, z1, z2, z3, fun hm => ⟨(z4 hm).1.up, (z4 hm).2⟩, fun hm p => ?_⟩
      rcases p.down with p | p
      · exact z5 hm p
      · exact apart i _ r h rfl (by rw [e1, z1]) p
    | dc m t l =>
      obtain ⟨r, z1, z2, z3, z4, z5⟩ := e2
      refine ⟨r, z1, z2, z3, fun hm => (z4 hm).up, fun hm p => ?_⟩
      rcases p.down with p | p
      · exact z5 hm p
      · exact apart i _ r h rfl (by rw [e1, z1]) p
    | cl c => exact e2
    | ob X =>
      obtain ⟨e', y1, y2⟩ := R.at_ i _ h
      rw [e1] at y1; cases y1
      obtain ⟨r, F, z1, z2, z3⟩ := y2
      refine ⟨r, F, z1, X.st z2 f.1 (fun q hq => f.sm (X.lt z2 q hq)), fun q hq p => ?_⟩
      rcases p.down with p | p
      · exact z3 q hq p
      · obtain ⟨r', w1, w2⟩ := n p.1
        rw [p.2] at w1; cases w1
        have := X.lt z2 q hq
        omega
  · obtain ⟨r, e1, e2, e3⟩ := R1.ow i u h hu
    refine ⟨r, e1, e2, fun p => ?_⟩
    rcases p with p | p
    · exact e3 p
    · exact apart i u r h (by cases u <;> first | rfl | cases hu) e1 p
  · obtain ⟨r, e1, e2⟩ := R1.ke i l h; exact ⟨r, e1, .inl e2⟩
  · obtain ⟨r, e1, e2⟩ := R1.kd i t l h; exact ⟨r, e1, .inl e2⟩
  · cases v with
    | im _ => exact s
    | ls m l => cases m with
      | fr =>
        obtain ⟨r, z1, z2, z3, z4⟩ := s
        exact ⟨r, z1, Nat.lt_of_lt_of_le z2 f'.1, (f'.pro z2 (.inl (.inr ⟨rfl, z1⟩))).trans z3, z4⟩
      | lo =>
        obtain ⟨r, z1, z2, z3, z4⟩ := s
        exact ⟨r, z1, Nat.lt_of_lt_of_le z2 f'.1, f'.list z2 z3, z4⟩
      | ke => exact s
      | ow => exact s
      | rd => exact s
    | dc m t l => cases m with
      | fr =>
        obtain ⟨r, z1, z2, z3, z4⟩ := s
        exact ⟨r, z1, Nat.lt_of_lt_of_le z2 f'.1, (f'.pro z2 (.inl (.inr ⟨rfl, z1⟩))).trans z3, z4⟩
      | lo => exact s
      | ke => exact s
      | ow => exact s
      | rd => exact s
    | cl c => exact FC.mono f' s
    | ob c => exact OC.mono f' s
/-- what can be seen of a value -/
def VW (P : Nat → Prop) (η : Hd) : PV → D → Prop
  | .im e, d => d = e
  | .ls m l, d => ∃ r, d = .ref r ∧ r < η.nx ∧ η.list r = some l ∧ (m.pro = true ∨ m = .fr → η.get r = some (.lst l)) ∧ (m.pro = true → P r) ∧ (m = .lo ∨ m = .fr → ¬ P r)
  | .dc m t l, d => ∃ r, d = .ref r ∧ r < η.nx ∧ η.get r = some (.dct t l) ∧ (m.pro = true → P r) ∧ (m = .fr → ¬ P r)
  | .cl c, d => FC η c d
  | .ob X, d => OC P η X d
theorem RW.view (h : RW P η v d) (hv : v.fre = false) : VW P η v d := by
  cases v with
  | im _ => exact h
  | ls m l =>
    obtain ⟨r, z1, z2, z3, z4, z5⟩ := h
    exact ⟨r, z1, z2, z3, (fun hm => by
      rcases hm with hm | hm
      · exact (z4 hm).2
      · subst hm; cases hv), fun hm => (z4 hm).1, z5⟩
  | dc m t l => exact h
  | cl c => exact h
  | ob c => exact h
theorem Rep.view (R : Rep P0 b ρ σ η) (s : RS P0 ρ σ η v d) : VW (Pr P0 ρ σ) η v d := by
  have slot : ∀ i, ρ[i]? = some (some v) → σ[i]? = some (some d) → v.fre = false → VW (Pr P0 ρ σ) η v d := fun i h1 h2 h3 => by
    obtain ⟨e, e1, e2⟩ := R.at_ i v h1
    rw [h2] at e1; cases e1
    exact e2.view h3
  cases v with
  | im _ => exact s
  | ls m l => cases m with
    | fr => obtain ⟨r, z1, z2, z3, z4⟩ := s; exact ⟨r, z1, z2, list_lst z3, fun _ => z3, fun hm => (nomatch hm), fun _ => z4⟩
    | lo => obtain ⟨r, z1, z2, z3, z4⟩ := s; exact ⟨r, z1, z2, z3, (fun hm => by rcases hm with hm | hm <;> cases hm), fun hm => (nomatch hm), fun _ => z4⟩
    | ke => obtain ⟨i, z1, z2⟩ := s; exact slot i z1 z2 rfl
    | ow => obtain ⟨i, z1, z2⟩ := s; exact slot i z1 z2 rfl
    | rd => obtain ⟨i, z1, z2⟩ := s; exact slot i z1 z2 rfl
  | dc m t l => cases m with
    | fr => obtain ⟨r, z1, z2, z3, z4⟩ := s; exact ⟨r, z1, z2, z3, fun hm => (nomatch hm), fun _ => z4⟩
    | lo => obtain ⟨i, z1, z2⟩ := s; exact slot i z1 z2 rfl
    | ke => obtain ⟨i, z1, z2⟩ := s; exact slot i z1 z2 rfl
    | ow => obtain ⟨i, z1, z2⟩ := s; exact slot i z1 z2 rfl
    | rd => obtain ⟨i, z1, z2⟩ := s; exact slot i z1 z2 rfl
  | cl c => exact s
  | ob c => exact s
/-- how a value is laid into a slot -/
def stM : PV → Option PV
  | .im d => some (.im d)
  | .ls .fr l => some (.ls .ow l)
  | .ls .lo l => some (.ls .lo l)
  | .dc .fr t l => some (.dc .ow t l)
  | .cl c => some (.cl c)
  | .ob X => some (.ob X)
  | _ => none
/-- a forgotten slot is filled -/
theorem Rep.fill (R : Rep P0 b ρ σ η) {i : Nat} {w : PV} (h0 : ρ[i]? = some none) (hs : σ[i]? = some (some d)) (hr : RW (Pr P0 (ρ.set i (some w)) σ) η w d)
    (how : w.own = true → ∃ r, d = .ref r ∧ b ≤ r ∧ ¬ P0 r) (hke : ∀ l, w = .ls .ke l → ∃ r, d = .ref r ∧ P0 r) (hkd : ∀ t l, w = .dc .ke t l → ∃ r, d = .ref r ∧ P0 r)
    (hF : w.own = true → ∀ q, d = .ref q → ∀ j X, j ≠ i → ρ[j]? = some (some (.ob X)) → ∃ e r F, σ[j]? = some (some e) ∧ e = .ref r ∧ X.at_ η r F ∧ q ∉ F ∧ ∀ p ∈ F, ¬ Pr P0 ρ σ p)
    (hdj : ∀ j w', j ≠ i → ρ[j]? = some (some w') → (w.own = true ∧ w'.imm = false ∨ w'.own = true ∧ w.imm = false) → σ[j]? ≠ some (some d)) : Rep P0 b (ρ.set i (some w)) σ η := by
  have hi : i < ρ.length := (List.getElem?_eq_some_iff.mp h0).1
  have gi : (ρ.set i (some w))[i]? = some (some w) := List.getElem?_set_self hi
  have gj : ∀ j, j ≠ i → (ρ.set i (some w))[j]? = ρ[j]? := fun j h => List.getElem?_set_ne (Ne.symm h)
  have sup : ∀ q, Pr P0 (ρ.set i (some w)) σ q → Pr P0 ρ σ q ∨ (w.own = true ∧ d = .ref q) := fun q h => by
    rcases h with h | ⟨j, v, h1, h2, h3⟩
    · exact .inl (.inl h)
    · by_cases z : j = i
      · subst z
        rw [gi] at h1; cases h1
        rw [hs] at h3
        exact .inr ⟨h2, Option.some.inj (Option.some.inj h3)⟩
      · rw [gj j z] at h1
        exact .inl (.inr ⟨j, v, h1, h2, h3⟩)
  have sub : ∀ q, Pr P0 ρ σ q → Pr P0 (ρ.set i (some w)) σ q := fun q h => by
    rcases h with h | ⟨j, v, h1, h2, h3⟩
    · exact .inl h
    · have z : j ≠ i := fun z => by subst z; rw [h0] at h1; cases h1
      exact .inr ⟨j, v, by rw [gj j z]; exact h1, h2, h3⟩
  refine ⟨R.old, R.bn, by rw [List.length_set]; exact R.len, fun j v h => ?_, fun j v h hv => ?_, fun j l h => ?_, fun j t l h => ?_, fun j k v u e hjk h1 h2 h3 h5 h4 => ?_⟩
  · by_cases z : j = i
    · subst z
      rw [gi] at h; cases h
      exact ⟨d, hs, hr⟩
    · rw [gj j z] at h
      obtain ⟨e, e1, r⟩ := R.at_ j v h
      refine ⟨e, e1, ?_⟩
      cases v with
      | im e => exact r
      | ls m l =>
        obtain ⟨r, z1, z2, z3, z4, z5⟩ := r
        refine ⟨r, z1, z2, z3, fun hm => ⟨sub _ (z4 hm).1, (z4 hm).2⟩, fun hm p => ?_⟩
        rcases sup r p with p | ⟨p1, p2⟩
        · exact z5 hm p
        · exact hdj j _ z h (.inl ⟨p1, rfl⟩) (by rw [e1, z1, p2])
      | dc m t l =>
        obtain ⟨r, z1, z2, z3, z4, z5⟩ := r
        refine ⟨r, z1, z2, z3, fun hm => sub _ (z4 hm), fun hm p => ?_⟩
        rcases sup r p with p | ⟨p1, p2⟩
        · exact z5 hm p
        · exact hdj j _ z h (.inl ⟨p1, rfl⟩) (by rw [e1, z1, p2])
      | cl c => exact r
      | ob X =>
        cases ho : w.own with
        | false => exact OC.anti (fun q _ p => (sup q p).elim id fun y => by rw [ho] at y; cases y.1) r
        | true =>
          obtain ⟨q0, rfl⟩ : ∃ q0, d = .ref q0 := by obtain ⟨q0, y, _⟩ := how ho; exact ⟨q0, y⟩
          obtain ⟨e', r', F, y1, y2, y3, y4, y5⟩ := hF ho q0 rfl j X z h
          rw [e1] at y1; cases y1
          refine ⟨r', F, y2, y3, fun p hp y => ?_⟩
          rcases sup p y with y | ⟨_, y⟩
          · exact y5 p hp y
          · cases y; exact y4 hp
  · by_cases z : j = i
    · subst z
      rw [gi] at h; cases h
      obtain ⟨r, e1, e2⟩ := how hv
      exact ⟨r, by rw [hs, e1], e2⟩
    · rw [gj j z] at h; exact R.ow j v h hv
  · by_cases z : j = i
    · subst z
      rw [gi] at h; cases h
      obtain ⟨r, e1, e2⟩ := hke _ rfl
      exact ⟨r, by rw [hs, e1], e2⟩
    · rw [gj j z] at h; exact R.ke j l h
  · by_cases z : j = i
    · subst z
      rw [gi] at h; cases h
      obtain ⟨r, e1, e2⟩ := hkd _ _ rfl
      exact ⟨r, by rw [hs, e1], e2⟩
    · rw [gj j z] at h; exact R.kd j t l h
  · by_cases z : j = i
    · subst z
      rw [gi] at h1; cases h1
      rw [hs] at h4; cases h4
      rw [gj k (Ne.symm hjk)] at h3
      exact hdj k u (Ne.symm hjk) h3 (.inl ⟨h2, h5⟩)
    · rw [gj j z] at h1
      by_cases z2 : k = i
      · subst z2
        rw [gi] at h3; cases h3
        intro e2
        rw [hs] at e2; cases e2
        exact hdj j v z h1 (.inr ⟨h2, h5⟩) h4
      · rw [gj k z2] at h3
        exact R.dj j k v u e hjk h1 h2 h3 h5 h4
theorem Rep.put (R : Rep P0 b ρ σ η0) (f : Fr (Pr P0 ρ σ) η0 η) (rv : RS P0 ρ σ η v d) (nw : Nw η0 v d) {w : PV} (hw : stM v = some w) (i : Nat) : Rep P0 b (ρ.set i (some w)) (σ.set i (some d)) η := by
  by_cases hi : i < ρ.length
  · have R1 := (R.mono f).wipe1 i (some d)
    have hiσ : i < σ.length := by rw [R.len]; exact hi
    have e0 : (ρ.set i none).set i (some w) = ρ.set i (some w) := by rw [List.set_set]
    have get : ∀ (j : Nat) (u : PV), j ≠ i → (ρ.set i none)[j]? = some (some u) → ρ[j]? = some (some u) := fun j u z h => by rw [List.getElem?_set_ne (Ne.symm z)] at h; exact h
    have old : ∀ (j : Nat) (u : PV) (r : Nat), j ≠ i → (ρ.set i none)[j]? = some (some u) → u.imm = false → (σ.set i (some d))[j]? = some (some (.ref r)) → r < η0.nx := fun j u r z h hu hs => by
      rw [List.getElem?_set_ne (Ne.symm z)] at hs
      exact R.lt (get j u z h) hs hu
    have prO : ∀ (j : Nat) (u : PV) (r : Nat), j ≠ i → (ρ.set i none)[j]? = some (some u) → u.own = true → (σ.set i (some d))[j]? = some (some (.ref r)) → Pr P0 ρ σ r ∧ b ≤ r := fun j u r z h hu hs => by
      rw [List.getElem?_set_ne (Ne.symm z)] at hs
      have h := get j u z h
      obtain ⟨r', e1, e2⟩ := R.ow j u h hu
      rw [hs] at e1; cases e1
      exact ⟨.inr ⟨j, u, h, hu, hs⟩, e2.1⟩
    have sub : ∀ q, Pr P0 ((ρ.set i none).set i (some w)) (σ.set i (some d)) q → w.own = false → Pr P0 ρ σ q := fun q h hw => by
      rcases h with h | ⟨j, u, h1, h2, h3⟩
      · exact .inl h
      · by_cases z : j = i
        · subst z
          rw [e0, List.getElem?_set_self hi] at h1; cases h1
          rw [hw] at h2; cases h2
        · rw [e0, List.getElem?_set_ne (Ne.symm z)] at h1
          rw [List.getElem?_set_ne (Ne.symm z)] at h3
          exact .inr ⟨j, u, h1, h2, h3⟩
    rw [← e0]
    have gs : (σ.set i (some d))[i]? = some (some d) := List.getElem?_set_self hiσ
    refine R1.fill (List.getElem?_set_self hi) gs ?_ ?_ ?_ ?_ ?_ ?_
    · cases v with
      | im e => cases hw; exact rv
      | ls m l => cases m with
        | fr =>
          cases hw
          obtain ⟨r, z1, z2, z3, z4⟩ := rv
          exact ⟨r, z1, z2, list_lst z3, fun _ => ⟨.inr ⟨i, _, by rw [e0, List.getElem?_set_self hi], rfl, by rw [gs, z1]⟩, z3⟩, fun hm => by rcases hm with hm | hm <;> cases hm⟩
        | lo =>
          cases hw
          obtain ⟨r, z1, z2, z3, z4⟩ := rv
          exact ⟨r, z1, z2, z3, fun hm => (nomatch hm), fun _ p => z4 (sub _ p rfl)⟩
        | _ => cases hw
      | dc m t l => cases m with
        | fr =>
          cases hw
          obtain ⟨r, z1, z2, z3, z4⟩ := rv
          exact ⟨r, z1, z2, z3, fun _ => .inr ⟨i, _, by rw [e0, List.getElem?_set_self hi], rfl, by rw [gs, z1]⟩, fun hm => (nomatch hm)⟩
        | _ => cases hw
      | cl c => cases hw; exact rv
      | ob c => cases hw; exact OC.anti (fun q _ p => sub q p rfl) rv
    · intro ho
      have hv : v.fre = true := by
        cases v with
        | im e => cases hw; cases ho
        | ls m l => cases m <;> first | rfl | (cases hw; cases ho; done) | cases hw
        | dc m t l => cases m <;> first | rfl | (cases hw; cases ho; done) | cases hw
        | cl c => cases hw; cases ho
        | ob c => cases hw; cases ho
      obtain ⟨r, e1, e2⟩ := nw hv
      exact ⟨r, e1, Nat.le_trans R.bn e2, fun p => by have := R.old r p; omega⟩
    · intro l e
      subst e
      cases v with
      | im e => cases hw
      | ls m l => cases m <;> cases hw
      | dc m t l => cases m <;> cases hw
      | cl c => cases hw
      | ob c => cases hw
    · intro t l e
      subst e
      cases v with
      | im e => cases hw
      | ls m l => cases m <;> cases hw
      | dc m t l => cases m <;> cases hw
      | cl c => cases hw
      | ob c => cases hw
    · intro ho q hq j X z hj
      have hv : v.fre = true := by
        cases v with
        | im e => cases hw; cases ho
        | ls m l => cases m <;> first | rfl | (cases hw; cases ho; done) | cases hw
        | dc m t l => cases m <;> first | rfl | (cases hw; cases ho; done) | cases hw
        | cl c => cases hw; cases ho
        | ob c => cases hw; cases ho
      obtain ⟨r', w1, w2⟩ := nw hv
      rw [hq] at w1; cases w1
      obtain ⟨e, e1, r, F, z1, z2, z3⟩ := R.at_ j _ (get j _ z hj)
      refine ⟨e, r, F, by rw [List.getElem?_set_ne (Ne.symm z)]; exact e1, z1, X.st z2 f.1 (fun p hp => f.sm (X.lt z2 p hp)), fun hp => by have := X.lt z2 _ hp; omega, fun p hp y => z3 p hp ?_⟩
      rcases y with y | ⟨k, u, h1, h2, h3⟩
      · exact .inl y
      · by_cases zk : k = i
        · subst zk
          rw [List.getElem?_set_self hi] at h1; cases h1
        · rw [List.getElem?_set_ne (Ne.symm zk)] at h1 h3
          exact .inr ⟨k, u, h1, h2, h3⟩
    · intro j u z hj hc hs
      have fre : v.fre = true → False := fun hv => by
        obtain ⟨r, e1, e2⟩ := nw hv
        have hu : u.imm = false := by
          rcases hc with ⟨_, c⟩ | ⟨c, _⟩
          · exact c
          · cases u <;> first | rfl | cases c
        have := old j u r z hj hu (by rw [hs, e1])
        omega
      cases v with
      | im e =>
        cases hw
        rcases hc with ⟨c, _⟩ | ⟨_, c⟩ <;> cases c
      | ls m l => cases m with
        | fr => exact fre rfl
        | lo =>
          cases hw
          obtain ⟨r, z1, z2, z3, z4⟩ := rv
          rcases hc with ⟨c, _⟩ | ⟨c, _⟩
          · cases c
          · exact z4 (prO j u r z hj c (by rw [hs, z1])).1
        | _ => cases hw
      | dc m t l => cases m with
        | fr => exact fre rfl
        | _ => cases hw
      | cl c =>
        cases hw
        rcases hc with ⟨c, _⟩ | ⟨_, c⟩ <;> cases c
      | ob c =>
        cases hw
        rcases hc with ⟨c, _⟩ | ⟨_, c⟩ <;> cases c
  · rw [List.set_eq_of_length_le (by omega), List.set_eq_of_length_le (by rw [R.len]; omega)]
    exact R.mono f
end
end PL

/-! the plain layer: expressions -/
namespace PL
open PySem PySem.Spec L2 DL
def SE (c : CE) (p : PE) : Prop := ∀ ⦃P0 : Nat → Prop⦄ ⦃b : Nat⦄ ⦃ρ : PEn⦄ ⦃σ : SD⦄ ⦃η : Hd⦄ ⦃kv : KV⦄ ⦃kx : KX⦄, Rep P0 b ρ σ η →
  (p ρ).ok (fun v => ∀ d η', Fr (Pr P0 ρ σ) η η' → RS P0 ρ σ η' v d → Nw η v d → kv d η' = true) (fun x => ∀ η', Fr (Pr P0 ρ σ) η η' → kx x η' = true) → c σ η kv kx = true
def ST (c : CT) (p : PT) : Prop := ∀ ⦃P0 : Nat → Prop⦄ ⦃b : Nat⦄ ⦃ρ : PEn⦄ ⦃σ : SD⦄ ⦃η : Hd⦄ ⦃kv : Bool → Hd → Bool⦄ ⦃kx : KX⦄, Rep P0 b ρ σ η →
  (p ρ).ok (fun v => ∀ η', Fr (Pr P0 ρ σ) η η' → kv v η' = true) (fun x => ∀ η', Fr (Pr P0 ρ σ) η η' → kx x η' = true) → c σ η kv kx = true
inductive RSs (P0 : Nat → Prop) (ρ : PEn) (σ : SD) (η : Hd) : List PV → List D → Prop
  | nil : RSs P0 ρ σ η [] []
  | cons {v : PV} {d : D} {vs : List PV} {ds : List D} (h : RS P0 ρ σ η v d) (r : RSs P0 ρ σ η vs ds) : RSs P0 ρ σ η (v :: vs) (d :: ds)
def SA (c : CA) (p : PA) : Prop := ∀ ⦃P0 : Nat → Prop⦄ ⦃b : Nat⦄ ⦃ρ : PEn⦄ ⦃σ : SD⦄ ⦃η : Hd⦄ ⦃kv : List D → Hd → Bool⦄ ⦃kx : KX⦄, Rep P0 b ρ σ η →
  (p ρ).ok (fun vs => ∀ ds η', Fr (Pr P0 ρ σ) η η' → RSs P0 ρ σ η' vs ds → kv ds η' = true) (fun x => ∀ η', Fr (Pr P0 ρ σ) η η' → kx x η' = true) → c σ η kv kx = true
/-- a result of an operation: without a cell, or new -/
def NR (η η' : Hd) : PV → D → Prop
  | .im e, d => d = e
  | .ls .fr l, d => ∃ r, d = .ref r ∧ η.nx ≤ r ∧ r < η'.nx ∧ η'.get r = some (.lst l)
  | .dc .fr t l, d => ∃ r, d = .ref r ∧ η.nx ≤ r ∧ r < η'.nx ∧ η'.get r = some (.dct t l)
  | .cl c, d => FC η' c d
  | .ob X, d => ∃ r F, d = .ref r ∧ X.at_ η' r F ∧ ∀ q ∈ F, η.nx ≤ q
  | _, _ => False
section
variable {P0 : Nat → Prop} {b : Nat} {ρ : PEn} {σ : SD} {η η0 η1 η' : Hd} {v : PV} {d : D}
theorem NR.rs (R : Rep P0 b ρ σ η) (h : NR η η' v d) : RS P0 ρ σ η' v d ∧ Nw η v d := by
  cases v with
  | im _ => exact ⟨h, fun z => nomatch z⟩
  | ls m l => cases m with
    | fr => obtain ⟨r, z1, z2, z3, z4⟩ := h; exact ⟨⟨r, z1, z3, z4, fun p => by have := Pr_lt R p; omega⟩, fun _ => ⟨r, z1, z2⟩⟩
    | _ => exact h.elim
  | dc m t l => cases m with
    | fr => obtain ⟨r, z1, z2, z3, z4⟩ := h; exact ⟨⟨r, z1, z3, z4, fun p => by have := Pr_lt R p; omega⟩, fun _ => ⟨r, z1, z2⟩⟩
    | _ => exact h.elim
  | cl c => exact ⟨h, fun z => nomatch z⟩
  | ob X =>
    obtain ⟨r, F, z1, z2, z3⟩ := h
    exact ⟨⟨r, F, z1, z2, fun q hq p => by have := Pr_lt R p; have := z3 q hq; omega⟩, fun z => nomatch z⟩
theorem Nw.le (h : Nw η1 v d) (n : η0.nx ≤ η1.nx) : Nw η0 v d := fun z => by obtain ⟨r, e, l⟩ := h z; exact ⟨r, e, Nat.le_trans n l⟩
theorem Rep.lts (R : Rep P0 b ρ σ η) : ∀ q, Pr P0 ρ σ q → q < η.nx := fun q h => Pr_lt R h
/-- the views of values -/
inductive VWs (P : Nat → Prop) (η : Hd) : List PV → List D → Prop
  | nil : VWs P η [] []
  | cons {v : PV} {d : D} {vs : List PV} {ds : List D} (h : VW P η v d) (r : VWs P η vs ds) : VWs P η (v :: vs) (d :: ds)
theorem Rep.views (R : Rep P0 b ρ σ η) {vs : List PV} {ds : List D} (h : RSs P0 ρ σ η vs ds) : VWs (Pr P0 ρ σ) η vs ds := by
  induction h with
  | nil => exact .nil
  | cons h r ih => exact .cons (R.view h) ih
theorem RSs.down {w : PV} {e : D} {vs : List PV} {ds : List D} (h : RSs (frP P0 w e) ρ σ η vs ds) : RSs P0 ρ σ η vs ds := by
  induction h with
  | nil => exact .nil
  | cons h r ih => exact .cons h.down ih
theorem Rs.imp {α : Type} {r : Rs α} {Q Q' : α → Prop} {E E' : Xc → Prop} (h : r.ok Q E) (f : ∀ a, Q a → Q' a) (g : ∀ x, E x → E' x) : r.ok Q' E' := Rs.ok.imp h f g
end
/-! ### names, constants -/
def pVar (i : Nat) : PE := fun ρ => match ρ[i]? with
  | some (some (.im d)) => .val (.im d)
  | some (some (.ls m l)) => match m with
    | .fr => .bad
    | m => .val (.ls m l)
  | some (some (.dc m t l)) => match m with
    | .fr => .bad
    | m => .val (.dc m t l)
  | some (some (.cl c)) => .val (.cl c)
  | some (some (.ob X)) => .val (.ob X)
  | _ => .bad
theorem Rep.slot {P0 : Nat → Prop} {b : Nat} {ρ : PEn} {σ : SD} {η : Hd} {v : PV} {i : Nat} (R : Rep P0 b ρ σ η) (h : ρ[i]? = some (some v)) (hv : v.fre = false) : ∃ d : D, σ[i]? = some (some d) ∧ RS P0 ρ σ η v d := by
  obtain ⟨d, e, r⟩ := R.at_ i v h
  refine ⟨d, e, ?_⟩
  cases v with
  | im _ => exact r
  | ls m l => cases m with
    | fr => cases hv
    | lo => obtain ⟨r, z1, z2, z3, z4, z5⟩ := r; exact ⟨r, z1, z2, z3, z5 (.inl rfl)⟩
    | ke => exact ⟨i, h, e⟩
    | ow => exact ⟨i, h, e⟩
    | rd => exact ⟨i, h, e⟩
  | dc m t l => cases m with
    | fr => cases hv
    | lo => exact ⟨i, h, e⟩
    | ke => exact ⟨i, h, e⟩
    | ow => exact ⟨i, h, e⟩
    | rd => exact ⟨i, h, e⟩
  | cl c => exact r
  | ob c => exact r
theorem se_var {i : Nat} : SE (cVar i) (pVar i) := by
  intro P0 b ρ σ η kv kx R h
  unfold pVar at h
  have go : ∀ v : PV, ρ[i]? = some (some v) → v.fre = false → (∀ d η', Fr (Pr P0 ρ σ) η η' → RS P0 ρ σ η' v d → Nw η v d → kv d η' = true) → cVar i σ η kv kx = true := fun v e hv hk => by
    obtain ⟨d, e1, e2⟩ := R.slot e hv
    unfold cVar
    rw [e1]
    exact hk d η (Fr.refl _ _) e2 fun z => by rw [hv] at z; cases z
  split at h
  · rename_i e; exact go _ e rfl h
  · rename_i m l e
    cases m with
    | fr => exact h.elim
    | _ => exact go _ e rfl h
  · rename_i m t l e
    cases m with
    | fr => exact h.elim
    | _ => exact go _ e rfl h
  · rename_i e; exact go _ e rfl h
  · rename_i e; exact go _ e rfl h
  · exact h.elim
def pC (d : D) : PE := fun _ => .val (.im d)
theorem se_c {d : D} : SE (cC d) (pC d) := by
  intro P0 b ρ σ η kv kx R h
  exact h d η (Fr.refl _ _) rfl (fun z => nomatch z)
/-! ### operators -/
abbrev G2 := PV → PV → Option PV
def S2 (f : F2) (g : G2) : Prop := ∀ ⦃P : Nat → Prop⦄ ⦃η : Hd⦄ ⦃x y v : PV⦄ ⦃dx dy : D⦄, (∀ q, P q → q < η.nx) → VW P η x dx → VW P η y dy → g x y = some v → ∃ d η', f dx dy η = some (d, η') ∧ Fr P η η' ∧ NR η η' v d
def pOp (g : G2) (a b : PE) : PE := fun ρ => (a ρ).bind fun x => (b ρ).bind fun y => match g x y with
  | some v => .val v
  | none => .bad
theorem se_op {f : F2} {g : G2} {a b : CE} {pa pb : PE} (hf : S2 f g) (ha : SE a pa) (hb : SE b pb) : SE (cOp f a b) (pOp g pa pb) := by
  intro P0 b ρ σ η kv kx R h
  unfold cOp
  refine ha R (Rs.imp (Rs.bind_ok h) (fun x hx dx η1 f1 s1 n1 => ?_) (fun x hx η' f => hx η' f))
  obtain ⟨R1, dn⟩ := R.hold f1 s1 n1
  refine hb R1 (Rs.imp (Rs.bind_ok hx) (fun y hy dy η2 f2 s2 n2 => ?_) (fun x hx η' f => hx η' (f1.trans (dn η' f).1)))
  obtain ⟨f2', s1'⟩ := dn η2 f2
  have R2 := R.mono (f1.trans f2')
  cases e : g x y with
  | none => rw [e] at hy; exact hy.elim
  | some v =>
    rw [e] at hy
    obtain ⟨d, η3, e1, f3, nr⟩ := hf R2.lts (R2.view s1') (R2.view s2.down) e
    rw [e1]
    obtain ⟨s3, n3⟩ := nr.rs R2
    exact hy d η3 ((f1.trans f2').trans f3) s3 (n3.le ((f1.trans f2').1))
def Md.tight : Md → Bool
  | .fr => true
  | .ke => true
  | .ow => true
  | _ => false
theorem VW.lst {P : Nat → Prop} {η : Hd} {m : Md} {l : List D} {d : D} (h : VW P η (.ls m l) d) : ∃ r, d = .ref r ∧ r < η.nx ∧ η.list r = some l ∧ (m.tight = true → η.get r = some (.lst l)) := by
  obtain ⟨r, z1, z2, z3, z4, _⟩ := h
  exact ⟨r, z1, z2, z3, fun hm => z4 (by cases m <;> first | exact .inl rfl | exact .inr rfl | cases hm)⟩
theorem VW.ows {P : Nat → Prop} {η : Hd} {l : List (D × D)} {d : D} (h : VW P η (.ob (.ws l)) d) : ∃ r, d = .ref r ∧ r < η.nx ∧ η.get r = some (.dct false l) := by
  obtain ⟨r, F, z1, z2, z3⟩ := h
  obtain ⟨_, g, lt⟩ := z2
  exact ⟨r, z1, lt, g⟩
theorem VW.dct {P : Nat → Prop} {η : Hd} {m : Md} {t : Bool} {l : List (D × D)} {d : D} (h : VW P η (.dc m t l) d) : ∃ r, d = .ref r ∧ r < η.nx ∧ η.get r = some (.dct t l) := by
  obtain ⟨r, z1, z2, z3, _⟩ := h
  exact ⟨r, z1, z2, z3⟩
section
variable {g : Int → Int → Int} {gb c : Int → Int → Bool}
end
def gMul : G2 := fun x y => match x, y with
  | .im (.int i), .im (.int j) => match mulOk i j with
    | true => some (.im (.int (i * j)))
    | false => none
  | .ls m a, .im (.int k) => match m.tight, Nat.ble k.natAbs 100000, Nat.ble (a.length * k.toNat) line with
    | true, true, true => some (.ls .fr (List.replicate k.toNat a).flatten)
    | _, _, _ => none
  | _, _ => none
theorem s2_mul : S2 fMul gMul := by
  intro P η x y v dx dy lt hx hy h
  unfold gMul at h
  split at h
  · rename_i i j
    cases hx; cases hy
    split at h
    · rename_i e; cases h
      exact ⟨_, η, by simp only [fMul, fOr, fI2c, e]; rfl, Fr.refl _ _, rfl⟩
    · cases h
  · rename_i m a k
    cases hy
    split at h
    · rename_i e1 e2 e3; cases h
      obtain ⟨r, rfl, l1, _, g1⟩ := hx.lst
      exact ⟨_, _, by simp only [fMul, fOr, fI2c, fRepL, g1 e1, e2, e3], Fr.new, ⟨_, rfl, Nat.le_refl _, Nat.lt_succ_self _, get_new_eq⟩⟩
    · cases h
  · cases h
/-- == of values -/
def eqP : PV → PV → Option Bool
  | .im x, .im y => match pur 8 x, pur 8 y with
    | true, true => some (eqn 8 x y)
    | _, _ => none
  | .ls _ a, .ls _ b => match purs 8 a, purs 8 b with
    | true, true => some (eqL (eqn 8) a b)
    | _, _ => none
  | .ls _ a, .im y => match purs 8 a, pur 8 y with
    | true, true => some false
    | _, _ => none
  | .im x, .ls _ b => match purs 8 b, pur 8 x with
    | true, true => some false
    | _, _ => none
  | _, _ => none
theorem pur_ref {n r : Nat} : pur n (.ref r) = false := by cases n <;> rfl
theorem eqF_im {η : Hd} {x y : D} (hx : pur 8 x = true) (hy : pur 8 y = true) : eqF η x y = some (eqn 8 x y) := by
  cases x with
  | ref r => rw [pur_ref] at hx; cases hx
  | _ => cases y with
    | ref r => rw [pur_ref] at hy; cases hy
    | _ => simp only [eqF, hx, hy]
theorem eqP_ok {P : Nat → Prop} {η : Hd} {x y : PV} {dx dy : D} {t : Bool} (hx : VW P η x dx) (hy : VW P η y dy) (h : eqP x y = some t) : eqF η dx dy = some t := by
  unfold eqP at h
  split at h
  · cases hx; cases hy
    split at h
    · rename_i e1 e2; rw [eqF_im e1 e2]; exact h
    · cases h
  · obtain ⟨r, rfl, l1, g1, _⟩ := hx.lst
    obtain ⟨s, rfl, l2, g2, _⟩ := hy.lst
    split at h
    · rename_i e1 e2; simp only [eqF, g1, g2, e1, e2]; exact h
    · cases h
  · rename_i m a y
    obtain ⟨r, rfl, l1, g1, _⟩ := hx.lst
    cases hy
    split at h
    · rename_i e1 e2; cases h
      cases dy with
      | ref q => rw [pur_ref] at e2; cases e2
      | _ => simp only [eqF, g1, e1, e2]
    · cases h
  · rename_i x m b
    obtain ⟨r, rfl, l1, g1, _⟩ := hy.lst
    cases hx
    split at h
    · rename_i e1 e2; cases h
      cases dx with
      | ref q => rw [pur_ref] at e2; cases e2
      | _ => simp only [eqF, g1, e1, e2]
    · cases h
  · cases h
def gEq : G2 := fun x y => match eqP x y with
  | some t => some (.im (.bl t))
  | none => none
def gNe : G2 := fun x y => match eqP x y with
  | some t => some (.im (.bl (!t)))
  | none => none
theorem s2_eq : S2 fEq gEq := by
  intro P η x y v dx dy lt hx hy h
  unfold gEq at h
  split at h
  · rename_i t e; cases h; exact ⟨_, η, by simp only [fEq, eqP_ok hx hy e], Fr.refl _ _, rfl⟩
  · cases h
theorem s2_ne : S2 fNe gNe := by
  intro P η x y v dx dy lt hx hy h
  unfold gNe at h
  split at h
  · rename_i t e; cases h; exact ⟨_, η, by simp only [fNe, eqP_ok hx hy e], Fr.refl _ _, rfl⟩
  · cases h
/-- o[i] -/
def gIx : G2 := fun x y => match x, y with
  | .im (.tup l), .im (.int i) => match atD l i with
    | some d => some (.im d)
    | none => none
  | .ls _ l, .im (.int i) => match atD l i with
    | some d => some (.im d)
    | none => none
  | .dc _ t kvs, .im k => match isKey t k with
    | true => match dlook k kvs with
      | some d => some (.im d)
      | none => none
    | false => none
  | .im (.ftup l), .im (.int i) => match atD l i with
    | some d => some (.im d)
    | none => none
  | .cl (.ldc t kvs), .im k => match isKey t k with
    | true => match dlook k kvs with
      | some d => some (.im d)
      | none => none
    | false => none
  | .ob (.ws kvs), .im k => match isKey false k with
    | true => match dlook k kvs with
      | some d => some (.im d)
      | none => none
    | false => none
  | _, _ => none
theorem s2_ix : S2 fIx gIx := by
  intro P η x y v dx dy lt hx hy h
  unfold gIx at h
  split at h
  · cases hx; cases hy
    split at h
    · rename_i e; cases h; exact ⟨_, η, by simp only [fIx, e], Fr.refl _ _, rfl⟩
    · cases h
  · obtain ⟨r, rfl, l1, g1, _⟩ := hx.lst
    cases hy
    split at h
    · rename_i e; cases h
      refine ⟨_, η, ?_, Fr.refl _ _, rfl⟩
      rcases list_cases g1 with q | q
      · simp only [fIx, q, e]
      · simp only [fIx, q, e]
    · cases h
  · obtain ⟨r, rfl, l1, g1⟩ := hx.dct
    cases hy
    split at h
    · rename_i e1
      split at h
      · rename_i e; cases h; exact ⟨_, η, by simp only [fIx, g1, e1, e], Fr.refl _ _, rfl⟩
      · cases h
    · cases h
  · cases hx; cases hy
    split at h
    · rename_i e; cases h; exact ⟨_, η, by simp only [fIx, e], Fr.refl _ _, rfl⟩
    · cases h
  · obtain ⟨r, rfl, l1, g1, _⟩ := hx
    cases hy
    split at h
    · rename_i e1
      split at h
      · rename_i e; cases h; exact ⟨_, η, by simp only [fIx, g1, e1, e], Fr.refl _ _, rfl⟩
      · cases h
    · cases h
  · obtain ⟨r, rfl, l1, g1⟩ := hx.ows
    cases hy
    split at h
    · rename_i e1
      split at h
      · rename_i e; cases h; exact ⟨_, η, by simp only [fIx, g1, e1, e], Fr.refl _ _, rfl⟩
      · cases h
    · cases h
  · cases h
/-! ### rows of values -/
def pNil : PA := fun _ => .val []
def pCons (a : PE) (r : PA) : PA := fun ρ => (a ρ).bind fun v => (r ρ).bind fun vs => .val (v :: vs)
theorem sa_nil : SA cNil pNil := by
  intro P0 b ρ σ η kv kx R h
  exact h [] η (Fr.refl _ _) .nil
theorem sa_cons {a : CE} {r : CA} {pa : PE} {pr : PA} (ha : SE a pa) (hr : SA r pr) : SA (cCons a r) (pCons pa pr) := by
  intro P0 b ρ σ η kv kx R h
  unfold cCons
  refine ha R (Rs.imp (Rs.bind_ok h) (fun x hx dx η1 f1 s1 n1 => ?_) (fun x hx η' f => hx η' f))
  obtain ⟨R1, dn⟩ := R.hold f1 s1 n1
  refine hr R1 (Rs.imp (Rs.bind_ok hx) (fun y hy dy η2 f2 s2 => ?_) (fun x hx η' f => hx η' (f1.trans (dn η' f).1)))
  obtain ⟨f2', s1'⟩ := dn η2 f2
  exact hy (dx :: dy) η2 (f1.trans f2') (.cons s1' s2.down)
def imms : List PV → Option (List D)
  | [] => some []
  | .im d :: vs => match imms vs with
    | some ds => some (d :: ds)
    | none => none
  | _ :: _ => none
theorem imms_ok {P : Nat → Prop} {η : Hd} : ∀ {vs : List PV} {ds es : List D}, VWs P η vs ds → imms vs = some es → ds = es
  | _, _, _, .nil, h => by cases h; rfl
  | .im d :: vs, _, es, .cons h r, e => by
    simp only [imms] at e
    split at e
    · rename_i ds' e2; cases e; rw [imms_ok r e2]; cases h; rfl
    · cases e
  | .ls _ _ :: _, _, _, .cons h r, e => by cases e
  | .dc _ _ _ :: _, _, _, .cons h r, e => by cases e
  | .cl _ :: _, _, _, .cons h r, e => by cases e
  | .ob _ :: _, _, _, .cons h r, e => by cases e
def pLst (a : PA) : PE := fun ρ => (a ρ).bind fun vs => match imms vs with
  | some ds => match Nat.ble ds.length line with
    | true => .val (.ls .fr ds)
    | false => .bad
  | none => .bad
theorem se_lst {a : CA} {pa : PA} (ha : SA a pa) : SE (cLst a) (pLst pa) := by
  intro P0 b ρ σ η kv kx R h
  unfold cLst
  refine ha R (Rs.imp (Rs.bind_ok h) (fun vs hx ds η1 f1 s1 => ?_) (fun x hx η' f => hx η' f))
  have R1 := R.mono f1
  split at hx
  · rename_i es e
    cases imms_ok (R1.views s1) e
    split at hx
    · rename_i e2; (try rw [e2])
      obtain ⟨s, n⟩ := NR.rs (v := .ls .fr ds) (d := .ref η1.nx) (η' := η1.new (.lst ds)) R1 ⟨_, rfl, Nat.le_refl _, Nat.lt_succ_self _, get_new_eq⟩
      exact hx _ _ (f1.trans Fr.new) s (n.le f1.1)
    · exact hx.elim
  · exact hx.elim
/-! ### built-ins -/
def S1 (f : D → Hd → Option (D × Hd)) (g : PV → Option PV) : Prop := ∀ ⦃P : Nat → Prop⦄ ⦃η : Hd⦄ ⦃x v : PV⦄ ⦃dx : D⦄, (∀ q, P q → q < η.nx) → VW P η x dx → g x = some v → ∃ d η', f dx η = some (d, η') ∧ Fr P η η' ∧ NR η η' v d
def pFn (g : PV → Option PV) (a : PE) : PE := fun ρ => (a ρ).bind fun x => match g x with
  | some v => .val v
  | none => .bad
theorem se_fn {f : D → Hd → Option (D × Hd)} {g : PV → Option PV} {a : CE} {pa : PE} (hf : S1 f g) (ha : SE a pa) : SE (cFn (f1 f) (cCons a cNil)) (pFn g pa) := by
  intro P0 b ρ σ η kv kx R h
  rw [w_fn1]
  refine ha R (Rs.imp (Rs.bind_ok h) (fun x hx dx η1 f1 s1 n1 => ?_) (fun x hx η' f => hx η' f))
  have R1 := R.mono f1
  cases e : g x with
  | none => rw [e] at hx; exact hx.elim
  | some v =>
    rw [e] at hx
    obtain ⟨d, η3, e1, f3, nr⟩ := hf R1.lts (R1.view s1) e
    have : DL.f1 f [dx] η1 = some (d, η3) := e1
    rw [this]
    obtain ⟨s3, n3⟩ := nr.rs R1
    exact hx d η3 (f1.trans f3) s3 (n3.le f1.1)
def hLen : PV → Option PV
  | .im (.tup l) => some (.im (.int (Int.ofNat l.length)))
  | .im (.str z) => match Nat.ble z.length line with
    | true => some (.im (.int (Int.ofNat z.length)))
    | false => none
  | .ls _ l => some (.im (.int (Int.ofNat l.length)))
  | .dc _ _ l => some (.im (.int (Int.ofNat l.length)))
  | .ob (.ws l) => some (.im (.int (Int.ofNat l.length)))
  | _ => none
theorem s1_len : S1 gLenA hLen := by
  intro P η x v dx lt hx h
  unfold hLen at h
  split at h
  · cases h; cases hx; exact ⟨_, η, rfl, Fr.refl _ _, rfl⟩
  · cases hx
    split at h
    · rename_i e; cases h; exact ⟨_, η, by simp only [gLenA, gLen, e], Fr.refl _ _, rfl⟩
    · cases h
  · obtain ⟨r, rfl, l1, g1, _⟩ := hx.lst
    cases h
    refine ⟨_, η, ?_, Fr.refl _ _, rfl⟩
    rcases list_cases g1 with q | q
    · simp only [gLenA, gLen, q]
    · simp only [gLenA, gLen, q]
  · obtain ⟨r, rfl, l1, g1⟩ := hx.dct
    cases h
    exact ⟨_, η, by simp only [gLenA, g1], Fr.refl _ _, rfl⟩
  · obtain ⟨r, rfl, l1, g1⟩ := hx.ows
    cases h
    exact ⟨_, η, by simp only [gLenA, g1], Fr.refl _ _, rfl⟩
  · cases h
def hTuple : PV → Option PV
  | .im (.tup l) => some (.im (.tup l))
  | .ls _ l => some (.im (.tup l))
  | _ => none
theorem s1_tuple : S1 gTuple hTuple := by
  intro P η x v dx lt hx h
  unfold hTuple at h
  split at h
  · cases h; cases hx; exact ⟨_, η, rfl, Fr.refl _ _, rfl⟩
  · obtain ⟨r, rfl, l1, g1, _⟩ := hx.lst
    cases h
    exact ⟨_, η, by simp only [gTuple, g1], Fr.refl _ _, rfl⟩
  · cases h
def hSrt : PV → Option PV
  | .im (.tup l) => match Nat.ble l.length line, srtL l with
    | true, some m => some (.ls .fr m)
    | _, _ => none
  | .ls _ l => match srtL l with
    | some m => some (.ls .fr m)
    | none => none
  | _ => none
theorem s1_srt : S1 gSrt hSrt := by
  intro P η x v dx lt hx h
  unfold hSrt at h
  split at h
  · cases hx
    split at h
    · rename_i e1 e2; cases h; exact ⟨_, _, by simp only [gSrt, e1, e2], Fr.new, ⟨_, rfl, Nat.le_refl _, Nat.lt_succ_self _, get_new_eq⟩⟩
    · cases h
  · obtain ⟨r, rfl, l1, g1, _⟩ := hx.lst
    split at h
    · rename_i e; cases h; exact ⟨_, _, by simp only [gSrt, g1, e], Fr.new, ⟨_, rfl, Nat.le_refl _, Nat.lt_succ_self _, get_new_eq⟩⟩
    · cases h
  · cases h
/-- sorted, dicts too -/
def hSrtB : PV → Option PV
  | .dc _ true kvs => match keyRows kvs with
    | some rs => match Nat.ble rs.length 60000 with
      | true => some (.ls .fr ((sortI rs).map rowD))
      | false => none
    | none => none
  | .dc _ false kvs => match keyInts kvs with
    | some ks => match Nat.blt ks.length 64 with
      | true => some (.ls .fr ((sortI (ks.map fun i => [i])).map unI))
      | false => none
    | none => none
  | v => hSrt v
theorem gSrtA_of {η : Hd} {d : D} (h : ∀ r t l, d = .ref r → η.get r ≠ some (.dct t l)) : gSrtB d η = gSrt d η := by
  cases d with
  | ref r =>
    unfold gSrtB
    simp only
    split
    · rename_i e; exact absurd e (h r _ _ rfl)
    · unfold gSrtA
      simp only
      split
      · rename_i e; exact absurd e (h r _ _ rfl)
      · rfl
  | _ => rfl
theorem s1_srtB : S1 gSrtB hSrtB := by
  intro P η x v dx lt hx h
  unfold hSrtB at h
  split at h
  · obtain ⟨r, rfl, l1, g1⟩ := hx.dct
    split at h
    · rename_i e1
      split at h
      · rename_i e2; cases h; exact ⟨_, _, by simp only [gSrtB, g1, e1, e2], Fr.new, ⟨_, rfl, Nat.le_refl _, Nat.lt_succ_self _, get_new_eq⟩⟩
      · cases h
    · cases h
  · obtain ⟨r, rfl, l1, g1⟩ := hx.dct
    split at h
    · rename_i e1
      split at h
      · rename_i e2; cases h; exact ⟨_, _, by simp only [gSrtB, gSrtA, g1, e1, e2], Fr.new, ⟨_, rfl, Nat.le_refl _, Nat.lt_succ_self _, get_new_eq⟩⟩
      · cases h
    · cases h
  · obtain ⟨d, η', e, f, n⟩ := s1_srt lt hx h
    refine ⟨d, η', ?_, f, n⟩
    rw [gSrtA_of]
    · exact e
    · intro r t l e1 e2
      subst e1
      unfold gSrt at e
      have : η.list r = none := by unfold Hd.list; rw [e2]
      simp only [this] at e
      cases e
end PL

/-! the plain layer: tests, slices, calls, walks, comprehensions -/
namespace PL
open PySem PySem.Spec L2 DL
section
variable {a b c : CE} {pa pb pc : PE} {s t : CT} {ps pt : PT}
/-! ### one value -/
def p1 (f : D → Option D) (a : PE) : PE := fun ρ => (a ρ).bind fun x => match x with
  | .im d => match f d with
    | some e => .val (.im e)
    | none => .bad
  | _ => .bad
theorem se_one {F : CE → CE} {f : D → Option D} (hF : ∀ {c : CE} {σ : SD} {η : Hd} {kv : KV} {kx : KX}, F c σ η kv kx = c σ η (fun x η1 => match f x with | some e => kv e η1 | none => false) kx) (ha : SE a pa) : SE (F a) (p1 f pa) := by
  intro P0 b ρ σ η kv kx R h
  rw [hF]
  refine ha R (Rs.imp (Rs.bind_ok h) (fun x hx dx η1 f1 s1 n1 => ?_) (fun x hx η' f => hx η' f))
  split at hx
  · cases s1
    split at hx
    · rename_i e; try simp only [e]
      exact hx _ η1 f1 rfl (fun z => nomatch z)
    · exact hx.elim
  · exact hx.elim
def nNot : D → Option D
  | .bl i => some (.bl (!i))
  | _ => none
theorem se_not (ha : SE a pa) : SE (cNot a) (p1 nNot pa) := se_one (F := cNot) (fun {c σ η kv kx} => by
  unfold cNot; congr 1; funext x η1; cases x <;> rfl) ha
/-! ### tests -/
def pTst (a : PE) : PT := fun ρ => (a ρ).bind fun x => match x with
  | .im (.bl t) => .val t
  | _ => .bad
theorem st_tst (ha : SE a pa) : ST (cTst a) (pTst pa) := by
  intro P0 b ρ σ η kv kx R h
  unfold cTst
  refine ha R (Rs.imp (Rs.bind_ok h) (fun x hx dx η1 f1 s1 n1 => ?_) (fun x hx η' f => hx η' f))
  split at hx
  · cases s1; exact hx η1 f1
  · exact hx.elim
def pOrT (s t : PT) : PT := fun ρ => (s ρ).bind fun x => match x with
  | true => .val true
  | false => t ρ
def pNotT (s : PT) : PT := fun ρ => (s ρ).bind fun x => .val (!x)
theorem st_or (hs : ST s ps) (ht : ST t pt) : ST (ctOr s t) (pOrT ps pt) := by
  intro P0 b ρ σ η kv kx R h
  unfold ctOr
  refine hs R (Rs.imp (Rs.bind_ok h) (fun x hx η1 f1 => ?_) (fun x hx η' f => hx η' f))
  cases x with
  | true => exact hx η1 f1
  | false => exact ht (R.mono f1) (Rs.imp hx (fun y hy η2 f2 => hy η2 (f1.trans f2)) (fun x hx η' f => hx η' (f1.trans f)))
theorem st_not (hs : ST s ps) : ST (ctNot s) (pNotT ps) := by
  intro P0 b ρ σ η kv kx R h
  unfold ctNot
  exact hs R (Rs.imp (Rs.bind_ok h) (fun x hx η1 f1 => hx η1 f1) (fun x hx η' f => hx η' f))
def pYes : PT := fun _ => .val true
theorem st_yes : ST ctYes pYes := by
  intro P0 b ρ σ η kv kx R h
  exact h η (Fr.refl _ _)
theorem SE.after (hb : SE b pb) {P0 : Nat → Prop} {B : Nat} {ρ : PEn} {σ : SD} {η η1 : Hd} {kv : KV} {kx : KX} (R : Rep P0 B ρ σ η) (f1 : Fr (Pr P0 ρ σ) η η1)
    (h : (pb ρ).ok (fun v => ∀ d η', Fr (Pr P0 ρ σ) η η' → RS P0 ρ σ η' v d → Nw η v d → kv d η' = true) (fun x => ∀ η', Fr (Pr P0 ρ σ) η η' → kx x η' = true)) : b σ η1 kv kx = true :=
  hb (R.mono f1) (Rs.imp h (fun y hy d η2 f2 s n => hy d η2 (f1.trans f2) s (n.le f1.1)) (fun x hx η' f => hx η' (f1.trans f)))
/-! ### ranges as rows -/
def pTupR (a b : PE) : PE := fun ρ => (a ρ).bind fun x => (b ρ).bind fun y => match x, y with
  | .im (.int i), .im (.int j) => match rOk i, rOk j, Nat.ble (j - i).toNat line with
    | true, true, true => .val (.im (.tup (rangeD (j - i).toNat i)))
    | _, _, _ => .bad
  | _, _ => .bad
def pLstR (a b : PE) : PE := fun ρ => (a ρ).bind fun x => (b ρ).bind fun y => match x, y with
  | .im (.int i), .im (.int j) => match rOk i, rOk j, Nat.ble (j - i).toNat line with
    | true, true, true => .val (.ls .fr (rangeD (j - i).toNat i))
    | _, _, _ => .bad
  | _, _ => .bad
theorem se_tupR2 (ha : SE a pa) (hb : SE b pb) : SE (cTupR (crg2 a b)) (pTupR pa pb) := by
  intro P0 B ρ σ η kv kx R h
  unfold cTupR crg2
  refine ha R (Rs.imp (Rs.bind_ok h) (fun x hx dx η1 f1 s1 n1 => ?_) (fun x hx η' f => hx η' f))
  refine hb (R.mono f1) (Rs.imp (Rs.bind_ok hx) (fun y hy dy η2 f2 s2 n2 => ?_) (fun x hx η' f => hx η' (f1.trans f)))
  split at hy
  · cases s1; cases s2
    split at hy
    · rename_i e1 e2 e3; simp only [e1, e2, e3]; exact hy _ η2 (f1.trans f2) rfl (fun z => nomatch z)
    · exact hy.elim
  · exact hy.elim
theorem se_lstR2 (ha : SE a pa) (hb : SE b pb) : SE (cLstR (crg2 a b)) (pLstR pa pb) := by
  intro P0 B ρ σ η kv kx R h
  unfold cLstR crg2
  refine ha R (Rs.imp (Rs.bind_ok h) (fun x hx dx η1 f1 s1 n1 => ?_) (fun x hx η' f => hx η' f))
  refine hb (R.mono f1) (Rs.imp (Rs.bind_ok hx) (fun y hy dy η2 f2 s2 n2 => ?_) (fun x hx η' f => hx η' (f1.trans f)))
  have R2 := R.mono (f1.trans f2)
  split at hy
  · cases s1; cases s2
    split at hy
    · rename_i e1 e2 e3; simp only [e1, e2, e3]
      obtain ⟨s, n⟩ := NR.rs (v := .ls .fr _) (η' := η2.new (.lst _)) R2 ⟨_, rfl, Nat.le_refl _, Nat.lt_succ_self _, get_new_eq⟩
      exact hy _ _ ((f1.trans f2).trans Fr.new) s (n.le (f1.trans f2).1)
    · exact hy.elim
  · exact hy.elim
theorem crg1_2 {k : Int → Int → Hd → Bool} {kx : KX} {σ : SD} {η : Hd} : crg1 a σ η k kx = crg2 (cC (.int 0)) a σ η k kx := by
  unfold crg1 crg2 cC
  congr 1; funext x η1; cases x <;> rfl
theorem se_tupR1 (ha : SE a pa) : SE (cTupR (crg1 a)) (pTupR (pC (.int 0)) pa) := by
  intro P0 B ρ σ η kv kx R h
  unfold cTupR; rw [crg1_2]
  exact se_tupR2 se_c ha R h
theorem se_lstR1 (ha : SE a pa) : SE (cLstR (crg1 a)) (pLstR (pC (.int 0)) pa) := by
  intro P0 B ρ σ η kv kx R h
  unfold cLstR; rw [crg1_2]
  exact se_lstR2 se_c ha R h
end
/-! ### slices -/
/-! ### methods that change nothing -/
/-! ### defs called -/
/-- an argument handed on -/
def argM : PV → Option PV
  | .im d => some (.im d)
  | .ls .fr l => some (.ls .lo l)
  | .ls .lo l => some (.ls .lo l)
  | .ls .ke l => some (.ls .ke l)
  | .ls .ow l => some (.ls .ke l)
  | .ls .rd l => some (.ls .rd l)
  | .dc .ke t l => some (.dc .ke t l)
  | .dc .ow t l => some (.dc .ke t l)
  | .dc _ t l => none
  | .cl c => some (.cl c)
  | .ob X => some (.ob X)
def argMs : List PV → Option (List PV)
  | [] => some []
  | v :: vs => match argM v, argMs vs with
    | some w, some ws => some (w :: ws)
    | _, _ => none
/-- arguments as a def finds them -/
def AW (P : Nat → Prop) (η : Hd) : PV → D → Prop
  | .im e, d => d = e
  | .ls .lo l, d => ∃ r, d = .ref r ∧ r < η.nx ∧ η.list r = some l ∧ ¬ P r
  | .ls .ke l, d => ∃ r, d = .ref r ∧ r < η.nx ∧ η.get r = some (.lst l) ∧ P r
  | .ls .rd l, d => ∃ r, d = .ref r ∧ r < η.nx ∧ η.list r = some l
  | .dc .ke t l, d => ∃ r, d = .ref r ∧ r < η.nx ∧ η.get r = some (.dct t l) ∧ P r
  | .cl c, d => FC η c d
  | .ob X, d => OC P η X d
  | _, _ => False
inductive AWs (P : Nat → Prop) (η : Hd) : List PV → List D → Prop
  | nil : AWs P η [] []
  | cons {v : PV} {d : D} {vs : List PV} {ds : List D} (h : AW P η v d) (r : AWs P η vs ds) : AWs P η (v :: vs) (d :: ds)
/-- a def's result: without a cell, new, or loose -/
def NL (P : Nat → Prop) (η η' : Hd) : PV → D → Prop
  | .im e, d => d = e
  | .ls .fr l, d => ∃ r, d = .ref r ∧ η.nx ≤ r ∧ r < η'.nx ∧ η'.get r = some (.lst l)
  | .ls .lo l, d => ∃ r, d = .ref r ∧ r < η'.nx ∧ η'.list r = some l ∧ ¬ P r
  | .dc .fr t l, d => ∃ r, d = .ref r ∧ η.nx ≤ r ∧ r < η'.nx ∧ η'.get r = some (.dct t l)
  | .cl c, d => FC η' c d
  | .ob X, d => OC P η' X d
  | _, _ => False
abbrev PFn := List PV → Rs PV
def SF (F : CF) (f : PFn) : Prop := ∀ ⦃P : Nat → Prop⦄ ⦃η : Hd⦄ ⦃vs : List PV⦄ ⦃ds : List D⦄ ⦃kv : KV⦄ ⦃kx : KX⦄, (∀ q, P q → q < η.nx) → AWs P η vs ds →
  (f vs).ok (fun v => ∀ d η', Fr P η η' → NL P η η' v d → kv d η' = true) (fun x => ∀ η', Fr P η η' → kx x η' = true) → F ds η kv kx = true
theorem VW.arg {P : Nat → Prop} {η : Hd} {v w : PV} {d : D} (h : VW P η v d) (e : argM v = some w) : AW P η w d := by
  cases v with
  | im _ => cases e; exact h
  | ls m l =>
    obtain ⟨r, z1, z2, z3, z4, z5, z6⟩ := h
    cases m with
    | fr => cases e; exact ⟨r, z1, z2, z3, z6 (.inr rfl)⟩
    | lo => cases e; exact ⟨r, z1, z2, z3, z6 (.inl rfl)⟩
    | ke => cases e; exact ⟨r, z1, z2, z4 (.inl rfl), z5 rfl⟩
    | ow => cases e; exact ⟨r, z1, z2, z4 (.inl rfl), z5 rfl⟩
    | rd => cases e; exact ⟨r, z1, z2, z3⟩
  | dc m t l =>
    obtain ⟨r, z1, z2, z3, z5, z6⟩ := h
    cases m with
    | ke => cases e; exact ⟨r, z1, z2, z3, z5 rfl⟩
    | ow => cases e; exact ⟨r, z1, z2, z3, z5 rfl⟩
    | _ => cases e
  | cl c => cases e; exact h
  | ob c => cases e; exact h
theorem VWs.args {P : Nat → Prop} {η : Hd} : ∀ {vs ws : List PV} {ds : List D}, VWs P η vs ds → argMs vs = some ws → AWs P η ws ds
  | _, _, _, .nil, e => by cases e; exact .nil
  | _, _, _, .cons h r, e => by
    simp only [argMs] at e
    split at e
    · rename_i e1 e2; cases e; exact .cons (h.arg e1) (VWs.args r e2)
    · cases e
def pCall (f : PFn) (a : PA) : PE := fun ρ => (a ρ).bind fun vs => match argMs vs with
  | some ws => f ws
  | none => .bad
theorem NL.rs {P0 : Nat → Prop} {b : Nat} {ρ : PEn} {σ : SD} {η η' : Hd} {v : PV} {d : D} (R : Rep P0 b ρ σ η) (f : Fr (Pr P0 ρ σ) η η') (h : NL (Pr P0 ρ σ) η η' v d) : RS P0 ρ σ η' v d ∧ Nw η v d := by
  cases v with
  | im _ => exact ⟨h, fun z => nomatch z⟩
  | ls m l => cases m with
    | fr => exact NR.rs (v := .ls .fr l) R h
    | lo => exact ⟨h, fun z => nomatch z⟩
    | _ => exact h.elim
  | dc m t l => cases m with
    | fr => exact NR.rs (v := .dc .fr t l) R h
    | _ => exact h.elim
  | cl c => exact ⟨h, fun z => nomatch z⟩
  | ob c => exact ⟨h, fun z => nomatch z⟩
theorem se_call {F : CF} {f : PFn} {a : CA} {pa : PA} (hF : SF F f) (ha : SA a pa) : SE (cCall F a) (pCall f pa) := by
  intro P0 b ρ σ η kv kx R h
  unfold cCall
  refine ha R (Rs.imp (Rs.bind_ok h) (fun vs hx ds η1 f1 s1 => ?_) (fun x hx η' f => hx η' f))
  have R1 := R.mono f1
  split at hx
  · rename_i ws e
    refine hF R1.lts ((R1.views s1).args e) (Rs.imp hx (fun v hv d η2 f2 nl => ?_) (fun x hx η' f => hx η' (f1.trans f)))
    obtain ⟨s, n⟩ := nl.rs R1 f2
    exact hv d η2 (f1.trans f2) s (n.le f1.1)
  · exact hx.elim
end PL

/-! the plain layer: what is walked, comprehensions -/
namespace PL
open PySem PySem.Spec L2 DL
def kM : Option PV → Option PV
  | some (.ls .ke l) => some (.ls .rd l)
  | v => v
/-- the slots while a slot's list is walked -/
def wk (o : Option Nat) (ρ : PEn) : PEn := match o with
  | none => ρ
  | some i => match ρ[i]? with
    | some (some (.ls _ l)) => (ρ.map kM).set i (some (.ls .rd l))
    | _ => ρ.map kM
abbrev PI' := PEn → Rs (List D × Option Nat)
structure ItO (P0 : Nat → Prop) (ρ : PEn) (σ : SD) (η : Hd) (it : Its) (o : Option Nat) : Prop where
  sl : ∀ i, o = some i → ∃ (m : Md) (l : List D), ρ[i]? = some (some (.ls m l))
  at_ : (it.fz = none ∧ ∀ i, o = some i → ∃ l : List D, ρ[i]? = some (some (.ls .rd l))) ∨
    ∃ r l, it.fz = some (r, l) ∧ r < η.nx ∧ η.get r = some (.lst l) ∧ (match o with
      | none => ¬ Pr P0 ρ σ r
      | some i => σ[i]? = some (some (.ref r)))
def SI (c : CI) (p : PI') : Prop := ∀ ⦃P0 : Nat → Prop⦄ ⦃b : Nat⦄ ⦃ρ : PEn⦄ ⦃σ : SD⦄ ⦃η : Hd⦄ ⦃kv : Its → Hd → Bool⦄ ⦃kx : KX⦄, Rep P0 b ρ σ η →
  (p ρ).ok (fun v => ∀ it η', it.l = v.1 → Fr (Pr P0 ρ σ) η η' → ItO P0 ρ σ η' it v.2 → kv it η' = true) (fun x => ∀ η', Fr (Pr P0 ρ σ) η η' → kx x η' = true) → c σ η kv kx = true
section
variable {P0 : Nat → Prop} {b : Nat} {ρ : PEn} {σ : SD} {η η1 η2 : Hd} {it : Its} {o : Option Nat}
theorem wk_len : (wk o ρ).length = ρ.length := by
  unfold wk
  split
  · rfl
  · split
    · rw [List.length_set, List.length_map]
    · rw [List.length_map]
theorem kM_own {v : PV} (hv : v.own = true) {u : Option PV} (h : kM u = some v) : u = some v := by
  unfold kM at h
  split at h
  · cases h; cases hv
  · exact h
theorem wk_own {j : Nat} {v : PV} (hv : v.own = true) (h : (wk o ρ)[j]? = some (some v)) : ρ[j]? = some (some v) := by
  unfold wk at h
  split at h
  · exact h
  · rename_i i
    split at h
    · rename_i m l e
      by_cases z : i = j
      · subst z
        have hi : i < ρ.length := (List.getElem?_eq_some_iff.mp e).1
        rw [List.getElem?_set_self (by rw [List.length_map]; exact hi)] at h
        cases h; cases hv
      · rw [List.getElem?_set_ne z, List.getElem?_map] at h
        cases e2 : ρ[j]? with
        | none => rw [e2] at h; cases h
        | some u => rw [e2] at h; rw [kM_own hv (Option.some.inj h)]
    · rw [List.getElem?_map] at h
      cases e2 : ρ[j]? with
      | none => rw [e2] at h; cases h
      | some u => rw [e2] at h; rw [kM_own hv (Option.some.inj h)]
theorem own_wk {j : Nat} {v : PV} (hv : v.own = true) (h : ρ[j]? = some (some v)) : (wk o ρ)[j]? = some (some v) ∨ o = some j := by
  unfold wk
  split
  · exact .inl h
  · rename_i i
    have e : kM (some v) = some v := by
      unfold kM; split
      · rename_i z; cases z; cases hv
      · rfl
    by_cases z : i = j
    · exact .inr (by rw [z])
    · refine .inl ?_
      split
      · rw [List.getElem?_set_ne z, List.getElem?_map, h]
        show some (kM (some v)) = _
        rw [e]
      · rw [List.getElem?_map, h]
        show some (kM (some v)) = _
        rw [e]
/-- what a slot holds meanwhile -/
theorem wk_get {j : Nat} {v : PV} (h : (wk o ρ)[j]? = some (some v)) : ρ[j]? = some (some v) ∧ (∀ l, v = .ls .ke l → o = none) ∨ ∃ m l, v = .ls .rd l ∧ ρ[j]? = some (some (.ls m l)) := by
  unfold wk at h
  split at h
  · exact .inl ⟨h, fun _ _ => rfl⟩
  · rename_i i
    have gen : ∀ {u : Option PV}, ρ[j]? = some u → kM u = some v → ρ[j]? = some (some v) ∧ (∀ l, v = .ls .ke l → (some i : Option Nat) = none) ∨ ∃ m l, v = .ls .rd l ∧ ρ[j]? = some (some (.ls m l)) := fun {u} e hk => by
      unfold kM at hk
      split at hk
      · cases hk; exact .inr ⟨_, _, rfl, e⟩
      · rename_i hne
        subst hk
        exact .inl ⟨e, fun l z => by subst z; exact absurd rfl (hne l)⟩
    split at h
    · rename_i m l e
      by_cases z : i = j
      · subst z
        have hi : i < ρ.length := (List.getElem?_eq_some_iff.mp e).1
        rw [List.getElem?_set_self (by rw [List.length_map]; exact hi)] at h
        cases h
        exact .inr ⟨m, l, rfl, e⟩
      · rw [List.getElem?_set_ne z, List.getElem?_map] at h
        cases e2 : ρ[j]? with
        | none => rw [e2] at h; cases h
        | some u => rw [e2] at h; rw [← e2]; exact gen e2 (Option.some.inj h)
    · rw [List.getElem?_map] at h
      cases e2 : ρ[j]? with
      | none => rw [e2] at h; cases h
      | some u => rw [e2] at h; rw [← e2]; exact gen e2 (Option.some.inj h)
theorem wk_pr {q : Nat} (h : Pr P0 (wk o ρ) σ q) : Pr P0 ρ σ q := by
  rcases h with h | ⟨j, v, h1, h2, h3⟩
  · exact .inl h
  · exact .inr ⟨j, v, wk_own h2 h1, h2, h3⟩
theorem frz_list {r q : Nat} {l l' : List D} (h : η.get r = some (.lst l)) (e : η.list q = some l') : (frzAt r l η).list q = some l' := by
  by_cases z : q = r
  · subst z
    rw [list_lst h] at e; cases e
    exact list_frz (get_set_eq h)
  · have : (frzAt r l η).get q = η.get q := get_set_ne z
    unfold Hd.list
    rw [this]
    exact e
theorem frz_oth {r q : Nat} {l : List D} {c : Cell} (h : η.get r = some (.lst l)) (e : η.get q = some c) (hc : ∀ l, c ≠ .lst l) : (frzAt r l η).get q = some c := by
  have z : q ≠ r := fun z => by subst z; rw [h] at e; exact hc l (Option.some.inj e).symm
  rw [← e]; exact get_set_ne z
/-- frozen -/
theorem Rep.frz (R : Rep P0 b ρ σ η) (i : ItO P0 ρ σ η it o) : Rep P0 b (wk o ρ) σ (it.fr η) := by
  -- the cells that own slots hold stay
  have gen : ∀ η', η'.nx = η.nx → (∀ q l, η.list q = some l → η'.list q = some l) → (∀ q c, η.get q = some c → (∀ l, c ≠ .lst l) → η'.get q = some c) →
      (∀ (j : Nat) (v : PV) (r : Nat) (l : List D), (wk o ρ)[j]? = some (some v) → (v.own = true ∨ v = .ls .ke l) → σ[j]? = some (some (.ref r)) → η.get r = some (.lst l) → η'.get r = some (.lst l)) → Rep P0 b (wk o ρ) σ η' := fun η' hn hl hc hw => by
    refine ⟨fun q h => by rw [hn]; exact R.old q h, by rw [hn]; exact R.bn, by rw [wk_len]; exact R.len, fun j v h => ?_, fun j v h hv => R.ow j v (wk_own hv h) hv, fun j l h => ?_, fun j t l h => ?_, fun j k v w d hjk h1 h2 h3 h5 h4 => ?_⟩
    · rcases wk_get h with ⟨h0, hk⟩ | ⟨m, l, rfl, h0⟩
      · obtain ⟨d, e, r⟩ := R.at_ j v h0
        refine ⟨d, e, ?_⟩
        cases v with
        | im _ => exact r
        | ls m l =>
          obtain ⟨r, z1, z2, z3, z4, z5⟩ := r
          refine ⟨r, z1, by rw [hn]; exact z2, hl _ _ z3, fun hm => ⟨?_, ?_⟩, fun hm p => z5 hm (wk_pr p)⟩
          · cases m with
            | ow => exact .inr ⟨j, _, h, rfl, by rw [e, z1]⟩
            | ke => obtain ⟨r', y1, y2⟩ := R.ke j l h0; rw [e, z1] at y1; cases y1; exact .inl y2
            | _ => cases hm
          · refine hw j _ r l h ?_ (by rw [e, z1]) (z4 hm).2
            cases m with
            | ow => exact .inl rfl
            | ke => exact .inr rfl
            | _ => cases hm
        | dc m t l =>
          obtain ⟨r, z1, z2, z3, z4, z5⟩ := r
          refine ⟨r, z1, by rw [hn]; exact z2, hc _ _ z3 (fun _ z => nomatch z), fun hm => ?_, fun hm p => z5 hm (wk_pr p)⟩
          cases m with
          | ow => exact .inr ⟨j, _, h, rfl, by rw [e, z1]⟩
          | ke => obtain ⟨r', y1, y2⟩ := R.kd j t l h0; rw [e, z1] at y1; cases y1; exact .inl y2
          | _ => cases hm
        | cl c =>
          obtain ⟨r, z1, z2, z3, z4⟩ := r
          exact ⟨r, z1, by rw [hn]; exact z2, hc _ _ z3 (fixC_lst z4).1, z4⟩
        | ob X => exact OC.anti (fun q _ p => wk_pr p) (r.sm (by rw [hn]; exact Nat.le_refl _) fun q _ _ => ⟨fun c e h1 _ => hc q c e h1, hl q⟩)
      · obtain ⟨d, e, r⟩ := R.at_ j _ h0
        obtain ⟨r, z1, z2, z3, z4, z5⟩ := r
        exact ⟨d, e, r, z1, by rw [hn]; exact z2, hl _ _ z3, fun hm => (nomatch hm), fun hm => by rcases hm with hm | hm <;> cases hm⟩
    · rcases wk_get h with ⟨h0, _⟩ | ⟨m, l', z, h0⟩
      · exact R.ke j l h0
      · cases z
    · rcases wk_get h with ⟨h0, _⟩ | ⟨m, l', z, h0⟩
      · exact R.kd j t l h0
      · cases z
    · have g1 := wk_own h2 h1
      rcases wk_get h3 with ⟨h0, _⟩ | ⟨m, l', z, h0⟩
      · exact R.dj j k v w d hjk g1 h2 h0 h5 h4
      · exact R.dj j k v _ d hjk g1 h2 h0 rfl h4
  rcases i.at_ with ⟨e, _⟩ | ⟨r, l, e, lt, g, ho⟩
  · have : it.fr η = η := by unfold Its.fr; rw [e]
    rw [this]
    exact gen η rfl (fun _ _ h => h) (fun _ _ h _ => h) (fun _ _ _ _ _ _ _ h => h)
  · have : it.fr η = frzAt r l η := by unfold Its.fr; rw [e]
    rw [this]
    refine gen (frzAt r l η) rfl (fun _ _ h => frz_list g h) (fun _ _ h hc => frz_oth g h hc) fun j v q l' h hv hs hq => ?_
    have z : q ≠ r := fun z => by
      subst z
      rcases hv with hv | hv
      · have hj := wk_own hv h
        cases o with
        | none => exact ho (.inr ⟨j, v, hj, hv, hs⟩)
        | some i0 =>
          obtain ⟨m, l2, e2⟩ := i.sl i0 rfl
          by_cases y : j = i0
          · subst y
            unfold wk at h
            simp only [e2] at h
            have hi : j < ρ.length := (List.getElem?_eq_some_iff.mp e2).1
            rw [List.getElem?_set_self (by rw [List.length_map]; exact hi)] at h
            cases h; cases hv
          · exact R.dj j i0 v _ _ y hj hv e2 rfl hs ho
      · subst hv
        rcases wk_get h with ⟨h0, hk⟩ | ⟨m, l2, y, _⟩
        · have := hk _ rfl
          subst this
          obtain ⟨r', y1, y2⟩ := R.ke j l' h0
          rw [hs] at y1; cases y1
          exact ho (.inl y2)
        · cases y
    show (η.set r (.frz l)).get q = _
    rw [get_set_ne z]; exact hq
theorem fr_nx (it : Its) (η : Hd) : (it.fr η).nx = η.nx := by
  unfold Its.fr; cases it.fz with
  | none => rfl
  | some p => rfl
/-- thawed -/
theorem Fr.thaw (R : Rep P0 b ρ σ η) (i : ItO P0 ρ σ η it o) (f : Fr (Pr P0 (wk o ρ) σ) (it.fr η) η2) : Fr (Pr P0 ρ σ) η (it.un η2) := by
  have n2 : η.nx ≤ η2.nx := by have := f.1; rw [fr_nx] at this; exact this
  rcases i.at_ with ⟨e, ho⟩ | ⟨r, l, e, lt, g, ho⟩
  · have e1 : it.fr η = η := by unfold Its.fr; rw [e]
    have e2 : it.un η2 = η2 := by unfold Its.un; rw [e]
    rw [e2]
    rw [e1] at f
    refine f.weak fun q hq p => ?_
    rcases p with p | ⟨j, v, h1, h2, h3⟩
    · exact .inl p
    · rcases own_wk (o := o) h2 h1 with h | h
      · exact .inr ⟨j, v, h, h2, h3⟩
      · obtain ⟨l', e'⟩ := ho j h
        rw [h1] at e'; cases e'; cases h2
  · have e1 : it.fr η = frzAt r l η := by unfold Its.fr; rw [e]
    have e2 : it.un η2 = unfAt r l η2 := by unfold Its.un; rw [e]
    rw [e1] at f
    rw [e2]
    have gr : η2.get r = some (.frz l) := f.get (show r < (frzAt r l η).nx from lt) (get_set_eq g) fun _ z => nomatch z
    refine ⟨n2, fun q hq => ?_⟩
    by_cases z : q = r
    · subst z
      exact .inl ((get_set_eq gr).trans g.symm)
    · have q1 : (unfAt r l η2).get q = η2.get q := get_set_ne z
      have q2 : (frzAt r l η).get q = η.get q := get_set_ne z
      rw [q1]
      rcases f.2 q hq with h | ⟨hp, l', h1, h2⟩
      · exact .inl (h.trans q2)
      · refine .inr ⟨fun p => hp ?_, l', q2.symm.trans h1, h2⟩
        rcases p with p | ⟨j, v, h1, h2, h3⟩
        · exact .inl p
        · rcases own_wk (o := o) h2 h1 with h | h
          · exact .inr ⟨j, v, h, h2, h3⟩
          · subst h
            have ho' : σ[j]? = some (some (.ref r)) := ho
            rw [h3] at ho'
            cases ho'
            exact absurd rfl z
end
/-! ### sources -/
def pSeqV (i : Nat) : PI' := fun ρ => match ρ[i]? with
  | some (some (.im (.tup l))) => .val (l, none)
  | some (some (.ls m l)) => match m with
    | .fr => .bad
    | .lo => .val (l, none)
    | _ => .val (l, some i)
  | _ => .bad
theorem itO_none {P0 : Nat → Prop} {ρ : PEn} {σ : SD} {η : Hd} {l : List D} : ItO P0 ρ σ η ⟨l, none⟩ none := ⟨fun _ z => (nomatch z), .inl ⟨rfl, fun _ z => (nomatch z)⟩⟩
theorem itO_list {P0 : Nat → Prop} {ρ : PEn} {σ : SD} {η : Hd} {l : List D} {r : Nat} (lt : r < η.nx) (g : η.list r = some l) (hp : ¬ Pr P0 ρ σ r) : ∃ it, itsOf η (.ref r) = some it ∧ it.l = l ∧ ItO P0 ρ σ η it none := by
  rcases list_cases g with q | q
  · exact ⟨⟨l, some (r, l)⟩, by simp only [itsOf, q], rfl, fun _ z => (nomatch z), .inr ⟨r, l, rfl, lt, q, hp⟩⟩
  · exact ⟨⟨l, none⟩, by simp only [itsOf, q], rfl, itO_none⟩
theorem si_var {i : Nat} : SI (ciSeq (cVar i)) (pSeqV i) := by
  intro P0 b ρ σ η kv kx R h
  unfold pSeqV at h
  have go : ∀ {v : PV} {l : List D} {o : Option Nat}, ρ[i]? = some (some v) → (∃ m, v = .ls m l) → v.fre = false → (∀ d r, σ[i]? = some (some d) → d = .ref r → η.list r = some l → r < η.nx → ∃ it, itsOf η (.ref r) = some it ∧ it.l = l ∧ ItO P0 ρ σ η it o) →
      (∀ it η', it.l = l → Fr (Pr P0 ρ σ) η η' → ItO P0 ρ σ η' it o → kv it η' = true) → ciSeq (cVar i) σ η kv kx = true := fun {v l o} e hv hf hi hk => by
    obtain ⟨m, rfl⟩ := hv
    obtain ⟨d, e1, r, z1, z2, z3, _⟩ := R.at_ i _ e
    obtain ⟨it, y1, y2, y3⟩ := hi d r e1 z1 z3 z2
    unfold ciSeq cVar
    rw [e1, z1]
    simp only [y1]
    exact hk it η y2 (Fr.refl _ _) y3
  split at h
  · rename_i l e
    obtain ⟨d, e1, e2⟩ := R.at_ i _ e
    cases e2
    unfold ciSeq cVar
    rw [e1]
    exact h ⟨l, none⟩ η rfl (Fr.refl _ _) itO_none
  · rename_i m l e
    have own : ∀ it, (it.fz = none ∧ (m = .rd)) ∨ (∃ r, it.fz = some (r, l) ∧ r < η.nx ∧ η.get r = some (.lst l) ∧ σ[i]? = some (some (.ref r))) → ItO P0 ρ σ η it (some i) := fun it hh =>
      ⟨fun j z => by cases z; exact ⟨m, l, e⟩, by
        rcases hh with ⟨h1, h2⟩ | ⟨r, h1, h2, h3, h4⟩
        · subst h2; exact .inl ⟨h1, fun j z => by cases z; exact ⟨l, e⟩⟩
        · exact .inr ⟨r, l, h1, h2, h3, h4⟩⟩
    have tight : m.pro = true → (∀ it η', it.l = l → Fr (Pr P0 ρ σ) η η' → ItO P0 ρ σ η' it (some i) → kv it η' = true) → ciSeq (cVar i) σ η kv kx = true := fun hm hk => by
      obtain ⟨d, e1, r, z1, z2, z3, z4, _⟩ := R.at_ i _ e
      have g := (z4 hm).2
      unfold ciSeq cVar
      rw [e1, z1]
      simp only [itsOf, g]
      exact hk _ η rfl (Fr.refl _ _) (own _ (.inr ⟨r, rfl, z2, g, by rw [e1, z1]⟩))
    cases m with
    | fr => exact h.elim
    | lo =>
      refine go e ⟨_, rfl⟩ rfl (fun d r e1 z1 z3 z2 => itO_list z2 z3 fun p => ?_) h
      obtain ⟨d', e1', r', y1, _, _, _, y5⟩ := R.at_ i _ e
      rw [e1] at e1'; cases e1'
      rw [z1] at y1; cases y1
      exact y5 (.inl rfl) p
    | ke => exact tight rfl h
    | ow => exact tight rfl h
    | rd =>
      refine go e ⟨_, rfl⟩ rfl (fun d r e1 z1 z3 z2 => ?_) h
      subst z1
      rcases list_cases z3 with q | q
      · exact ⟨⟨l, some (r, l)⟩, by simp only [itsOf, q], rfl, own _ (.inr ⟨r, rfl, z2, q, e1⟩)⟩
      · exact ⟨⟨l, none⟩, by simp only [itsOf, q], rfl, own _ (.inl ⟨rfl, rfl⟩)⟩
  · exact h.elim
/-- read alone from now on -/
def frzL : PV → Option (List D)
  | .im (.tup l) => some l
  | .ls .fr l => some l
  | .ls .lo l => some l
  | _ => none
theorem frzL_ok {P0 : Nat → Prop} {b : Nat} {ρ : PEn} {σ : SD} {η : Hd} {v : PV} {d : D} {l : List D} (R : Rep P0 b ρ σ η) (s : RS P0 ρ σ η v d) (h : frzL v = some l) : ∃ η', frzD η d = some (l, η') ∧ Fr (Pr P0 ρ σ) η η' ∧ ∀ {w : PV} {e : D}, w.fre = false → RS P0 ρ σ η w e → RS P0 ρ σ η' w e := by
  have go : ∀ r, d = .ref r → r < η.nx → η.list r = some l → ¬ Pr P0 ρ σ r → ∃ η', frzD η d = some (l, η') ∧ Fr (Pr P0 ρ σ) η η' ∧ ∀ {w : PV} {e : D}, w.fre = false → RS P0 ρ σ η w e → RS P0 ρ σ η' w e := fun r e lt g hp => by
    subst e
    rcases list_cases g with q | q
    · refine ⟨frzAt r l η, by simp only [frzD, q], ⟨Nat.le_refl _, fun p hq => ?_⟩, fun {w e} hw s => ?_⟩
      · by_cases z : p = r
        · subst z; exact .inr ⟨hp, l, q, get_set_eq q⟩
        · exact .inl (get_set_ne z)
      · cases w with
        | im _ => exact s
        | ls m l' => cases m with
          | fr => cases hw
          | lo => obtain ⟨r', z1, z2, z3, z4⟩ := s; exact ⟨r', z1, z2, frz_list q z3, z4⟩
          | ke => exact s
          | ow => exact s
          | rd => exact s
        | dc m t l' => cases m with
          | fr => cases hw
          | lo => exact s
          | ke => exact s
          | ow => exact s
          | rd => exact s
        | cl c =>
          obtain ⟨r', z1, z2, z3, z4⟩ := s
          exact ⟨r', z1, z2, frz_oth q z3 (fixC_lst z4).1, z4⟩
        | ob X => exact OC.sm (η := η) (η' := frzAt r l η) (X := X) (Nat.le_refl _) (fun p _ _ => ⟨fun c e h1 _ => frz_oth q e h1, fun l' e => frz_list q e⟩) s
    · exact ⟨η, by simp only [frzD, q], Fr.refl _ _, fun _ s => s⟩
  unfold frzL at h
  split at h
  · cases h; cases s; exact ⟨η, rfl, Fr.refl _ _, fun _ s => s⟩
  · cases h; obtain ⟨r, z1, z2, z3, z4⟩ := s; exact go r z1 z2 (list_lst z3) z4
  · cases h; obtain ⟨r, z1, z2, z3, z4⟩ := s; exact go r z1 z2 z3 z4
  · cases h
def pEnum (a : PE) : PI' := fun ρ => (a ρ).bind fun x => match frzL x with
  | some l => .val (enumD 0 l, none)
  | none => .bad
theorem si_enum {a : CE} {pa : PE} (ha : SE a pa) : SI (ciEnum (cCons a cNil)) (pEnum pa) := by
  intro P0 b ρ σ η kv kx R h
  show a σ η _ kx = true
  refine ha R (Rs.imp (Rs.bind_ok h) (fun x hx dx η1 f1 s1 n1 => ?_) (fun x hx η' f => hx η' f))
  have R1 := R.mono f1
  split at hx
  · rename_i l e
    obtain ⟨η2, e1, f2, _⟩ := frzL_ok R1 s1 e
    simp only [cNil, e1]
    exact hx ⟨_, none⟩ η2 rfl (f1.trans f2) itO_none
  · exact hx.elim
end PL

/-! the plain layer: targets, comprehensions, sums, any, all -/
namespace PL
open PySem PySem.Spec L2 DL
/-! ### targets -/
abbrev PG' := D → PEn → Rs PEn
def SG (c : CG) (p : PG') : Prop := ∀ ⦃P0 : Nat → Prop⦄ ⦃b : Nat⦄ ⦃d : D⦄ ⦃ρ : PEn⦄ ⦃σ : SD⦄ ⦃η : Hd⦄ ⦃k : SD → Hd → Bool⦄ ⦃kx : KX⦄, Rep P0 b ρ σ η →
  (p d ρ).ok (fun ρ1 => ∀ σ1, Rep P0 b ρ1 σ1 η → (∀ q, Pr P0 ρ σ q → Pr P0 ρ1 σ1 q) → k σ1 η = true) (fun _ => False) → c d σ η k kx = true
def pNm (i : Nat) : PG' := fun d ρ => match ρ[i]? with
  | some (some (.ls .ow _)) => .bad
  | some (some (.dc .ow _ _)) => .bad
  | _ => .val (ρ.set i (some (.im d)))
section
variable {P0 : Nat → Prop} {b : Nat} {ρ : PEn} {σ : SD} {η η1 η2 : Hd}
theorem pr_set {i : Nat} {w : Option PV} {x : Option D} {q : Nat} (h : ∀ v, ρ[i]? = some (some v) → v.own = false) (p : Pr P0 ρ σ q) : Pr P0 (ρ.set i w) (σ.set i x) q := by
  rcases p with p | ⟨j, v, h1, h2, h3⟩
  · exact .inl p
  · have z : i ≠ j := fun z => by subst z; rw [h v h1] at h2; cases h2
    exact .inr ⟨j, v, by rw [List.getElem?_set_ne z]; exact h1, h2, by rw [List.getElem?_set_ne z]; exact h3⟩
theorem sg_nm {i : Nat} : SG (gNm i) (pNm i) := by
  intro P0 b d ρ σ η k kx R h
  show k (σ.set i (some d)) η = true
  have go : (∀ v, ρ[i]? = some (some v) → v.own = false) → (∀ σ1, Rep P0 b (ρ.set i (some (.im d))) σ1 η → (∀ q, Pr P0 ρ σ q → Pr P0 (ρ.set i (some (.im d))) σ1 q) → k σ1 η = true) → k (σ.set i (some d)) η = true := fun hn hk =>
    hk _ (R.put (v := .im d) (Fr.refl _ _) rfl (fun z => nomatch z) rfl i) fun q p => pr_set hn p
  unfold pNm at h
  split at h
  · exact h.elim
  · exact h.elim
  · rename_i h1 h2
    refine go (fun v e => ?_) h
    cases v with
    | im _ => rfl
    | ls m l => cases m <;> first | rfl | exact absurd e (h1 _)
    | dc m t l => cases m <;> first | rfl | exact absurd e (h2 _ _)
    | cl c => rfl
    | ob c => rfl
end
abbrev PGs' := List D → PEn → Rs PEn
def SGs (c : CGs) (p : PGs') : Prop := ∀ ⦃P0 : Nat → Prop⦄ ⦃b : Nat⦄ ⦃ds : List D⦄ ⦃ρ : PEn⦄ ⦃σ : SD⦄ ⦃η : Hd⦄ ⦃k : SD → Hd → Bool⦄ ⦃kx : KX⦄, Rep P0 b ρ σ η →
  (p ds ρ).ok (fun ρ1 => ∀ σ1, Rep P0 b ρ1 σ1 η → (∀ q, Pr P0 ρ σ q → Pr P0 ρ1 σ1 q) → k σ1 η = true) (fun _ => False) → c ds σ η k kx = true
def pgNil : PGs' := fun ds ρ => match ds with
  | [] => .val ρ
  | _ => .bad
def pgCons (g : PG') (r : PGs') : PGs' := fun ds ρ => match ds with
  | d :: ds' => (g d ρ).bind fun ρ1 => r ds' ρ1
  | [] => .bad
theorem sgs_nil : SGs gsNil pgNil := by
  intro P0 b ds ρ σ η k kx R h
  cases ds with
  | nil => exact h σ R fun _ p => p
  | cons d ds => exact h.elim
theorem sgs_cons {g : CG} {r : CGs} {pg : PG'} {pr : PGs'} (hg : SG g pg) (hr : SGs r pr) : SGs (gsCons g r) (pgCons pg pr) := by
  intro P0 b ds ρ σ η k kx R h
  cases ds with
  | nil => exact h.elim
  | cons d ds =>
    show g d σ η _ kx = true
    refine hg R (Rs.imp (Rs.bind_ok h) (fun ρ1 h1 σ1 R1 p1 => ?_) (fun x hx => hx))
    exact hr R1 (Rs.imp h1 (fun ρ2 h2 σ2 R2 p2 => h2 σ2 R2 fun q p => p2 q (p1 q p)) (fun x hx => hx))
def pTp (n : Nat) (r : PGs') : PG' := fun d ρ => match d with
  | .tup ds => match Nat.beq ds.length n with
    | true => r ds ρ
    | false => .bad
  | _ => .bad
theorem sg_tp {n : Nat} {r : CGs} {pr : PGs'} (hr : SGs r pr) : SG (gTp n r) (pTp n pr) := by
  intro P0 b d ρ σ η k kx R h
  cases d with
  | tup ds =>
    simp only [gTp, pTp] at h ⊢
    cases e : Nat.beq ds.length n with
    | true => rw [e] at h; exact hr R h
    | false => rw [e] at h; exact h.elim
  | _ => exact h.elim
/-! ### comprehensions -/
def plc (g : PG') (t : PT) (e : PE) (ρ : PEn) : List D → Rs (List D)
  | [] => .val []
  | d :: ds => (g d ρ).bind fun ρ1 => (t ρ1).bind fun x => match x with
    | true => (e ρ1).bind fun v => match v with
      | .im y => (plc g t e ρ ds).bind fun ys => .val (y :: ys)
      | _ => .bad
    | false => plc g t e ρ ds
def wipP (vs : List Nat) (ρ : PEn) : PEn := vs.foldr (fun v r => r.set v none) ρ
def nox {α : Type} : Rs α → Rs α
  | .exc _ => .bad
  | .val a => .val a
  | .bad => .bad
  | .all n f => .all n fun v => nox (f v)
theorem nox_ok {α : Type} {r : Rs α} {Q : α → Prop} {E : Xc → Prop} (h : (nox r).ok Q E) : r.ok Q (fun _ => False) := by
  induction r with
  | val a => exact h
  | exc x => exact h
  | bad => exact h
  | all n f ih => exact fun v hv => ih v (h v hv)
section
variable {g : CG} {t : CT} {e : CE} {pg : PG'} {pt : PT} {pe : PE}
theorem lc_loop (hg : SG g pg) (ht : ST t pt) (he : SE e pe) {P0 : Nat → Prop} {b : Nat} {ρ : PEn} {σ : SD} {k : List D → Hd → Bool} : ∀ (l : List D) (n : Nat) (acc : List D) (η : Hd), l.length ≤ n → Rep P0 b ρ σ η →
    (plc pg pt pe ρ l).ok (fun ys => ∀ η', Fr (Pr P0 ρ σ) η η' → k (acc.reverse ++ ys) η' = true) (fun _ => False) → lcD g t e σ k l n acc η = true
  | [], n, acc, η, _, R, h => by
    have := h η (Fr.refl _ _)
    rw [List.append_nil] at this
    exact this
  | d :: ds, n, acc, η, hn, R, h => by
    obtain ⟨n, rfl⟩ : ∃ m, n = m + 1 := ⟨n - 1, by simp at hn; omega⟩
    have hn' : ds.length ≤ n := by simp at hn; omega
    rw [lcD]
    refine hg R (Rs.imp (Rs.bind_ok h) (fun ρ1 h1 σ1 R1 p1 => ?_) (fun x hx => hx))
    have lift : ∀ {η η' : Hd}, Fr (Pr P0 ρ1 σ1) η η' → Fr (Pr P0 ρ σ) η η' := fun f => f.weak fun q _ p => p1 q p
    refine ht R1 (Rs.imp (Rs.bind_ok h1) (fun x h2 η1 f1 => ?_) (fun x hx => hx.elim))
    cases x with
    | false => exact lc_loop hg ht he ds n acc η1 hn' (R.mono (lift f1)) (Rs.imp h2 (fun ys hy η' f => hy η' ((lift f1).trans f)) (fun x hx => hx))
    | true =>
      refine he (R1.mono f1) (Rs.imp (Rs.bind_ok h2) (fun v h3 dv η2 f2 s2 n2 => ?_) (fun x hx => hx.elim))
      have f12 := (lift f1).trans (lift f2)
      cases v with
      | im y =>
        cases s2
        refine lc_loop hg ht he ds n (dv :: acc) η2 hn' (R.mono f12) (Rs.imp (Rs.bind_ok h3) (fun ys hy η' f => ?_) (fun x hx => hx))
        have := hy η' (f12.trans f)
        rw [List.reverse_cons, List.append_assoc]
        exact this
      | _ => exact h3.elim
theorem un_nx (it : Its) (η : Hd) : (it.un η).nx = η.nx := Its.un_nx it η
theorem pr_wip {P0 : Nat → Prop} {q : Nat} {ρ : PEn} {σ : SD} : ∀ {vs : List Nat}, (∀ v ∈ vs, ∀ u : PV, ρ[v]? = some (some u) → u.own = false) → Pr P0 ρ σ q → Pr P0 (wipP vs ρ) (wipeD σ vs) q
  | [], _, p => p
  | v :: vs, h, p => by
    have ih := pr_wip (fun w hw => h w (.tail _ hw)) p (vs := vs)
    refine pr_set (ρ := wipP vs ρ) (σ := wipeD σ vs) (fun u e => h v (.head _) u ?_) ih
    have : ∀ (vs : List Nat), (wipP vs ρ)[v]? = some (some u) → ρ[v]? = some (some u) := by
      intro vs
      induction vs with
      | nil => exact id
      | cons w vs ih =>
        intro e
        refine ih ?_
        show (wipP vs ρ)[v]? = _
        have e : ((wipP vs ρ).set w none)[v]? = some (some u) := e
        by_cases z : w = v
        · subst z
          by_cases hi : w < (wipP vs ρ).length
          · rw [List.getElem?_set_self hi] at e; cases e
          · rw [List.getElem?_eq_none (by rw [List.length_set]; omega)] at e; cases e
        · rw [List.getElem?_set_ne z] at e; exact e
    exact this vs e
/-- the slots that are wiped are no lists of their own -/
def wipOk (vs : List Nat) (ρ : PEn) : Bool := vs.all fun v => match ρ[v]? with
  | some (some (.ls .ow _)) => false
  | some (some (.dc .ow _ _)) => false
  | _ => true
theorem wipOk_ok {vs : List Nat} {ρ : PEn} (h : wipOk vs ρ = true) : ∀ v ∈ vs, ∀ u : PV, ρ[v]? = some (some u) → u.own = false := fun v hv u e => by
  have := List.all_eq_true.mp h v hv
  rw [e] at this
  cases u with
  | im _ => rfl
  | ls m l => cases m <;> first | rfl | cases this
  | dc m t l => cases m <;> first | rfl | cases this
  | cl c => rfl
  | ob c => rfl
end

/-- a walk of a comprehension, from ahead of it to behind it -/
theorem walk_in {P0 : Nat → Prop} {b : Nat} {ρ : PEn} {σ : SD} {η1 : Hd} {it : Its} {o : Option Nat} {vs : List Nat} (R1 : Rep P0 b ρ σ η1) (io : ItO P0 ρ σ η1 it o) (hw : wipOk vs (wk o ρ) = true) :
    Rep P0 b (wipP vs (wk o ρ)) (wipeD σ vs) (it.fr η1) ∧ ∀ η2, Fr (Pr P0 (wipP vs (wk o ρ)) (wipeD σ vs)) (it.fr η1) η2 → Fr (Pr P0 ρ σ) η1 (it.un η2) :=
  ⟨(R1.frz io).wipe vs, fun η2 f => Fr.thaw R1 io (f.weak fun q _ p => pr_wip (wipOk_ok hw) p)⟩
def pLc (i : PI') (g : PG') (t : PT) (e : PE) (vs : List Nat) : PE := fun ρ => (i ρ).bind fun lo => match wipOk vs (wk lo.2 ρ), Nat.ble lo.1.length line1 with
  | true, true => (nox (plc g t e (wipP vs (wk lo.2 ρ)) lo.1)).bind fun ys => .val (.ls .fr ys)
  | _, _ => .bad
section
variable {i i1 : CI} {g g1 : CG} {t t1 : CT} {e : CE} {pi pi1 : PI'} {pg pg1 : PG'} {pt pt1 : PT} {pe : PE} {vs vs1 : List Nat}
theorem se_lc (hi : SI i pi) (hg : SG g pg) (ht : ST t pt) (he : SE e pe) : SE (cLc i g t e vs) (pLc pi pg pt pe vs) := by
  intro P0 b ρ σ η kv kx R h
  unfold cLc
  refine hi R (Rs.imp (Rs.bind_ok h) (fun lo hx it η1 el f1 io => ?_) (fun x hx η' f => hx η' f))
  have R1 := R.mono f1
  split at hx
  · rename_i hw hn
    obtain ⟨Rw, back⟩ := walk_in (vs := vs) R1 io hw
    have hn' : lo.1.length ≤ line1 := Nat.le_of_ble_eq_true hn
    refine lc_loop hg ht he it.l line1 [] _ (by rw [el]; exact hn') (Rw.mono Fr.bump) ?_
    rw [el]
    refine Rs.imp (nox_ok (Rs.bind_ok hx)) (fun ys hy η2 f2 => ?_) (fun x hx => hx)
    have f3 := back η2 (Fr.bump.trans f2)
    have n2 : η1.nx + 1 ≤ η2.nx := by have := f2.1; have e2 := fr_nx it η1; show η1.nx + 1 ≤ _; rw [← e2]; exact this
    refine hy _ _ (f1.trans (Fr.add (Nat.le_refl _) f3)) ⟨η1.nx, rfl, ?_, by rw [Hd.get_add, if_pos rfl]; rfl, fun p => by have := Pr_lt R1 p; omega⟩ fun _ => ⟨η1.nx, rfl, f1.1⟩
    show η1.nx < (it.un η2).nx
    rw [un_nx]; omega
  · exact hx.elim
/-! ### sums -/
/-! ### any, all -/
def pqst (p : Bool) (g : PG') (t : PT) (e : PE) (ρ : PEn) : List D → Rs Bool
  | [] => .val (!p)
  | d :: ds => (g d ρ).bind fun ρ1 => (t ρ1).bind fun x => match x with
    | true => (e ρ1).bind fun v => match v with
      | .im (.bl c) => match Bool.xor c p with
        | true => pqst p g t e ρ ds
        | false => .val p
      | _ => .bad
    | false => pqst p g t e ρ ds
theorem qst_loop {p : Bool} (hg : SG g pg) (ht : ST t pt) (he : SE e pe) {P0 : Nat → Prop} {b : Nat} {ρ : PEn} {σ : SD} {k : Bool → Hd → Bool} : ∀ (l : List D) (η : Hd), Rep P0 b ρ σ η →
    (pqst p pg pt pe ρ l).ok (fun ys => ∀ η', Fr (Pr P0 ρ σ) η η' → k ys η' = true) (fun _ => False) → qstD p g t e σ k l η = true
  | [], η, R, h => h η (Fr.refl _ _)
  | d :: ds, η, R, h => by
    rw [qstD]
    refine hg R (Rs.imp (Rs.bind_ok h) (fun ρ1 h1 σ1 R1 p1 => ?_) (fun x hx => hx))
    have lift : ∀ {η η' : Hd}, Fr (Pr P0 ρ1 σ1) η η' → Fr (Pr P0 ρ σ) η η' := fun f => f.weak fun q _ p => p1 q p
    refine ht R1 (Rs.imp (Rs.bind_ok h1) (fun x h2 η1 f1 => ?_) (fun x hx => hx.elim))
    cases x with
    | false => exact qst_loop hg ht he ds η1 (R.mono (lift f1)) (Rs.imp h2 (fun ys hy η' f => hy η' ((lift f1).trans f)) (fun x hx => hx))
    | true =>
      refine he (R1.mono f1) (Rs.imp (Rs.bind_ok h2) (fun v h3 dv η2 f2 s2 n2 => ?_) (fun x hx => hx.elim))
      have f12 := (lift f1).trans (lift f2)
      split at h3
      · cases s2
        split at h3
        · rename_i e1
          simp only [e1]
          exact qst_loop hg ht he ds η2 (R.mono f12) (Rs.imp h3 (fun ys hy η' f => hy η' (f12.trans f)) (fun x hx => hx))
        · rename_i e1
          simp only [e1]
          exact h3 η2 f12
      · exact h3.elim
def pQst (p : Bool) (i : PI') (g : PG') (t : PT) (e : PE) (vs : List Nat) : PE := fun ρ => (i ρ).bind fun lo => match wipOk vs (wk lo.2 ρ) with
  | true => (nox (pqst p g t e (wipP vs (wk lo.2 ρ)) lo.1)).bind fun y => .val (.im (.bl y))
  | _ => .bad
theorem se_qst {p : Bool} (hi : SI i pi) (hg : SG g pg) (ht : ST t pt) (he : SE e pe) : SE (cQst p i g t e vs) (pQst p pi pg pt pe vs) := by
  intro P0 b ρ σ η kv kx R h
  unfold cQst
  refine hi R (Rs.imp (Rs.bind_ok h) (fun lo hx it η1 el f1 io => ?_) (fun x hx η' f => hx η' f))
  have R1 := R.mono f1
  split at hx
  · rename_i hw
    obtain ⟨Rw, back⟩ := walk_in (vs := vs) R1 io hw
    refine qst_loop hg ht he it.l _ Rw ?_
    rw [el]
    refine Rs.imp (nox_ok (Rs.bind_ok hx)) (fun ys hy η2 f2 => ?_) (fun x hx => hx)
    exact hy _ _ (f1.trans (back η2 f2)) rfl (fun z => nomatch z)
  · exact hx.elim
/-! ### two fors -/
end
end PL

/-! the plain layer: statements, defs -/
namespace PL
open PySem PySem.Spec L2 DL
inductive Ou where
  | nx (ρ : PEn) | rt (v : PV) | bk (ρ : PEn) | ct (ρ : PEn)
abbrev PS' := PEn → Rs Ou
def RT (P0 : Nat → Prop) (b : Nat) (η : Hd) : PV → D → Prop
  | .im e, d => d = e
  | .ls .fr l, d => ∃ r, d = .ref r ∧ b ≤ r ∧ r < η.nx ∧ η.get r = some (.lst l)
  | .ls .lo l, d => ∃ r, d = .ref r ∧ r < η.nx ∧ η.list r = some l ∧ ¬ P0 r
  | .dc .fr t l, d => ∃ r, d = .ref r ∧ b ≤ r ∧ r < η.nx ∧ η.get r = some (.dct t l)
  | .cl c, d => FC η c d
  | .ob X, d => OC P0 η X d
  | _, _ => False
def Sok (P0 : Nat → Prop) (b : Nat) (η : Hd) (k : KS) : Ou → Prop
  | .nx ρ => ∀ σ' η', Rep P0 b ρ σ' η' → Fs P0 b η η' → k.nx σ' η' = true
  | .rt v => ∀ d η', Fs P0 b η η' → RT P0 b η' v d → k.rt d η' = true
  | .bk ρ => ∀ σ' η', Rep P0 b ρ σ' η' → Fs P0 b η η' → k.bk σ' η' = true
  | .ct ρ => ∀ σ' η', Rep P0 b ρ σ' η' → Fs P0 b η η' → k.ct σ' η' = true
def SS (c : CS) (p : PS') : Prop := ∀ ⦃P0 : Nat → Prop⦄ ⦃b : Nat⦄ ⦃ρ : PEn⦄ ⦃σ : SD⦄ ⦃η : Hd⦄ ⦃k : KS⦄, Rep P0 b ρ σ η →
  (p ρ).ok (Sok P0 b η k) (fun x => ∀ η', Fs P0 b η η' → k.xc x η' = true) → c σ η k = true
section
variable {P0 : Nat → Prop} {b : Nat} {ρ : PEn} {σ : SD} {η η1 η2 : Hd} {k : KS} {o : Ou}
theorem Sok.go (h : Sok P0 b η k o) (f : Fs P0 b η η1) : Sok P0 b η1 k o := by
  cases o with
  | nx ρ => exact fun σ' η' R f' => h σ' η' R (f.trans f')
  | rt v => exact fun d η' f' r => h d η' (f.trans f') r
  | bk ρ => exact fun σ' η' R f' => h σ' η' R (f.trans f')
  | ct ρ => exact fun σ' η' R f' => h σ' η' R (f.trans f')
theorem Rep.fs (R : Rep P0 b ρ σ η) (f : Fr (Pr P0 ρ σ) η η1) : Fs P0 b η η1 := f.fs (fun _ p => .inl p) R.bn
/-- a statement behind others -/
theorem SS.go {c : CS} {p : PS'} (h : SS c p) (R : Rep P0 b ρ σ η1) (f : Fs P0 b η η1) (q : (p ρ).ok (Sok P0 b η k) (fun x => ∀ η', Fs P0 b η η' → k.xc x η' = true)) : c σ η1 k = true :=
  h R (Rs.imp q (fun o ho => ho.go f) (fun x hx η' f' => hx η' (f.trans f')))
end
def psNil : PS' := fun ρ => .val (.nx ρ)
def psSeq (a b : PS') : PS' := fun ρ => (a ρ).bind fun o => match o with
  | .nx ρ1 => b ρ1
  | o => .val o
theorem ss_nil : SS sNil psNil := by
  intro P0 b ρ σ η k R h
  exact h σ η R (Fs.refl _ _ _)
theorem ss_seq {a c : CS} {pa pc : PS'} (ha : SS a pa) (hc : SS c pc) : SS (sSeq a c) (psSeq pa pc) := by
  intro P0 b ρ σ η k R h
  unfold sSeq
  refine ha R (Rs.imp (Rs.bind_ok h) (fun o ho => ?_) (fun x hx => hx))
  cases o with
  | nx ρ1 => exact fun σ' η' R' f' => hc.go R' f' ho
  | rt v => exact ho
  | bk ρ1 => exact ho
  | ct ρ1 => exact ho
def psRaise (c : Nat) : PS' := fun _ => .exc ⟨c, none⟩
theorem ss_raise {c : Nat} : SS (sRaise c) (psRaise c) := by
  intro P0 b ρ σ η k R h
  exact h η (Fs.refl _ _ _)
def psIf (t : PT) (a b : PS') : PS' := fun ρ => (t ρ).bind fun x => match x with
  | true => a ρ
  | false => b ρ
theorem ss_if {t : CT} {a c : CS} {pt : PT} {pa pc : PS'} (ht : ST t pt) (ha : SS a pa) (hc : SS c pc) : SS (sIf t a c) (psIf pt pa pc) := by
  intro P0 b ρ σ η k R h
  unfold sIf
  refine ht R (Rs.imp (Rs.bind_ok h) (fun x hx η1 f1 => ?_) (fun x hx η' f => hx η' (R.fs f)))
  cases x with
  | true => exact ha.go (R.mono f1) (R.fs f1) hx
  | false => exact hc.go (R.mono f1) (R.fs f1) hx
def retM : PV → Option PV
  | .im d => some (.im d)
  | .ls .fr l => some (.ls .fr l)
  | .ls .ow l => some (.ls .fr l)
  | .ls .lo l => some (.ls .lo l)
  | .dc .fr t l => some (.dc .fr t l)
  | .dc .ow t l => some (.dc .fr t l)
  | .cl c => some (.cl c)
  | .ob X => some (.ob X)
  | _ => none
def psRet (e : PE) : PS' := fun ρ => (e ρ).bind fun v => match retM v with
  | some w => .val (.rt w)
  | none => .bad
theorem ss_ret {c : CE} {pe : PE} (he : SE c pe) : SS (sRet c) (psRet pe) := by
  intro P0 b ρ σ η k R h
  unfold sRet
  refine he R (Rs.imp (Rs.bind_ok h) (fun v hv d η1 f1 s1 n1 => ?_) (fun x hx η' f => hx η' (R.fs f)))
  have R1 := R.mono f1
  split at hv
  · rename_i w e
    refine hv d η1 (R.fs f1) ?_
    cases v with
    | im _ => cases e; exact s1
    | ls m l => cases m with
      | fr =>
        cases e
        obtain ⟨r, z1, z2, z3, z4⟩ := s1
        obtain ⟨r', y1, y2⟩ := n1 rfl
        rw [z1] at y1; cases y1
        exact ⟨r, z1, Nat.le_trans R.bn y2, z2, z3⟩
      | ow =>
        cases e
        obtain ⟨i, z1, z2⟩ := s1
        obtain ⟨r, y1, y2, _⟩ := R1.ow i _ z1 rfl
        rw [z2] at y1; cases y1
        obtain ⟨d', x1, r', x2, x3, x4, x5, _⟩ := R1.at_ i _ z1
        rw [z2] at x1; cases x1; cases x2
        exact ⟨r, rfl, y2, x3, (x5 rfl).2⟩
      | lo =>
        cases e
        obtain ⟨r, z1, z2, z3, z4⟩ := s1
        exact ⟨r, z1, z2, z3, fun p => z4 (.inl p)⟩
      | ke => cases e
      | rd => cases e
    | dc m t l => cases m with
      | fr =>
        cases e
        obtain ⟨r, z1, z2, z3, z4⟩ := s1
        obtain ⟨r', y1, y2⟩ := n1 rfl
        rw [z1] at y1; cases y1
        exact ⟨r, z1, Nat.le_trans R.bn y2, z2, z3⟩
      | ow =>
        cases e
        obtain ⟨i, z1, z2⟩ := s1
        obtain ⟨r, y1, y2, _⟩ := R1.ow i _ z1 rfl
        rw [z2] at y1; cases y1
        obtain ⟨d', x1, r', x2, x3, x4, _⟩ := R1.at_ i _ z1
        rw [z2] at x1; cases x1; cases x2
        exact ⟨r, rfl, y2, x3, x4⟩
      | _ => cases e
    | cl c => cases e; exact s1
    | ob c => cases e; exact OC.anti (fun q _ p => .inl p) s1
  · exact hv.elim
/-! ### names are set -/
def psSet (e : PE) (i : Nat) : PS' := fun ρ => (e ρ).bind fun v => match stM v with
  | some w => .val (.nx (ρ.set i (some w)))
  | none => .bad
theorem ss_set {c : CE} {pe : PE} {i : Nat} (he : SE c pe) : SS (sAsg c (gNm i)) (psSet pe i) := by
  intro P0 b ρ σ η k R h
  show c σ η _ k.xc = true
  refine he R (Rs.imp (Rs.bind_ok h) (fun v hv d η1 f1 s1 n1 => ?_) (fun x hx η' f => hx η' (R.fs f)))
  split at hv
  · rename_i w e
    exact hv (σ.set i (some d)) η1 (R.put f1 s1 n1 e i) (R.fs f1)
  · exact hv.elim
/-! ### expressions that change a name's own list -/
abbrev PX := PEn → Rs (D × PEn)
/-- a method's effect on a list -/
abbrev M1 := List D → List D → Option (D × List D)
def mApp : M1 := fun l ds => match ds with
  | [d] => match Nat.blt l.length line with
    | true => some (.non, l ++ [d])
    | false => none
  | _ => none
def mPopAt : M1 := fun l ds => match ds with
  | [.int i] => match ixD l.length i with
    | some k => match l[k]? with
      | some d => some (d, l.eraseIdx k)
      | none => none
    | none => none
  | _ => none
/-- a name's own cell is changed -/
def cellOf : PV → Option Cell
  | .ls .ow l => some (.lst l)
  | .dc .ow t l => some (.dct t l)
  | _ => none
theorem Rep.upd {P0 : Nat → Prop} {b : Nat} {ρ : PEn} {σ : SD} {η : Hd} {i r : Nat} {v w : PV} {c : Cell} (R : Rep P0 b ρ σ η) (h : ρ[i]? = some (some v)) (hv : v.own = true) (hs : σ[i]? = some (some (.ref r))) (hw : cellOf w = some c) :
    Rep P0 b (ρ.set i (some w)) σ (η.set r c) ∧ Fs P0 b η (η.set r c) := by
  obtain ⟨r', e1, e2, e3⟩ := R.ow i v h hv
  rw [hs] at e1; cases e1
  have hi : i < ρ.length := (List.getElem?_eq_some_iff.mp h).1
  have hwo : w.own = true := by
    cases w with
    | im _ => cases hw
    | ls m l => cases m <;> first | rfl | cases hw
    | dc m t l => cases m <;> first | rfl | cases hw
    | cl c => cases hw
    | ob c => cases hw
  have lt : r < η.nx := R.lt h hs (by cases v <;> first | rfl | cases hv)
  obtain ⟨c0, g0, nf, fx⟩ : ∃ c0, η.get r = some c0 ∧ (∀ l, c0 ≠ .frz l) ∧ fixC c0 = false := by
    obtain ⟨d, x1, x2⟩ := R.at_ i v h
    rw [hs] at x1; cases x1
    cases v with
    | im _ => cases hv
    | ls m l =>
      obtain ⟨r', z1, z2, z3, z4, z5⟩ := x2
      cases z1
      refine ⟨_, (z4 (by cases m <;> first | rfl | cases hv)).2, fun _ z => (nomatch z), rfl⟩
    | dc m t l =>
      obtain ⟨r', z1, z2, z3, z4, z5⟩ := x2
      cases z1
      exact ⟨_, z3, fun _ z => (nomatch z), rfl⟩
    | cl c => cases hv
    | ob c => cases hv
  have gr : (η.set r c).get r = some c := get_set_eq g0
  have gne : ∀ q, q ≠ r → (η.set r c).get q = η.get q := fun q z => get_set_ne z
  have lne : ∀ q, q ≠ r → (η.set r c).list q = η.list q := fun q z => by unfold Hd.list; rw [gne q z]
  have gi : (ρ.set i (some w))[i]? = some (some w) := List.getElem?_set_self hi
  have pr : ∀ q, Pr P0 (ρ.set i (some w)) σ q ↔ Pr P0 ρ σ q := fun q => by
    constructor
    · rintro (p | ⟨j, u, h1, h2, h3⟩)
      · exact .inl p
      · by_cases z : i = j
        · subst z; exact .inr ⟨i, v, h, hv, h3⟩
        · rw [List.getElem?_set_ne z] at h1; exact .inr ⟨j, u, h1, h2, h3⟩
    · rintro (p | ⟨j, u, h1, h2, h3⟩)
      · exact .inl p
      · by_cases z : i = j
        · subst z; exact .inr ⟨i, w, gi, hwo, h3⟩
        · exact .inr ⟨j, u, by rw [List.getElem?_set_ne z]; exact h1, h2, h3⟩
  refine ⟨⟨R.old, R.bn, by rw [List.length_set]; exact R.len, fun j u hj => ?_, fun j u hj hu => ?_, fun j l hj => ?_, fun j t l hj => ?_, fun j q u u' d hjq h1 h2 h3 h5 h4 => ?_⟩, Nat.le_refl _, fun q hq => .inl (gne q (by omega)), fun q l hq e => ?_, fun q d hq e hd => by rw [gne q (fun y => by subst y; rw [g0] at e; cases e; rw [fx] at hd; cases hd)]; exact e⟩
  · by_cases z : i = j
    · subst z
      rw [gi] at hj
      cases hj
      refine ⟨.ref r, hs, ?_⟩
      cases w with
      | im _ => cases hw
      | ls m l => cases m with
        | ow => cases hw; exact ⟨r, rfl, lt, list_lst gr, fun _ => ⟨.inr ⟨i, _, gi, rfl, hs⟩, gr⟩, fun hm => by rcases hm with hm | hm <;> cases hm⟩
        | _ => cases hw
      | dc m t l => cases m with
        | ow => cases hw; exact ⟨r, rfl, lt, gr, fun _ => .inr ⟨i, _, gi, rfl, hs⟩, fun hm => (nomatch hm)⟩
        | _ => cases hw
      | cl c => cases hw
      | ob c => cases hw
    · rw [List.getElem?_set_ne z] at hj
      obtain ⟨d, x1, x2⟩ := R.at_ j u hj
      refine ⟨d, x1, ?_⟩
      have ne : ∀ q, u.imm = false → d = .ref q → q ≠ r := fun q hu e y => by
        subst e y
        exact R.dj i j v u _ z h hv hj hu hs x1
      cases u with
      | im _ => exact x2
      | ls m l =>
        obtain ⟨q, z1, z2, z3, z4, z5⟩ := x2
        have y := ne q rfl z1
        exact ⟨q, z1, z2, by rw [lne q y]; exact z3, fun hm => ⟨(pr q).mpr (z4 hm).1, by rw [gne q y]; exact (z4 hm).2⟩, fun hm p => z5 hm ((pr q).mp p)⟩
      | dc m t l =>
        obtain ⟨q, z1, z2, z3, z4, z5⟩ := x2
        have y := ne q rfl z1
        exact ⟨q, z1, z2, by rw [gne q y]; exact z3, fun hm => (pr q).mpr (z4 hm), fun hm p => z5 hm ((pr q).mp p)⟩
      | cl c' =>
        obtain ⟨q, z1, z2, z3, z4⟩ := x2
        have y : q ≠ r := fun y => by subst y; rw [g0] at z3; cases z3; rw [fx] at z4; cases z4
        exact ⟨q, z1, z2, by rw [gne q y]; exact z3, z4⟩
      | ob X =>
        obtain ⟨q, F, z1, z2, z3⟩ := x2
        exact ⟨q, F, z1, X.st z2 (Nat.le_refl _) (fun p hp => .of (gne p fun y => z3 p hp (by rw [y]; exact .inr ⟨i, v, h, hv, hs⟩))), fun p hp y => z3 p hp ((pr p).mp y)⟩
  · by_cases z : i = j
    · subst z; exact ⟨r, hs, e2, e3⟩
    · rw [List.getElem?_set_ne z] at hj; exact R.ow j u hj hu
  · by_cases z : i = j
    · subst z; rw [gi] at hj; cases hj; cases hwo
    · rw [List.getElem?_set_ne z] at hj; exact R.ke j l hj
  · by_cases z : i = j
    · subst z; rw [gi] at hj; cases hj; cases hwo
    · rw [List.getElem?_set_ne z] at hj; exact R.kd j t l hj
  · have old : ∀ (j : Nat) (u : PV), (ρ.set i (some w))[j]? = some (some u) → u.imm = false → ∃ u', ρ[j]? = some (some u') ∧ u'.imm = false ∧ (u.own = true → u'.own = true) := fun j u hj hu => by
      by_cases z : i = j
      · subst z; exact ⟨v, h, (by cases v <;> first | rfl | cases hv), fun _ => hv⟩
      · rw [List.getElem?_set_ne z] at hj; exact ⟨u, hj, hu, id⟩
    obtain ⟨a, a1, a2, a3⟩ := old j u h1 (by cases u <;> first | rfl | cases h2)
    obtain ⟨c', c1, c2, c3⟩ := old q u' h3 h5
    exact R.dj j q a c' d hjq a1 (a3 h2) c1 c2 h4
  · have z : q ≠ r := fun z => by subst z; rw [g0] at e; exact nf l (Option.some.inj e)
    rw [gne q z]; exact e
def pxMt (m : M1) (i : Nat) (a : PA) : PX := fun ρ => match ρ[i]? with
  | some (some (.ls .ow l)) => (a ρ).bind fun vs => match imms vs with
    | some ds => match m l ds with
      | some (d, l') => .val (d, ρ.set i (some (.ls .ow l')))
      | none => .bad
    | none => .bad
  | _ => .bad
/-- an argument that changes another name's list -/
def pxMtX (m : M1) (i : Nat) (a : PX) : PX := fun ρ => match ρ[i]? with
  | some (some (.ls .ow _)) => (a ρ).bind fun v => match v.2[i]? with
    | some (some (.ls .ow l)) => match m l [v.1] with
      | some (d, l') => .val (d, v.2.set i (some (.ls .ow l')))
      | none => .bad
    | _ => .bad
  | _ => .bad
def psExpr (e : PX) : PS' := fun ρ => (e ρ).bind fun v => .val (.nx v.2)
end PL

/-! the plain layer: stores, loops, defs -/
namespace PL
open PySem PySem.Spec L2 DL
/-! ### stores -/
def putP (v : PV) (x d : D) : Option PV := match v with
  | .ls .ow l => match x with
    | .int j => match ixD l.length j with
      | some n => some (.ls .ow (l.set n d))
      | none => none
    | _ => none
  | .dc .ow t kvs => match isKey t x, Nat.blt kvs.length line with
    | true, true => some (.dc .ow t (dput x d kvs))
    | _, _ => none
  | _ => none
theorem Rep.putP {P0 : Nat → Prop} {b : Nat} {ρ : PEn} {σ : SD} {η : Hd} {i : Nat} {v w : PV} {x d : D} (R : Rep P0 b ρ σ η) (h : ρ[i]? = some (some v)) (e : putP v x d = some w) : ∃ (r : Nat) (η' : Hd), σ[i]? = some (some (.ref r)) ∧ fSet (.ref r) x d η = some η' ∧ Rep P0 b (ρ.set i (some w)) σ η' ∧ Fs P0 b η η' := by
  obtain ⟨d0, x1, x2⟩ := R.at_ i v h
  unfold PL.putP at e
  split at e
  · rename_i l
    obtain ⟨r, rfl, z2, z3, z4, z5⟩ := x2
    split at e
    · rename_i j
      split at e
      · rename_i n en
        cases e
        obtain ⟨R2, f2⟩ := R.upd (w := .ls .ow (l.set n d)) h rfl x1 rfl
        exact ⟨r, _, x1, by simp only [fSet, (z4 rfl).2, en], R2, f2⟩
      · cases e
    · cases e
  · rename_i t kvs
    obtain ⟨r, rfl, z2, z3, z4, z5⟩ := x2
    split at e
    · rename_i e1 e2
      cases e
      obtain ⟨R2, f2⟩ := R.upd (w := .dc .ow t (dput x d kvs)) h rfl x1 rfl
      exact ⟨r, _, x1, by simp only [fSet, z3, e1, e2], R2, f2⟩
    · cases e
  · cases e
/-- the slot's own cell -/
def ownAt (ρ : PEn) (i : Nat) : Option PV := match ρ[i]? with
  | some (some u) => match u.own with
    | true => some u
    | false => none
  | _ => none
theorem ownAt_ok {ρ : PEn} {i : Nat} {u : PV} (h : ownAt ρ i = some u) : ρ[i]? = some (some u) ∧ u.own = true := by
  unfold ownAt at h
  split at h
  · rename_i e
    split at h
    · rename_i e2; cases h; exact ⟨e, e2⟩
    · cases h
  · cases h
def psStore (e : PE) (i : Nat) (k : PE) : PS' := fun ρ => (e ρ).bind fun v => match v with
  | .im d => match ownAt ρ i with
    | some u => (k ρ).bind fun x => match x with
      | .im x => match putP u x d with
        | some w => .val (.nx (ρ.set i (some w)))
        | none => .bad
      | _ => .bad
    | none => .bad
  | _ => .bad
theorem ss_store {c ci : CE} {pe pk : PE} {i : Nat} (he : SE c pe) (hk : SE ci pk) : SS (sAsg c (gSb (cVar i) ci)) (psStore pe i pk) := by
  intro P0 b ρ σ η k R h
  rw [w_sub]
  refine he R (Rs.imp (Rs.bind_ok h) (fun v hv d η1 f1 s1 n1 => ?_) (fun x hx η' f => hx η' (R.fs f)))
  have R1 := R.mono f1
  split at hv
  · cases s1
    split at hv
    · rename_i u eu
      obtain ⟨e1, e2⟩ := ownAt_ok eu
      obtain ⟨r, y1, _⟩ := R1.ow i u e1 e2
      rw [w_var y1]
      refine hk R1 (Rs.imp (Rs.bind_ok hv) (fun x hx dx η2 f2 s2 n2 => ?_) (fun x hx η' f => hx η' ((R.fs f1).trans (R1.fs f))))
      have R2 := R1.mono f2
      split at hx
      · cases s2
        split at hx
        · rename_i w ew
          obtain ⟨r', η3, z1, z2, R3, f3⟩ := R2.putP e1 ew
          rw [y1] at z1; cases z1
          rw [z2]
          exact hx σ η3 R3 (((R.fs f1).trans (R1.fs f2)).trans f3)
        · exact hx.elim
      · exact hx.elim
    · exact hv.elim
  · exact hv.elim
/-! ### two names at once -/
/-! ### for -/
def pforD (g : PG') (s : PS') : List D → PEn → Rs Ou
  | [], ρ => .val (.nx ρ)
  | d :: ds, ρ => (nox (g d ρ)).bind fun ρ1 => (s ρ1).bind fun o => match o with
    | .nx ρ2 => pforD g s ds ρ2
    | .ct ρ2 => pforD g s ds ρ2
    | .bk ρ2 => .val (.nx ρ2)
    | .rt v => .val (.rt v)
theorem for_loop {g : CG} {c : CS} {pg : PG'} {ps : PS'} (hg : SG g pg) (hc : SS c ps) {P0 : Nat → Prop} {b : Nat} {k : KS} : ∀ (l : List D) (ρ : PEn) (σ : SD) (η : Hd), Rep P0 b ρ σ η →
    (pforD pg ps l ρ).ok (Sok P0 b η k) (fun x => ∀ η', Fs P0 b η η' → k.xc x η' = true) → forD g c k l σ η = true
  | [], ρ, σ, η, R, h => h σ η R (Fs.refl _ _ _)
  | d :: ds, ρ, σ, η, R, h => by
    rw [forD]
    refine hg R (Rs.imp (nox_ok (Rs.bind_ok h)) (fun ρ1 h1 σ1 R1 _ => ?_) (fun x hx => hx))
    refine hc R1 (Rs.imp (Rs.bind_ok h1) (fun o ho => ?_) (fun x hx => hx))
    cases o with
    | nx ρ2 => exact fun σ2 η2 R2 f2 => for_loop hg hc ds ρ2 σ2 η2 R2 (Rs.imp ho (fun o ho => ho.go f2) (fun x hx η' f => hx η' (f2.trans f)))
    | ct ρ2 => exact fun σ2 η2 R2 f2 => for_loop hg hc ds ρ2 σ2 η2 R2 (Rs.imp ho (fun o ho => ho.go f2) (fun x hx η' f => hx η' (f2.trans f)))
    | bk ρ2 => exact ho
    | rt v => exact ho
section
variable {P0 : Nat → Prop} {b : Nat} {ρ ρ' : PEn} {σ σ' : SD} {η η1 η2 η' : Hd} {it : Its} {o : Option Nat}
/-- behind a loop the list is thawed -/
theorem thaw_fs (io : ItO P0 ρ σ η1 it o) (f : Fs P0 b (it.fr η1) η') : Fs P0 b η1 (it.un η') ∧ (Rep P0 b ρ' σ' η' → Rep P0 b ρ' σ' (it.un η')) ∧ ∀ v d, RT P0 b η' v d → RT P0 b (it.un η') v d := by
  rcases io.at_ with ⟨e, _⟩ | ⟨r, l, e, lt, g, _⟩
  · have e1 : it.fr η1 = η1 := by unfold Its.fr; rw [e]
    have e2 : it.un η' = η' := by unfold Its.un; rw [e]
    rw [e1] at f
    rw [e2]
    exact ⟨f, id, fun _ _ h => h⟩
  · have e1 : it.fr η1 = frzAt r l η1 := by unfold Its.fr; rw [e]
    have e2 : it.un η' = unfAt r l η' := by unfold Its.un; rw [e]
    rw [e1] at f
    rw [e2]
    have gr : η'.get r = some (.frz l) := f.frz r l (show r < (frzAt r l η1).nx from lt) (get_set_eq g)
    have ur : (unfAt r l η').get r = some (.lst l) := get_set_eq gr
    have une : ∀ q, q ≠ r → (unfAt r l η').get q = η'.get q := fun q z => get_set_ne z
    have fne : ∀ q, q ≠ r → (frzAt r l η1).get q = η1.get q := fun q z => get_set_ne z
    have ul : ∀ q l', η'.list q = some l' → (unfAt r l η').list q = some l' := fun q l' h => by
      by_cases z : q = r
      · subst z; rw [list_frz gr] at h; cases h; exact list_lst ur
      · unfold Hd.list; rw [une q z]; exact h
    have uc : ∀ q c, η'.get q = some c → (∀ l, c ≠ .frz l) → (unfAt r l η').get q = some c := fun q c h hc => by
      by_cases z : q = r
      · subst z; rw [gr] at h; exact absurd (Option.some.inj h).symm (hc l)
      · rw [une q z]; exact h
    refine ⟨⟨f.nx, fun q hq => ?_, fun q l' hq h => ?_, fun q c hq h hc => uc q c (f.fix q c hq (by rw [fne q (fun z => by subst z; rw [g] at h; cases h; cases hc)]; exact h) hc) (fixC_lst hc).2.1⟩, fun R => ?_, fun v d h => ?_⟩
    · by_cases z : q = r
      · subst z; exact .inl (ur.trans g.symm)
      · rw [une q z, ← fne q z]; exact f.keep q hq
    · have z : q ≠ r := fun z => by subst z; rw [g] at h; cases h
      rw [une q z]
      exact f.frz q l' hq (by rw [fne q z]; exact h)
    · refine ⟨R.old, R.bn, R.len, fun i v hv => ?_, R.ow, R.ke, R.kd, R.dj⟩
      obtain ⟨d, x1, x2⟩ := R.at_ i v hv
      refine ⟨d, x1, ?_⟩
      cases v with
      | im _ => exact x2
      | ls m l' =>
        obtain ⟨q, z1, z2, z3, z4, z5⟩ := x2
        exact ⟨q, z1, z2, ul q l' z3, fun hm => ⟨(z4 hm).1, uc q _ (z4 hm).2 (fun _ z => nomatch z)⟩, z5⟩
      | dc m t l' =>
        obtain ⟨q, z1, z2, z3, z4, z5⟩ := x2
        exact ⟨q, z1, z2, uc q _ z3 (fun _ z => nomatch z), z4, z5⟩
      | cl c =>
        obtain ⟨q, z1, z2, z3, z4⟩ := x2
        exact ⟨q, z1, z2, uc q _ z3 (fixC_lst z4).2.1, z4⟩
      | ob X => exact OC.sm (η := η') (η' := unfAt r l η') (X := X) (Nat.le_refl _) (fun p _ _ => ⟨fun c e _ h1 => uc p c e h1, ul p⟩) x2
    · cases v with
      | im _ => exact h
      | ls m l' => cases m with
        | fr => obtain ⟨q, z1, z2, z3, z4⟩ := h; exact ⟨q, z1, z2, z3, uc q _ z4 (fun _ z => nomatch z)⟩
        | lo => obtain ⟨q, z1, z2, z3, z4⟩ := h; exact ⟨q, z1, z2, ul q l' z3, z4⟩
        | _ => exact h.elim
      | dc m t l' => cases m with
        | fr => obtain ⟨q, z1, z2, z3, z4⟩ := h; exact ⟨q, z1, z2, z3, uc q _ z4 (fun _ z => nomatch z)⟩
        | _ => exact h.elim
      | cl c =>
        obtain ⟨q, z1, z2, z3, z4⟩ := h
        exact ⟨q, z1, z2, uc q _ z3 (fixC_lst z4).2.1, z4⟩
      | ob X => exact OC.sm (η := η') (η' := unfAt r l η') (X := X) (Nat.le_refl _) (fun p _ _ => ⟨fun c e _ h1 => uc p c e h1, ul p⟩) h
end
def psFor (i : PI') (g : PG') (s : PS') : PS' := fun ρ => (i ρ).bind fun lo => pforD g s lo.1 (wk lo.2 ρ)
theorem ss_for {i : CI} {g : CG} {c : CS} {pi : PI'} {pg : PG'} {ps : PS'} (hi : SI i pi) (hg : SG g pg) (hc : SS c ps) : SS (sFor i g c) (psFor pi pg ps) := by
  intro P0 b ρ σ η k R h
  unfold sFor
  refine hi R (Rs.imp (Rs.bind_ok h) (fun lo hx it η1 el f1 io => ?_) (fun x hx η' f => hx η' (R.fs f)))
  have R1 := R.mono f1
  rw [← el] at hx
  have fs1 := R.fs f1
  refine for_loop hg hc it.l (wk lo.2 ρ) σ (it.fr η1) (R1.frz io) (Rs.imp hx (fun o ho => ?_) (fun x hx η' f => hx _ (fs1.trans (thaw_fs (ρ' := ρ) (σ' := σ) io f).1)))
  cases o with
  | nx ρ2 => exact fun σ2 η2 R2 f2 => ho σ2 _ ((thaw_fs io f2).2.1 R2) (fs1.trans (thaw_fs (ρ' := ρ) (σ' := σ) io f2).1)
  | ct ρ2 => exact fun σ2 η2 R2 f2 => ho σ2 _ ((thaw_fs io f2).2.1 R2) (fs1.trans (thaw_fs (ρ' := ρ) (σ' := σ) io f2).1)
  | bk ρ2 => exact fun σ2 η2 R2 f2 => ho σ2 _ ((thaw_fs io f2).2.1 R2) (fs1.trans (thaw_fs (ρ' := ρ) (σ' := σ) io f2).1)
  | rt v => exact fun d η2 f2 r => ho d _ (fs1.trans (thaw_fs (ρ' := ρ) (σ' := σ) io f2).1) ((thaw_fs (ρ' := ρ) (σ' := σ) io f2).2.2 v d r)
/-! ### while -/
/-! ### defs -/
def pDef (n m : Nat) (s : PS') : PFn := fun vs => match Nat.beq vs.length n with
  | true => (s (vs.map some ++ List.replicate (m - n) none)).bind fun o => match o with
    | .nx _ => .val (.im .non)
    | .rt v => .val v
    | _ => .bad
  | false => .bad
theorem AWs.len {P : Nat → Prop} {η : Hd} {vs : List PV} {ds : List D} (h : AWs P η vs ds) : vs.length = ds.length := by
  induction h with
  | nil => rfl
  | cons h r ih => simp [ih]
theorem AWs.get {P : Nat → Prop} {η : Hd} {vs : List PV} {ds : List D} (h : AWs P η vs ds) : ∀ (i : Nat) (v : PV), vs[i]? = some v → ∃ d : D, ds[i]? = some d ∧ AW P η v d := by
  induction h with
  | nil => intro i v e; simp at e
  | cons h r ih =>
    intro i v e
    cases i with
    | zero => simp at e; subst e; exact ⟨_, by simp, h⟩
    | succ i => simp at e; obtain ⟨d, e1, e2⟩ := ih i v e; exact ⟨d, by simpa using e1, e2⟩
theorem AW.own {P : Nat → Prop} {η : Hd} {v : PV} {d : D} (h : AW P η v d) : v.own = false := by
  cases v with
  | im _ => rfl
  | ls m l => cases m <;> first | rfl | exact h.elim
  | dc m t l => cases m <;> first | rfl | exact h.elim
  | cl c => rfl
  | ob c => rfl
theorem rep_start {P : Nat → Prop} {η : Hd} {vs : List PV} {ds : List D} {n m : Nat} (lt : ∀ q, P q → q < η.nx) (h : AWs P η vs ds) : Rep P η.nx (vs.map some ++ List.replicate (m - n) none) (startD n m ds) η := by
  have get : ∀ (i : Nat) (v : PV), (vs.map some ++ List.replicate (m - n) none : PEn)[i]? = some (some v) → ∃ d : D, (startD n m ds)[i]? = some (some d) ∧ AW P η v d := fun i v e => by
    by_cases hi : i < vs.length
    · rw [List.getElem?_append_left (by simpa using hi), List.getElem?_map] at e
      cases ev : vs[i]? with
      | none => rw [ev] at e; cases e
      | some u =>
        rw [ev] at e; cases e
        obtain ⟨d, e1, e2⟩ := h.get i v ev
        refine ⟨d, ?_, e2⟩
        unfold startD
        rw [List.getElem?_append_left (by rw [List.length_map, ← h.len]; exact hi), List.getElem?_map, e1]
        rfl
    · rw [List.getElem?_append_right (by simpa using Nat.le_of_not_lt hi), List.getElem?_replicate] at e
      split at e <;> cases e
  have no : ∀ (i : Nat) (v : PV), (vs.map some ++ List.replicate (m - n) none : PEn)[i]? = some (some v) → v.own = false := fun i v e => by
    obtain ⟨d, _, a⟩ := get i v e
    exact a.own
  have pr : ∀ q, Pr P (vs.map some ++ List.replicate (m - n) none) (startD n m ds) q → P q := fun q p => by
    rcases p with p | ⟨i, v, h1, h2, _⟩
    · exact p
    · rw [no i v h1] at h2; cases h2
  refine ⟨lt, Nat.le_refl _, by unfold startD; simp [h.len], fun i v e => ?_, fun i v e hv => ?_, fun i l e => ?_, fun i t l e => ?_, fun i j v w d _ e hv => ?_⟩
  · obtain ⟨d, e1, a⟩ := get i v e
    refine ⟨d, e1, ?_⟩
    cases v with
    | im _ => exact a
    | ls m l => cases m with
      | lo => obtain ⟨r, z1, z2, z3, z4⟩ := a; exact ⟨r, z1, z2, z3, fun hm => (nomatch hm), fun _ p => z4 (pr _ p)⟩
      | ke => obtain ⟨r, z1, z2, z3, z4⟩ := a; exact ⟨r, z1, z2, list_lst z3, fun _ => ⟨.inl z4, z3⟩, fun hm => by rcases hm with hm | hm <;> cases hm⟩
      | rd => obtain ⟨r, z1, z2, z3⟩ := a; exact ⟨r, z1, z2, z3, fun hm => (nomatch hm), fun hm => by rcases hm with hm | hm <;> cases hm⟩
      | fr => exact a.elim
      | ow => exact a.elim
    | dc m t l => cases m with
      | ke => obtain ⟨r, z1, z2, z3, z4⟩ := a; exact ⟨r, z1, z2, z3, fun _ => .inl z4, fun hm => (nomatch hm)⟩
      | _ => exact a.elim
    | cl c => exact a
    | ob c => exact OC.anti (fun q _ p => pr q p) a
  · rw [no i v e] at hv; cases hv
  · obtain ⟨d, e1, a⟩ := get i _ e
    obtain ⟨r, z1, z2, z3, z4⟩ := a
    exact ⟨r, by rw [e1, z1], z4⟩
  · obtain ⟨d, e1, a⟩ := get i _ e
    obtain ⟨r, z1, z2, z3, z4⟩ := a
    exact ⟨r, by rw [e1, z1], z4⟩
  · rw [no i v e] at hv; cases hv
theorem sf_def {n m : Nat} {c : CS} {p : PS'} (hc : SS c p) : SF (cDef n m c) (pDef n m p) := by
  intro P η vs ds kv kx lt ha h
  unfold pDef at h
  unfold cDef
  rw [← ha.len]
  split at h
  · rename_i en
    (try rw [en])
    have fr : ∀ {η'}, Fs P η.nx η η' → Fr P η η' := fun f => ⟨f.nx, fun q hq => f.keep q hq⟩
    refine hc (rep_start lt ha) (Rs.imp (Rs.bind_ok h) (fun o ho => ?_) (fun x hx η' f => hx η' (fr f)))
    cases o with
    | nx ρ => exact fun σ' η' _ f => ho .non η' (fr f) rfl
    | bk ρ => exact ho.elim
    | ct ρ => exact ho.elim
    | rt v =>
      refine fun d η' f r => ho d η' (fr f) ?_
      cases v with
      | im _ => exact r
      | ls m l => cases m <;> first | exact r | exact r.elim
      | dc m t l => cases m <;> first | exact r | exact r.elim
      | cl c => exact r
      | ob c => exact r
  · exact h.elim
end PL

/-! the plain layer: rolls, what is told, fields, methods, dicts -/
namespace PL
open PySem PySem.Spec L2 DL
/-! ### rolls -/
def below (n : Nat) : D → Prop := fun d => ∃ v, v < n ∧ d = iD (Int.ofNat v)
def qRoll : PFn := fun vs => match vs with
  | [.cl .dice, .im (.int (.ofNat (n + 1)))] => match Nat.ble n 1000000000 with
    | true => .all (below (n + 1)) fun d => .val (.im d)
    | false => .bad
  | _ => .bad
/-! ### what is told -/
/-! ### fields, methods -/
/-! ### dicts -/
/-- the objects in slots have nothing of the cell r -/
def ObOk (P0 : Nat → Prop) (ρ : PEn) (σ : SD) (η : Hd) (r : Nat) : Prop := ∀ (j : Nat) (X : Ob), ρ[j]? = some (some (.ob X)) → ∃ (e : D) (q : Nat) (F : List Nat), σ[j]? = some (some e) ∧ e = .ref q ∧ X.at_ η q F ∧ r ∉ F ∧ ∀ p ∈ F, ¬ Pr P0 ρ σ p
theorem ObOk.fr {P P0 : Nat → Prop} {ρ : PEn} {σ : SD} {η η' : Hd} {r : Nat} (h : ObOk P0 ρ σ η r) (f : Fr P η η') : ObOk P0 ρ σ η' r := fun j X e => by
  obtain ⟨d, q, F, z1, z2, z3, z4, z5⟩ := h j X e
  exact ⟨d, q, F, z1, z2, X.st z3 f.1 fun p hp => f.sm (X.lt z3 p hp), z4, z5⟩
theorem ObOk.set {P0 : Nat → Prop} {ρ : PEn} {σ : SD} {η : Hd} {r : Nat} {c : Cell} (h : ObOk P0 ρ σ η r) : ObOk P0 ρ σ (η.set r c) r := fun j X e => by
  obtain ⟨d, q, F, z1, z2, z3, z4, z5⟩ := h j X e
  exact ⟨d, q, F, z1, z2, X.st z3 (Nat.le_refl _) fun p hp => .of (get_set_ne fun y => z4 (y ▸ hp)), z4, z5⟩
theorem ObOk.new {P0 : Nat → Prop} {b : Nat} {ρ : PEn} {σ : SD} {η : Hd} {r : Nat} (R : Rep P0 b ρ σ η) (hr : η.nx ≤ r) : ObOk P0 ρ σ η r := fun j X e => by
  obtain ⟨d, x1, q, F, z2, z3, z5⟩ := R.at_ j _ e
  exact ⟨d, q, F, x1, z2, z3, fun y => by have := X.lt z3 _ y; omega, z5⟩
end PL

/-! the plain layer: texts, falling rows, names out of a list, three names at once -/
namespace PL
open PySem PySem.Spec L2 DL
/-! ### any of two fors -/
end PL

/-! the plain layer: laws of walks, loops -/
namespace PL
open PySem PySem.Spec L2 DL
section
variable {α β : Type} {pi : PI'} {pg : PG'} {pt : PT} {pe : PE} {ps : PS'} {vs : List Nat} {ρ : PEn} {l ys : List D} {o : Option Nat}
theorem bind_val {a : α} {f : α → Rs β} : (Rs.val a).bind f = f a := rfl
theorem lc_val (h1 : pi ρ = .val (l, o)) (h2 : wipOk vs (wk o ρ) = true) (h3 : l.length ≤ line1) (h4 : plc pg pt pe (wipP vs (wk o ρ)) l = .val ys) : pLc pi pg pt pe vs ρ = Rs.val (PV.ls .fr ys) := by
  unfold pLc
  rw [h1]
  show (match wipOk vs (wk o ρ), Nat.ble l.length line1 with
    | true, true => (nox (plc pg pt pe (wipP vs (wk o ρ)) l)).bind fun ys => Rs.val (PV.ls .fr ys)
    | _, _ => .bad) = _
  rw [h2, Nat.ble_eq_true_of_le h3, h4]
  rfl
theorem plc_map {f g : α → D} : ∀ {l : List α}, (∀ x ∈ l, ∃ ρ1, pg (f x) ρ = .val ρ1 ∧ pe ρ1 = .val (.im (g x))) → plc pg pYes pe ρ (l.map f) = .val (l.map g)
  | [], _ => rfl
  | x :: l, h => by
    obtain ⟨ρ1, h1, h3⟩ := h x (.head _)
    have ih := plc_map (fun y hy => h y (.tail _ hy)) (l := l)
    rw [List.map_cons, plc, h1, bind_val]
    show (pe ρ1).bind _ = _
    rw [h3, bind_val]
    show (plc pg pYes pe ρ (l.map f)).bind _ = _
    rw [ih]
    rfl
theorem pqst_none {p : Bool} {f : α → D} : ∀ {l : List α}, (∀ x ∈ l, ∃ ρ1, pg (f x) ρ = .val ρ1 ∧ pe ρ1 = .val (.im (.bl (!p)))) → pqst p pg pYes pe ρ (l.map f) = .val (!p)
  | [], _ => rfl
  | x :: l, h => by
    obtain ⟨ρ1, h1, h3⟩ := h x (.head _)
    have ih := pqst_none (fun y hy => h y (.tail _ hy)) (l := l)
    rw [List.map_cons, pqst, h1, bind_val]
    show (pe ρ1).bind _ = _
    rw [h3, bind_val]
    have : Bool.xor (!p) p = true := by cases p <;> rfl
    simp only [this]
    exact ih
theorem for_ind {l : List D} (I : Nat → PEn → Prop) (hs : ∀ k d ρ, l[k]? = some d → I k ρ → ∃ ρ', (nox (pg d ρ)).bind ps = .val (.nx ρ') ∧ I (k + 1) ρ') : ∀ (r : List D) (k : Nat) (ρ : PEn), l.drop k = r → I k ρ → ∃ ρ', pforD pg ps r ρ = .val (.nx ρ') ∧ I (k + r.length) ρ'
  | [], k, ρ, _, h => ⟨ρ, rfl, h⟩
  | d :: r, k, ρ, e, h => by
    have hd : l[k]? = some d := by
      have : (l.drop k)[0]? = some d := by rw [e]; rfl
      rw [List.getElem?_drop] at this; exact this
    have hr : l.drop (k + 1) = r := by
      have : (l.drop k).drop 1 = r := by rw [e]; rfl
      rw [List.drop_drop] at this; exact this
    obtain ⟨ρ1, h1, h2⟩ := hs k d ρ hd h
    obtain ⟨ρ2, h3, h4⟩ := for_ind I hs r (k + 1) ρ1 hr h2
    refine ⟨ρ2, ?_, by rw [List.length_cons]; rw [show k + (r.length + 1) = k + 1 + r.length by omega]; exact h4⟩
    rw [pforD]
    cases eg : nox (pg d ρ) with
    | val ρ0 =>
      rw [eg, bind_val] at h1
      rw [bind_val, h1, bind_val]
      exact h3
    | exc x => rw [eg] at h1; cases h1
    | bad => rw [eg] at h1; cases h1
    | all S f => rw [eg] at h1; cases h1
theorem for_val {l : List D} {ρ0 : PEn} {pi : PI'} (I : Nat → PEn → Prop) (h1 : pi ρ0 = .val (l, none)) (h0 : I 0 ρ0) (hs : ∀ k d ρ, l[k]? = some d → I k ρ → ∃ ρ', (nox (pg d ρ)).bind ps = .val (.nx ρ') ∧ I (k + 1) ρ') : ∃ ρ', psFor pi pg ps ρ0 = .val (.nx ρ') ∧ I l.length ρ' := by
  obtain ⟨ρ', e, h⟩ := for_ind I hs l 0 ρ0 rfl h0
  refine ⟨ρ', ?_, by rw [Nat.zero_add] at h; exact h⟩
  unfold psFor
  rw [h1]
  exact e
end
/-! ### steps -/
section
variable {ρ ρ1 : PEn} {v w x y z : PV} {a b c e : PE} {g : PV → Option PV} {g2 : G2} {s s2 : PS'} {t : PT} {i j : Nat} {f : PFn}
theorem ret_val (h : e ρ = .val v) (hw : retM v = some w) : psRet e ρ = .val (.rt w) := by unfold psRet; rw [h, bind_val, hw]
theorem fn_val (h : a ρ = .val x) (hg : g x = some v) : pFn g a ρ = .val v := by unfold pFn; rw [h, bind_val, hg]
theorem op_val (h : a ρ = .val x) (h2 : b ρ = .val y) (hg : g2 x y = some v) : pOp g2 a b ρ = .val v := by unfold pOp; rw [h, bind_val, h2, bind_val, hg]
theorem set_val (h : e ρ = .val v) (hw : stM v = some w) : psSet e i ρ = .val (.nx (ρ.set i (some w))) := by unfold psSet; rw [h, bind_val, hw]
theorem seq_nx (h : s ρ = .val (.nx ρ1)) : psSeq s s2 ρ = s2 ρ1 := by unfold psSeq; rw [h, bind_val]
theorem tst_val {q : Bool} (h : a ρ = .val (.im (.bl q))) : pTst a ρ = .val q := by unfold pTst; rw [h, bind_val]
theorem if_ff (h : t ρ = .val false) : psIf t s s2 ρ = s2 ρ := by unfold psIf; rw [h, bind_val]
theorem or_ff {t t2 : PT} (h : t ρ = .val false) : pOrT t t2 ρ = t2 ρ := by unfold pOrT; rw [h, bind_val]
theorem not_val {q : Bool} (h : t ρ = .val q) : pNotT t ρ = .val (!q) := by unfold pNotT; rw [h, bind_val]
theorem call1 (h : a ρ = .val x) (hx : argM x = some y) : pCall f (pCons a pNil) ρ = f [y] := by
  unfold pCall pCons pNil
  rw [h]
  show (match argMs [x] with | some ws => f ws | none => .bad) = _
  simp only [argMs, hx]
theorem def_rt {n m : Nat} {vs : List PV} (hn : vs.length = n) (h : s (vs.map some ++ List.replicate (m - n) none) = .val (.rt v)) : pDef n m s vs = .val v := by
  unfold pDef
  subst hn
  rw [Nat.beq_refl]
  show (s (vs.map some ++ List.replicate (m - vs.length) none)).bind _ = _
  rw [h]
  rfl
theorem gNe_of {q : Bool} (h : eqP x y = some q) : gNe x y = some (.im (.bl (!q))) := by unfold gNe; rw [h]
theorem gEq_of {q : Bool} (h : eqP x y = some q) : gEq x y = some (.im (.bl q)) := by unfold gEq; rw [h]
theorem ret_im {d : D} (h : e ρ = .val (.im d)) : psRet e ρ = .val (.rt (.im d)) := ret_val h rfl
theorem set_fr {l : List D} (h : e ρ = .val (.ls .fr l)) : psSet e i ρ = .val (.nx (ρ.set i (some (.ls .ow l)))) := set_val h rfl
theorem tup_ls {m : Md} {l : List D} (h : a ρ = .val (.ls m l)) : pFn hTuple a ρ = .val (.im (.tup l)) := fn_val h rfl
theorem len_tup {l : List D} (h : a ρ = .val (.im (.tup l))) : pFn hLen a ρ = .val (.im (.int (Int.ofNat l.length))) := fn_val h rfl
theorem store_val {d k : D} {u w : PV} (h : e ρ = .val (.im d)) (hu : ownAt ρ i = some u) (h2 : a ρ = .val (.im k)) (hp : putP u k d = some w) : psStore e i a ρ = .val (.nx (ρ.set i (some w))) := by
  unfold psStore; rw [h, bind_val]
  simp only [hu]
  rw [h2, bind_val]
  simp only [hp]
/-- if a != b: return False -/
theorem ne_ff (h : a ρ = .val x) (h2 : b ρ = .val y) (hq : eqP x y = some true) : pTst (pOp gNe a b) ρ = .val false := tst_val (op_val h h2 (gNe_of hq))
end
/-! ### rows of numbers -/
abbrev nI (n : Nat) : D := .int (Int.ofNat n)
def nR (t : List Nat) : D := .tup (t.map nI)
theorem range_nI : ∀ (n i : Nat), rangeD n (Int.ofNat i) = (List.range' i n).map nI
  | 0, _ => rfl
  | n + 1, i => by
    rw [rangeD, List.range'_succ, List.map_cons]
    congr 1
    exact range_nI n (i + 1)
theorem ix_nR {t : List Nat} {k : Nat} (h : k < t.length) : gIx (.im (nR t)) (.im (nI k)) = some (.im (nI (t[k]))) := by
  show (match (t.map nI)[k]? with | some d => some (PV.im d) | none => none) = _
  rw [List.getElem?_map, List.getElem?_eq_getElem h]
  rfl
theorem eqn_nI (k : Nat) (a b : Nat) : eqn k (nI a) (nI b) = decide (a = b) := by
  have e : eqn k (nI a) (nI b) = ieq (Int.ofNat a) (Int.ofNat b) := by cases k <;> rfl
  rw [e, ieq_dec]
  by_cases h : a = b
  · subst h; simp
  · rw [decide_eq_false h, decide_eq_false (fun z => h (Int.ofNat.inj z))]
theorem eqL_nI (k : Nat) : ∀ (s t : List Nat), eqL (eqn k) (s.map nI) (t.map nI) = decide (s = t)
  | [], [] => rfl
  | [], _ :: _ => rfl
  | _ :: _, [] => rfl
  | a :: s, b :: t => by
    rw [List.map_cons, List.map_cons]
    simp only [eqL, eqn_nI]
    by_cases h : a = b
    · subst h
      rw [decide_eq_true rfl]
      simp only [eqL_nI k s t]
      by_cases h2 : s = t
      · subst h2; simp
      · rw [decide_eq_false h2, decide_eq_false (fun z => h2 (List.cons.inj z).2)]
    · rw [decide_eq_false h, decide_eq_false (fun z => h (List.cons.inj z).1)]
theorem pur_nI (k : Nat) (t : List Nat) : (t.map nI).all (pur k) = true := by
  rw [List.all_eq_true]
  intro d hd
  obtain ⟨a, _, rfl⟩ := List.mem_map.mp hd
  cases k <;> rfl
theorem eqP_nL {m m' : Md} {s t : List Nat} : eqP (.ls m (s.map nI)) (.ls m' (t.map nI)) = some (decide (s = t)) := by
  have h1 : purs 8 (s.map nI) = true := pur_nI 8 s
  have h2 : purs 8 (t.map nI) = true := pur_nI 8 t
  simp only [eqP, h1, h2, eqL_nI]
theorem eqP_nI {a b : Nat} : eqP (.im (nI a)) (.im (nI b)) = some (decide (a = b)) := by
  have h3 : eqn 8 (nI a) (nI b) = decide (a = b) := eqn_nI 8 a b
  have h1 : pur 8 (nI a) = true := rfl
  have h2 : pur 8 (nI b) = true := rfl
  simp only [eqP, h1, h2, h3]
section
variable {α : Type} {B : Nat} {pi pi1 : PI'} {pg pg1 : PG'} {pt pt1 : PT} {pe pk pv : PE} {vs vs1 : List Nat} {ρ : PEn} {o : Option Nat}
theorem qst_val {p q : Bool} {l : List D} (h1 : pi ρ = .val (l, o)) (h2 : wipOk vs (wk o ρ) = true) (h4 : pqst p pg pt pe (wipP vs (wk o ρ)) l = .val q) : pQst p pi pg pt pe vs ρ = Rs.val (PV.im (.bl q)) := by
  unfold pQst
  rw [h1]
  show (match wipOk vs (wk o ρ) with | true => (nox (pqst p pg pt pe (wipP vs (wk o ρ)) l)).bind fun y => Rs.val (PV.im (.bl y)) | _ => .bad) = _
  rw [h2, h4]
  rfl
end
end PL

/-! the plain layer: isinstance of lists; loops over a list of values and lists; slots forgotten -/
namespace PL
open PySem PySem.Spec L2 DL
def pIsi (t : Bool) (a : PE) : PE := fun ρ => (a ρ).bind fun x => match x with
  | .im (.ref _) => .bad
  | .im d => match isTy t d with
    | some b => .val (.im (.bl b))
    | none => .bad
  | .ls _ _ => .val (.im (.bl false))
  | _ => .bad
theorem se_isiA {t : Bool} {a : CE} {pa : PE} (ha : SE a pa) : SE (cIsiA t a) (pIsi t pa) := by
  intro P0 b ρ σ η kv kx R h
  unfold cIsiA
  refine ha R (Rs.imp (Rs.bind_ok h) (fun x hx dx η1 f1 s1 n1 => ?_) (fun x hx η' f => hx η' f))
  have R1 := R.mono f1
  split at hx
  · exact hx.elim
  · rename_i d hd
    rw [show dx = d from s1]
    have e : isTyA t d η1 = isTy t d := by
      unfold isTyA
      split
      · exact absurd rfl (hd _)
      · rfl
    rw [e]
    cases e2 : isTy t d with
    | none => rw [e2] at hx; exact hx.elim
    | some q => rw [e2] at hx; exact hx (.bl q) η1 f1 rfl (fun z => nomatch z)
  · obtain ⟨r, rfl, l1, g1, _⟩ := (R1.view s1).lst
    have e : isTyA t (.ref r) η1 = some false := by
      unfold isTyA
      rcases list_cases g1 with q | q <;> simp only [q]
    rw [e]
    exact hx (.bl false) η1 f1 rfl (fun z => nomatch z)
  · exact hx.elim
/-- values that stay -/
def RE (P0 : Nat → Prop) (b : Nat) (η : Hd) : PV → D → Prop
  | .im e, d => d = e
  | .ls .lo l, d => ∃ r, d = .ref r ∧ r < b ∧ η.list r = some l ∧ ¬ P0 r
  | _, _ => False
inductive REs (P0 : Nat → Prop) (b : Nat) (η : Hd) : List PV → List D → Prop
  | nil : REs P0 b η [] []
  | cons {v : PV} {d : D} {vs : List PV} {ds : List D} (h : RE P0 b η v d) (r : REs P0 b η vs ds) : REs P0 b η (v :: vs) (d :: ds)
theorem RE.mono {P0 : Nat → Prop} {b : Nat} {η η' : Hd} {v : PV} {d : D} (f : Fs P0 b η η') (h : RE P0 b η v d) : RE P0 b η' v d := by
  cases v with
  | im _ => exact h
  | ls m l => cases m with
    | lo =>
      obtain ⟨r, z1, z2, z3, z4⟩ := h
      refine ⟨r, z1, z2, ?_, z4⟩
      rcases f.keep r z2 with e | ⟨_, l', e1, e2⟩
      · unfold Hd.list at z3 ⊢; rw [e]; exact z3
      · rw [list_lst e1] at z3; cases z3; exact list_frz e2
    | _ => exact h
  | dc m t l => exact h
  | cl c => exact h
  | ob c => exact h
theorem REs.mono {P0 : Nat → Prop} {b : Nat} {η η' : Hd} (f : Fs P0 b η η') : ∀ {vs : List PV} {ds : List D}, REs P0 b η vs ds → REs P0 b η' vs ds
  | _, _, .nil => .nil
  | _, _, .cons h r => .cons (h.mono f) (r.mono f)
theorem REs.len {P0 : Nat → Prop} {b : Nat} {η : Hd} : ∀ {vs : List PV} {ds : List D}, REs P0 b η vs ds → vs.length = ds.length
  | _, _, .nil => rfl
  | _, _, .cons h r => by rw [List.length_cons, List.length_cons, r.len]
section
variable {P0 : Nat → Prop} {b b' : Nat} {ρ : PEn} {σ : SD} {η η1 : Hd}
end
end PL

/-! the plain layer: the less of two, rows of noughts; the instance of Sums -/
namespace PL
open PySem PySem.Spec L2 DL
/-! ### Sums(lengths) -/
section
variable {P0 : Nat → Prop} {b : Nat} {ρ : PEn} {σ : SD} {η η1 : Hd}
end
/-- only the cell r is another -/
structure On (r : Nat) (η η' : Hd) : Prop where
  nx : η'.nx = η.nx
  ne : ∀ q, q ≠ r → η'.get q = η.get q
theorem On.refl (r : Nat) (η : Hd) : On r η η := ⟨rfl, fun _ _ => rfl⟩
theorem On.set {r : Nat} {η η' : Hd} {c : Cell} (h : On r η η') : On r η (η'.set r c) := ⟨h.nx, fun q z => by rw [get_set_ne z]; exact h.ne q z⟩
theorem Fr.on {P : Nat → Prop} {r : Nat} {η0 η η' : Hd} (f : Fr P η0 η) (h : On r η η') (hr : η0.nx ≤ r) : Fr P η0 η' := ⟨by rw [h.nx]; exact f.nx, fun q hq => by
  rw [h.ne q (by omega)]
  exact f.keep q hq⟩
section
variable {c r rt rl : Nat} {T : D} {x1 : Option D} {K : KS}
end
end PL

/-! the plain layer: two stores at once; sorted(d.items()) -/
namespace PL
open PySem PySem.Spec L2 DL
section
variable {P0 : Nat → Prop} {b : Nat} {ρ : PEn} {σ : SD} {η : Hd}
end
end PL

/-! the plain layer: sorted of one row alone -/
namespace PL
open PySem PySem.Spec L2 DL
end PL

/-! a dict with rows of rows of ints as keys: x in d, {k: v}, sorted(d) -/
namespace DL
open PySem PySem.Spec PyProof.Rows L2
section
variable {X : Cx} {N : Nm} {E : XK}
/-! ### in -/
/-! ### {k: v} -/
/-! ### sorted -/
end
end DL

/-! grids by a prime: wide ones cleared (printed by gencw.py) -/
namespace DL
open PySem PySem.Spec L2
section
variable {S : List Nat} {σ : SD} {η η0 η' : Hd} {A B C : CE}
/-- a list of rows -/
structure MtW (n wd R : Nat) (m : Mt) (η0 η : Hd) : Prop where
  qs : ∃ q : Nat → Nat, η.get R = some (.lst (tab n (fun i => .ref (q i)))) ∧ ∀ i, i < n → η.list (q i) = some (iRow wd (m i)) ∧ q i < η.nx ∧ q i ≠ R ∧ η0.nx ≤ q i
  R0 : η0.nx ≤ R
  R1 : R < η.nx
  gr : Gr [] η0 η
variable {n wd R : Nat} {m : Mt}
theorem MtW.mono (M : MtW n wd R m η0 η) (x : Gr [] η η') : MtW n wd R m η0 η' := by
  obtain ⟨q, h1, h2⟩ := M.qs
  exact ⟨⟨q, by rw [x.keep M.R1 (by simp)]; exact h1, fun i hi => by
    obtain ⟨a, b, c, d⟩ := h2 i hi
    exact ⟨x.list b a, Nat.lt_of_lt_of_le b x.1, c, d⟩⟩, M.R0, Nat.lt_of_lt_of_le M.R1 x.1, M.gr.trans x⟩
theorem MtW.ext {m' : Mt} (M : MtW n wd R m η0 η) (h : ∀ i c, i < n → c < wd → m i c = m' i c) : MtW n wd R m' η0 η := by
  obtain ⟨q, h1, h2⟩ := M.qs
  refine ⟨⟨q, h1, fun i hi => ?_⟩, M.R0, M.R1, M.gr⟩
  obtain ⟨a, b⟩ := h2 i hi
  refine ⟨?_, b⟩
  rw [a]
  congr 1
  exact tab_ext fun c hc => by rw [h i c hi hc]
/-- a row may be read alone from now on -/
theorem MtW.frz (M : MtW n wd R m η0 η) {q : Nat} (hq : q ≠ R) (h0 : η0.nx ≤ q) : MtW n wd R m η0 (frzd η (.ref q)) := by
  have key : ∀ p l, η.list p = some l → (frzd η (.ref q)).list p = some l := fun p l h => by
    simp only [frzd]
    split
    · rename_i l' e
      show (η.set q (.frz l')).list p = some l
      by_cases z : p = q
      · subst z
        rw [list_lst e] at h
        cases h
        exact list_frz (get_set_eq e)
      · unfold Hd.list; rw [get_set_ne z]; exact h
    · exact h
  obtain ⟨qs, h1, h2⟩ := M.qs
  refine ⟨⟨qs, ?_, fun i hi => ?_⟩, M.R0, by rw [frzd_nx]; exact M.R1, M.gr.frzN h0⟩
  · rcases frzd_ref η q with e | ⟨l, e⟩
    · rw [e]; exact h1
    · rw [e, get_set_ne (Ne.symm hq)]; exact h1
  · obtain ⟨a, b, c, d⟩ := h2 i hi
    exact ⟨key _ _ a, by rw [frzd_nx]; exact b, c, d⟩
/-- rows[k] -/
theorem MtW.row (M : MtW n wd R m η0 η) {k : Nat} (hk : k < n) (a : Ev A σ η (.ref R)) (b : Ev B σ η (.int (Int.ofNat k))) : ∃ q, Ev (cOp fIx A B) σ η (.ref q) ∧ η.list q = some (iRow wd (m k)) ∧ q < η.nx ∧ q ≠ R ∧ η0.nx ≤ q := by
  obtain ⟨q, h1, h2⟩ := M.qs
  exact ⟨q k, ev_ixL a (list_lst h1) b (tab_get hk), h2 k hk⟩
theorem MtW.len (M : MtW n wd R m η0 η) (a : Ev A σ η (.ref R)) : Ev (cFn (f1 gLenA) (cCons A cNil)) σ η (.int (Int.ofNat n)) := by
  obtain ⟨q, h1, _⟩ := M.qs
  have := ev_lenL a (list_lst h1)
  rw [tab_len] at this
  exact this
/-- rows[k] = a row -/
theorem MtW.set (M : MtW n wd R m η0 η) {k c : Nat} {f : Nat → Int} (hk : k < n) (hc : η.list c = some (iRow wd f)) (c1 : c < η.nx) (c2 : c ≠ R) (c3 : η0.nx ≤ c) : ∃ l, fSet (.ref R) (.int (Int.ofNat k)) (.ref c) η = some (η.set R (.lst l)) ∧ MtW n wd R (fun i => if i = k then f else m i) η0 (η.set R (.lst l)) := by
  obtain ⟨q, h1, h2⟩ := M.qs
  refine ⟨_, fSet_at h1 tab_len hk, ⟨fun i => if i = k then c else q i, ?_, fun i hi => ?_⟩, M.R0, M.R1, M.gr.setN M.R0⟩
  · rw [get_set_eq h1, tab_set]
    congr 2
    exact tab_ext fun i _ => by
      by_cases e : i = k
      · dsimp only; rw [if_pos e, if_pos e]
      · dsimp only; rw [if_neg e, if_neg e]
  · obtain ⟨a, b, d, e⟩ := h2 i hi
    have gl : ∀ p, p ≠ R → (η.set R (.lst ((tab n (fun i => .ref (q i))).set k (.ref c)))).list p = η.list p := fun p hp => by unfold Hd.list; rw [get_set_ne hp]
    by_cases z : i = k
    · dsimp only; rw [if_pos z, if_pos z, gl c c2]
      exact ⟨hc, c1, c2, c3⟩
    · dsimp only; rw [if_neg z, if_neg z, gl _ d]
      exact ⟨a, b, d, e⟩
end
section
variable {n wd R : Nat} {m m0 : Mt} {η η0 : Hd} {p : Int} {e : Nat} {det : Mt → Int}
end
section
variable {n wd R : Nat} {m m0 : Mt} {η η0 : Hd} {p : Int} {e : Nat} {I : Nat → Nat → Int → Mt → Prop}
end
end DL

/-! an attribute among the targets; list(dict); a def that is never left -/
namespace DL
open PySem PySem.Spec L2
section
variable {K : PySem.W.Frag} {X : Cx} {N : Nm} {E : XK}
/-! ### o.f as a target -/
/-! ### list(d) -/
/-! ### never -/
end
end DL

/-! any, all of two fors in the plain layer -/
namespace PL
open PySem PySem.Spec L2 DL
variable {g g1 : CG} {t t1 : CT} {e : CE} {i i1 : CI} {pg pg1 : PG'} {pt pt1 : PT} {pe : PE} {pi pi1 : PI'} {vs vs1 : List Nat}
end PL

/-! the plain layer: sorted of rows of rows -/
namespace PL
open PySem PySem.Spec L2 DL
end PL

/-! grids by a prime in the plain layer: cleared, square and wide -/
namespace PL
open PySem PySem.Spec L2 DL
/-- the left side less the right side times a grid -/
def lam (n : Nat) (m0 : Mt) (f : Nat → Int) (c : Nat) : Int := f c - sumTo n (fun k => f (n + k) * m0 k c)
section
variable {n : Nat} {m0 m : Mt} {p : Int} {e : Nat} {det : Mt → Int}
end
/-! ### cleared as a def -/
end PL

/-! turns as rows of numbers: one after the other, backward, what some make -/
namespace TN
noncomputable section
def nth (l : List Nat) (k : Nat) : Nat := List.rec (motive := fun _ => Nat → Nat) (fun _ => 0) (fun x _ ih k => Nat.rec x (fun k' _ => ih k') k) l k
theorem nth_succ {x : Nat} {l : List Nat} {k : Nat} : nth (x :: l) (k + 1) = nth l k := rfl
theorem nth_eq : ∀ (l : List Nat) (k : Nat), nth l k = l.getD k 0
  | [], k => rfl
  | x :: l, 0 => rfl
  | x :: l, k + 1 => by rw [nth_succ, nth_eq l k]; rfl
theorem nth_lt {t : List Nat} {k : Nat} (h : k < t.length) : nth t k = t[k] := by
  rw [nth_eq, List.getD_eq_getElem?_getD, List.getElem?_eq_getElem h]; rfl
theorem nth_mem {t : List Nat} {k : Nat} (h : k < t.length) : nth t k ∈ t := by rw [nth_lt h]; exact List.getElem_mem h
theorem nth_ext {a b : List Nat} (hl : a.length = b.length) (h : ∀ k, k < a.length → nth a k = nth b k) : a = b := by
  apply List.ext_getElem hl
  intro k h1 h2
  have := h k h1
  rw [nth_lt h1, nth_lt h2] at this
  exact this
theorem nth_range {n k : Nat} (h : k < n) : nth (List.range n) k = k := by
  rw [nth_lt (by rw [List.length_range]; exact h)]
  simp
theorem mem_nth {t : List Nat} {x : Nat} (h : x ∈ t) : ∃ k, k < t.length ∧ nth t k = x := by
  obtain ⟨k, hk, e⟩ := List.mem_iff_getElem.mp h
  exact ⟨k, hk, by rw [nth_lt hk]; exact e⟩
def aft (a b : List Nat) : List Nat := a.map fun k => nth b k
theorem aft_len {a b : List Nat} : (aft a b).length = a.length := by unfold aft; rw [List.length_map]
theorem nth_map {a : List Nat} {f : Nat → Nat} {k : Nat} (h : k < a.length) : nth (a.map f) k = f (nth a k) := by
  rw [nth_lt (by rw [List.length_map]; exact h), nth_lt h, List.getElem_map]
theorem nth_aft {a b : List Nat} {k : Nat} (h : k < a.length) : nth (aft a b) k = nth b (nth a k) := nth_map h
def Pm (n : Nat) (t : List Nat) : Prop := t.Perm (List.range n)
theorem Pm.len {n : Nat} {t : List Nat} (h : Pm n t) : t.length = n := by have := h.length_eq; rwa [List.length_range] at this
theorem Pm.lt {n : Nat} {t : List Nat} (h : Pm n t) : ∀ k ∈ t, k < n := fun k hk => List.mem_range.mp (h.subset hk)
theorem Pm.nlt {n k : Nat} {t : List Nat} (h : Pm n t) (hk : k < n) : nth t k < n := h.lt _ (nth_mem (by rw [h.len]; exact hk))
theorem Pm.nd {n : Nat} {t : List Nat} (h : Pm n t) : t.Nodup := (List.Perm.nodup_iff h).mpr List.nodup_range
theorem Pm.id (n : Nat) : Pm n (List.range n) := .refl _
theorem nd_inj {t : List Nat} (h : t.Nodup) {i j : Nat} (hi : i < t.length) (hj : j < t.length) (e : nth t i = nth t j) : i = j := by
  rw [nth_lt hi, nth_lt hj] at e
  exact (List.getElem_inj h).mp e
theorem Pm.inj {n : Nat} {t : List Nat} (h : Pm n t) {i j : Nat} (hi : i < n) (hj : j < n) (e : nth t i = nth t j) : i = j :=
  nd_inj h.nd (by rw [h.len]; exact hi) (by rw [h.len]; exact hj) e
/-! ### as many as there are -/
theorem nodup_perm {α : Type} [DecidableEq α] : ∀ {l m : List α}, l.Nodup → (∀ x ∈ l, x ∈ m) → m.length ≤ l.length → l.Perm m
  | [], m, _, _, h => by
    have : m = [] := List.length_eq_zero_iff.mp (Nat.le_zero.mp h)
    rw [this]
  | x :: l, m, hd, hs, hl => by
    obtain ⟨h1, h2⟩ := List.nodup_cons.mp hd
    have hx := hs x (.head _)
    have e := List.length_erase_of_mem hx
    have hp : 0 < m.length := List.length_pos_of_mem hx
    rw [List.length_cons] at hl
    have ih := nodup_perm (l := l) (m := m.erase x) h2 (fun y hy => (List.mem_erase_of_ne (fun z => h1 (by rw [← z]; exact hy))).mpr (hs y (.tail _ hy))) (by omega)
    exact (ih.cons x).trans (List.perm_cons_erase hx).symm
theorem pm_of {n : Nat} {t : List Nat} (hl : t.length = n) (hlt : ∀ k, k < n → nth t k < n) (hi : ∀ i j, i < n → j < n → nth t i = nth t j → i = j) : Pm n t := by
  have nd : t.Nodup := by
    rw [List.nodup_iff_pairwise_ne, List.pairwise_iff_getElem]
    intro i j h1 h2 hij e
    rw [← nth_lt h1, ← nth_lt h2] at e
    have := hi i j (by omega) (by omega) e
    omega
  refine nodup_perm nd (fun x hx => ?_) (by rw [List.length_range]; omega)
  obtain ⟨k, hk, e⟩ := mem_nth hx
  rw [← e]
  exact List.mem_range.mpr (hlt k (by omega))
theorem Pm.aft {n : Nat} {a b : List Nat} (ha : Pm n a) (hb : Pm n b) : Pm n (aft a b) := by
  refine pm_of (by rw [aft_len, ha.len]) (fun k hk => ?_) (fun i j hi hj e => ?_)
  · rw [nth_aft (by rw [ha.len]; exact hk)]; exact hb.nlt (ha.nlt hk)
  · rw [nth_aft (by rw [ha.len]; exact hi), nth_aft (by rw [ha.len]; exact hj)] at e
    exact ha.inj hi hj (hb.inj (ha.nlt hi) (ha.nlt hj) e)
theorem aft_assoc {n : Nat} {a b c : List Nat} (ha : Pm n a) (hb : Pm n b) : aft (aft a b) c = aft a (aft b c) := by
  refine nth_ext (by rw [aft_len, aft_len, aft_len]) fun k hk => ?_
  rw [aft_len, aft_len] at hk
  rw [nth_aft (by rw [aft_len]; exact hk), nth_aft hk, nth_aft hk, nth_aft (by rw [hb.len]; exact ha.nlt (by rw [← ha.len]; exact hk))]
theorem one_aft {n : Nat} {b : List Nat} (h : Pm n b) : aft (List.range n) b = b := by
  refine nth_ext (by rw [aft_len, List.length_range, h.len]) fun k hk => ?_
  rw [aft_len, List.length_range] at hk
  rw [nth_aft (by rw [List.length_range]; exact hk), nth_range hk]
theorem aft_one {n : Nat} {a : List Nat} (h : Pm n a) : aft a (List.range n) = a := by
  refine nth_ext aft_len fun k hk => ?_
  rw [aft_len] at hk
  rw [nth_aft hk, nth_range (h.nlt (by rw [← h.len]; exact hk))]
/-! ### backward -/
def bckK (a : List Nat) (k : Nat) : List Nat := (List.range k).foldl (fun f i => f.set (nth a i) i) (List.replicate a.length 0)
def bck (a : List Nat) : List Nat := bckK a a.length
theorem bckK_succ (a : List Nat) (k : Nat) : bckK a (k + 1) = (bckK a k).set (nth a k) k := by
  unfold bckK
  rw [List.range_succ, List.foldl_append]
  rfl
theorem bckK_len (a : List Nat) : ∀ k, (bckK a k).length = a.length
  | 0 => by simp [bckK]
  | k + 1 => by rw [bckK_succ, List.length_set, bckK_len a k]
theorem nth_set {l : List Nat} {i j x : Nat} (hj : j < l.length) : nth (l.set i x) j = if i = j then x else nth l j := by
  rw [nth_lt (by rw [List.length_set]; exact hj), nth_lt hj, List.getElem_set]
theorem bckK_at {n : Nat} {a : List Nat} (h : Pm n a) : ∀ (k : Nat), k ≤ n → ∀ i, i < k → nth (bckK a k) (nth a i) = i
  | 0, _, i, hi => absurd hi (by omega)
  | k + 1, hk, i, hi => by
    have hl : nth a i < (bckK a k).length := by rw [bckK_len, h.len]; exact h.nlt (by omega)
    rw [bckK_succ, nth_set hl]
    by_cases e : nth a k = nth a i
    · rw [if_pos e]; exact h.inj (by omega) (by omega) e
    · rw [if_neg e]
      exact bckK_at h k (by omega) i (by
        rcases Nat.lt_succ_iff_lt_or_eq.mp hi with q | q
        · exact q
        · exact absurd (by rw [q]) e)
theorem bck_at {n : Nat} {a : List Nat} (h : Pm n a) {i : Nat} (hi : i < n) : nth (bck a) (nth a i) = i := by
  unfold bck
  exact bckK_at h a.length (by rw [h.len]; exact Nat.le_refl _) i (by rw [h.len]; exact hi)
theorem Pm.at_ {n : Nat} {a : List Nat} (h : Pm n a) {x : Nat} (hx : x < n) : ∃ i, i < n ∧ nth a i = x := by
  obtain ⟨k, hk, e⟩ := mem_nth (h.mem_iff.mpr (List.mem_range.mpr hx))
  exact ⟨k, by rw [← h.len]; exact hk, e⟩
theorem at_bck {n : Nat} {a : List Nat} (h : Pm n a) {x : Nat} (hx : x < n) : nth a (nth (bck a) x) = x := by
  obtain ⟨i, hi, rfl⟩ := h.at_ hx
  rw [bck_at h hi]
theorem bck_len {a : List Nat} : (bck a).length = a.length := bckK_len a _
theorem Pm.bck {n : Nat} {a : List Nat} (h : Pm n a) : Pm n (bck a) := by
  refine pm_of (by rw [bck_len, h.len]) (fun k hk => ?_) (fun i j hi hj e => ?_)
  · obtain ⟨i, hi, rfl⟩ := h.at_ hk
    rw [bck_at h hi]; exact hi
  · have := congrArg (nth a) e
    rw [at_bck h hi, at_bck h hj] at this
    exact this
theorem aft_bck {n : Nat} {a : List Nat} (h : Pm n a) : aft a (bck a) = List.range n := by
  refine nth_ext (by rw [aft_len, List.length_range, h.len]) fun k hk => ?_
  rw [aft_len, h.len] at hk
  rw [nth_aft (by rw [h.len]; exact hk), bck_at h hk, nth_range hk]
theorem bck_aft {n : Nat} {a : List Nat} (h : Pm n a) : aft (bck a) a = List.range n := by
  refine nth_ext (by rw [aft_len, List.length_range, bck_len, h.len]) fun k hk => ?_
  rw [aft_len, bck_len, h.len] at hk
  rw [nth_aft (by rw [bck_len, h.len]; exact hk), at_bck h hk, nth_range hk]
theorem canc_r {n : Nat} {a b c : List Nat} (ha : Pm n a) (hb : Pm n b) (hc : Pm n c) (e : aft a c = aft b c) : a = b := by
  have := congrArg (fun z => aft z (bck c)) e
  rw [aft_assoc ha hc, aft_assoc hb hc, aft_bck hc, aft_one ha, aft_one hb] at this
  exact this
/-! ### all turns in a row -/
def ins (x : Nat) : List Nat → List (List Nat)
  | [] => [[x]]
  | y :: l => (x :: y :: l) :: (ins x l).map (y :: ·)
def perms : List Nat → List (List Nat)
  | [] => [[]]
  | x :: l => (perms l).flatMap (ins x)
theorem ins_mid (x : Nat) : ∀ (p q : List Nat), p ++ x :: q ∈ ins x (p ++ q)
  | [], [] => .head _
  | [], y :: q => .head _
  | y :: p, q => .tail _ (List.mem_map.mpr ⟨_, ins_mid x p q, rfl⟩)
theorem mem_perms : ∀ {l t : List Nat}, t.Perm l → t ∈ perms l
  | [], t, h => by rw [List.perm_nil.mp h]; exact .head _
  | x :: l, t, h => by
    have hx : x ∈ t := h.mem_iff.mpr (.head _)
    obtain ⟨p, q, rfl⟩ := List.append_of_mem hx
    have h2 : (p ++ q).Perm l := by
      have : (x :: (p ++ q)).Perm (x :: l) := (List.perm_middle (l₁ := p) (l₂ := q) (a := x)).symm.trans h
      exact (List.perm_cons x).mp this
    exact List.mem_flatMap.mpr ⟨p ++ q, mem_perms h2, ins_mid x p q⟩
/-! ### what some turns make -/
inductive Gen (n : Nat) (S : List (List Nat)) : List Nat → Prop
  | one : Gen n S (List.range n)
  | mul {t s : List Nat} (h : Gen n S t) (hs : s ∈ S) : Gen n S (aft t s)
section
variable {n : Nat} {S T : List (List Nat)} {t u : List Nat}
theorem Gen.pm (hS : ∀ s ∈ S, Pm n s) (h : Gen n S t) : Pm n t := by
  induction h with
  | one => exact Pm.id n
  | mul h hs ih => exact ih.aft (hS _ hs)
theorem Gen.of (hS : ∀ s ∈ S, Pm n s) (h : t ∈ S) : Gen n S t := by
  have := Gen.mul (n := n) .one h
  rwa [one_aft (hS _ h)] at this
theorem Gen.aft (hS : ∀ s ∈ S, Pm n s) (h : Gen n S t) (h2 : Gen n S u) : Gen n S (aft t u) := by
  induction h2 with
  | one => rw [aft_one (h.pm hS)]; exact h
  | mul g hs ih => rw [← aft_assoc (h.pm hS) (g.pm hS)]; exact .mul ih hs
theorem Gen.trans (hT : ∀ s ∈ T, Pm n s) (h : Gen n S t) (hs : ∀ s ∈ S, Gen n T s) : Gen n T t := by
  induction h with
  | one => exact .one
  | mul g hm ih => exact ih.aft hT (hs _ hm)
theorem Gen.mono (h : Gen n S t) (hs : ∀ s ∈ S, s ∈ T) : Gen n T t := by
  induction h with
  | one => exact .one
  | mul g hm ih => exact .mul ih (hs _ hm)
def dd : List (List Nat) → List (List Nat)
  | [] => []
  | x :: l => if x ∈ dd l then dd l else x :: dd l
theorem mem_dd : ∀ {l : List (List Nat)} {x : List Nat}, x ∈ dd l ↔ x ∈ l
  | [], x => Iff.rfl
  | y :: l, x => by
    unfold dd
    split
    · rename_i h
      rw [mem_dd, List.mem_cons]
      exact ⟨.inr, fun z => z.elim (fun e => by rw [e]; exact mem_dd.mp h) id⟩
    · rw [List.mem_cons, List.mem_cons, mem_dd]
theorem nd_dd : ∀ l : List (List Nat), (dd l).Nodup
  | [] => List.nodup_nil
  | y :: l => by
    unfold dd
    split
    · exact nd_dd l
    · rename_i h; exact List.nodup_cons.mpr ⟨h, nd_dd l⟩
theorem map_nodup {α β : Type} {f : α → β} : ∀ {l : List α}, l.Nodup → (∀ x ∈ l, ∀ y ∈ l, f x = f y → x = y) → (l.map f).Nodup
  | [], _, _ => List.nodup_nil
  | x :: l, h, hi => by
    obtain ⟨h1, h2⟩ := List.nodup_cons.mp h
    rw [List.map_cons]
    refine List.nodup_cons.mpr ⟨fun z => ?_, map_nodup h2 fun a ha b hb => hi a (.tail _ ha) b (.tail _ hb)⟩
    obtain ⟨y, hy, e⟩ := List.mem_map.mp z
    have := hi y (.tail _ hy) x (.head _) e
    subst this
    exact h1 hy
open Classical in
theorem Gen.bck (hS : ∀ s ∈ S, Pm n s) (h : Gen n S t) : Gen n S (bck t) := by
  have ht := h.pm hS
  let L := dd ((perms (List.range n)).filter fun x => decide (Gen n S x))
  have mem : ∀ x, x ∈ L ↔ Gen n S x := fun x => by
    show x ∈ dd _ ↔ _
    rw [mem_dd, List.mem_filter]
    exact ⟨fun z => of_decide_eq_true z.2, fun z => ⟨mem_perms (z.pm hS), decide_eq_true z⟩⟩
  have p := nodup_perm (l := L.map fun x => TN.aft x t) (m := L) (map_nodup (nd_dd _) fun x hx y hy e => canc_r (((mem x).mp hx).pm hS) (((mem y).mp hy).pm hS) ht e)
    (fun x hx => by obtain ⟨y, hy, rfl⟩ := List.mem_map.mp hx; exact (mem _).mpr (((mem y).mp hy).aft hS h)) (by rw [List.length_map]; exact Nat.le_refl _)
  obtain ⟨x, hx, e⟩ := List.mem_map.mp (p.mem_iff.mpr ((mem _).mpr .one))
  have hx := (mem x).mp hx
  have : x = TN.bck t := canc_r (hx.pm hS) ht.bck ht (e.trans (bck_aft ht).symm)
  rw [← this]
  exact hx
end
end
end TN

/-! chains of stabilisers, in plain words: what is computed -/
namespace CH
open TN
noncomputable section
/-- a level: its place, makers, a turn to each place of the orbit -/
structure Lv where
  pl : Nat
  gs : List (List Nat)
  ws : List (Nat × List Nat)
def lk (k : Nat) : List (Nat × List Nat) → Option (List Nat)
  | [] => none
  | p :: l => match Nat.beq p.1 k with
    | true => some p.2
    | false => lk k l
def lpOf (ws : List (Nat × List Nat)) (h : Nat) (m : List Nat) : Option (List Nat) := match lk h ws, lk (nth m h) ws with
  | some u, some u' => some (aft (aft u m) (bck u'))
  | _, _ => none
section
variable (n : Nat)
/-- all turns, from the deepest level's ways on -/
def els : List Lv → List (List Nat)
  | [] => [List.range n]
  | v :: vs => (els vs).flatMap fun s => v.ws.map fun p => aft s p.2
end
def mkOf : List Lv → List (List Nat)
  | [] => []
  | v :: _ => v.gs
/-! ### what holds -/
def Fix (ps : List Nat) (t : List Nat) : Prop := ∀ p ∈ ps, nth t p = p
structure Orb (n : Nat) (v : Lv) : Prop where
  nd : (v.ws.map (·.1)).Nodup
  base : (v.pl, List.range n) ∈ v.ws
  ok : ∀ p ∈ v.ws, Gen n v.gs p.2 ∧ nth p.2 v.pl = p.1
  cl : ∀ p ∈ v.ws, ∀ m ∈ v.gs, ∃ u, (nth m p.1, u) ∈ v.ws
inductive Good (n : Nat) : List Nat → List Lv → Prop
  | nil {ps} : Good n ps []
  | cons {ps v vs} (hp : v.pl < n) (hn : v.pl ∉ ps) (hm : ∀ m ∈ v.gs, Pm n m ∧ Fix ps m) (ho : Orb n v) (hg : Good n (v.pl :: ps) vs) (hs : ∀ m ∈ mkOf vs, Gen n v.gs m)
      (hl : ∀ p ∈ v.ws, ∀ m ∈ v.gs, ∀ g, lpOf v.ws p.1 m = some g → Gen n (mkOf vs) g) (hz : 2 ^ v.gs.length ≤ (els n (v :: vs)).length) : Good n ps (v :: vs)
section
variable {n : Nat} {ps : List Nat} {v : Lv} {vs : List Lv} {t u : List Nat}
theorem Fix.gen {S : List (List Nat)} (hS : ∀ s ∈ S, Pm n s ∧ Fix ps s) (hp : ∀ p ∈ ps, p < n) (h : Gen n S t) : Fix ps t := by
  induction h with
  | one => exact fun p h => nth_range (hp p h)
  | mul g hs ih =>
    intro p h
    rw [nth_aft (by rw [(g.pm fun s h => (hS s h).1).len]; exact hp p h), ih p h, (hS _ hs).2 p h]
theorem Fix.bck (ht : Pm n t) (hp : ∀ p ∈ ps, p < n) (h : Fix ps t) : Fix ps (bck t) := fun p hm => by
  have e := bck_at ht (hp p hm)
  rw [h p hm] at e
  exact e
theorem Fix.aft (ht : Pm n t) (hp : ∀ p ∈ ps, p < n) (h : Fix ps t) (h2 : Fix ps u) : Fix ps (aft t u) := fun p hm => by
  rw [nth_aft (by rw [ht.len]; exact hp p hm), h p hm, h2 p hm]
theorem Good.mk (h : Good n ps vs) : ∀ m ∈ mkOf vs, Pm n m ∧ Fix ps m := by
  cases h with
  | nil => intro m hm; cases hm
  | cons hp hn hm _ _ _ _ _ => exact hm
theorem Good.pm (h : Good n ps vs) : ∀ m ∈ mkOf vs, Pm n m := fun m hm => (h.mk m hm).1
/-! ### sizes -/
theorem len_le {l : List Nat} (h : l.Nodup) (hl : ∀ x ∈ l, x < n) : l.length ≤ n := by
  have := nodup_len h (m := List.range n) fun x hx => List.mem_range.mpr (hl x hx)
  rwa [List.length_range] at this
where nodup_len {α : Type} [DecidableEq α] : ∀ {l m : List α}, l.Nodup → (∀ x ∈ l, x ∈ m) → l.length ≤ m.length
  | [], m, _, _ => Nat.zero_le _
  | x :: l, m, hd, hs => by
    obtain ⟨h1, h2⟩ := List.nodup_cons.mp hd
    have hx := hs x (.head _)
    have e := List.length_erase_of_mem hx
    have hp : 0 < m.length := List.length_pos_of_mem hx
    have ih := nodup_len (l := l) (m := m.erase x) h2 fun y hy => (List.mem_erase_of_ne (fun z => h1 (by rw [← z]; exact hy))).mpr (hs y (.tail _ hy))
    rw [List.length_cons]
    omega
theorem Good.len (h : Good n ps vs) : (∀ p ∈ ps, p < n) → ps.Nodup → vs.length + ps.length ≤ n := by
  induction h with
  | nil =>
    intro h1 h2
    have := len_le h2 h1
    simpa using this
  | @cons ps v vs hp hn hm ho hg hs hl hz ih =>
    intro h1 h2
    have := ih (fun p h => by cases h with | head => exact hp | tail _ h => exact h1 p h) (List.nodup_cons.mpr ⟨hn, h2⟩)
    rw [List.length_cons] at this ⊢
    omega
end
end
end CH

/-! chains of stabilisers: what is computed is right -/
namespace CH
open TN
noncomputable section
section
variable {n : Nat} {ps : List Nat} {v : Lv} {vs : List Lv} {t u : List Nat}
def keys (ws : List (Nat × List Nat)) : List Nat := ws.map (·.1)
section
variable {A : List Lv → List Nat → Option (List Lv)} {mk : List (List Nat)} {ws : List (Nat × List Nat)} {pl : Nat}
end
end
/-! ### all makers, one after another -/
end
end CH

/-! chains in the heap: what a chain's cells are -/
namespace CH
open PySem PySem.Spec L2 DL TN PL
/-! ### cells that are known -/
structure Cs (η : Hd) (L : List (Nat × Cell)) : Prop where
  get : ∀ p ∈ L, η.get p.1 = some p.2
  nd : (L.map (·.1)).Nodup
  lt : ∀ p ∈ L, p.1 < η.nx
section
variable {η η' η1 η2 : Hd} {L L' L1 L2 : List (Nat × Cell)} {q : Nat} {c c' : Cell} {F F1 F2 : List Nat}
theorem Cs.mono (C : Cs η L) (hn : η.nx ≤ η'.nx) (hk : ∀ p ∈ L, η'.get p.1 = η.get p.1) : Cs η' L := ⟨fun p hp => (hk p hp).trans (C.get p hp), C.nd, fun p hp => Nat.lt_of_lt_of_le (C.lt p hp) hn⟩
theorem Cs.tail {p : Nat × Cell} (C : Cs η (p :: L)) : Cs η L := ⟨fun x hx => C.get x (.tail _ hx), (List.nodup_cons.mp C.nd).2, fun x hx => C.lt x (.tail _ hx)⟩
theorem Cs.set (C : Cs η ((q, c) :: L)) : Cs (η.set q c') ((q, c') :: L) := by
  obtain ⟨n1, n2⟩ := List.nodup_cons.mp C.nd
  refine ⟨fun p hp => ?_, List.nodup_cons.mpr ⟨n1, n2⟩, fun p hp => ?_⟩
  · rcases List.mem_cons.mp hp with e | hp
    · subst e; exact get_set_eq (C.get _ (.head _))
    · rw [get_set_ne (fun e => n1 (List.mem_map.mpr ⟨p, hp, e⟩))]
      exact C.get p (.tail _ hp)
  · rcases List.mem_cons.mp hp with e | hp
    · subst e; exact C.lt (q, c) (.head _)
    · exact C.lt p (.tail _ hp)
theorem Cs.new (C : Cs η L) : Cs (η.new c) ((η.nx, c) :: L) := by
  refine ⟨fun p hp => ?_, List.nodup_cons.mpr ⟨fun h => ?_, C.nd⟩, fun p hp => ?_⟩
  · rcases List.mem_cons.mp hp with e | hp
    · subst e; exact get_new_eq
    · rw [get_new_ne (C.lt p hp)]; exact C.get p hp
  · obtain ⟨p, hp, e⟩ := List.mem_map.mp h
    have := C.lt p hp
    have e : p.1 = η.nx := e
    omega
  · rcases List.mem_cons.mp hp with e | hp
    · subst e; exact Nat.lt_succ_self _
    · exact Nat.lt_succ_of_lt (C.lt p hp)
/-- a cell that was made meanwhile -/
theorem Cs.cons (C : Cs η L) (hg : η.get q = some c) (hq : q < η.nx) (hn : ∀ p ∈ L, p.1 ≠ q) : Cs η ((q, c) :: L) :=
  ⟨fun p hp => by rcases List.mem_cons.mp hp with e | hp
                  · subst e; exact hg
                  · exact C.get p hp, List.nodup_cons.mpr ⟨fun h => by obtain ⟨p, hp, e⟩ := List.mem_map.mp h; exact hn p hp e, C.nd⟩, fun p hp => by
    rcases List.mem_cons.mp hp with e | hp
    · subst e; exact hq
    · exact C.lt p hp⟩
theorem Cs.ne (C : Cs η ((q, c) :: L)) {p : Nat × Cell} (hp : p ∈ L) : p.1 ≠ q := fun e => (List.nodup_cons.mp C.nd).1 (List.mem_map.mpr ⟨p, hp, e⟩)
/-- what changes stands in F, then in F1; new cells may have come to it -/
structure Aft (η : Hd) (F F1 : List Nat) (η1 : Hd) : Prop where
  nx : η.nx ≤ η1.nx
  keep : ∀ q, q < η.nx → q ∉ F → η1.get q = η.get q
  new : ∀ q, q ∈ F1 → q ∈ F ∨ η.nx ≤ q
theorem Aft.refl (η : Hd) (F : List Nat) : Aft η F F η := ⟨Nat.le_refl _, fun _ _ _ => rfl, fun _ h => .inl h⟩
theorem Aft.trans (a : Aft η F F1 η1) (b : Aft η1 F1 F2 η2) : Aft η F F2 η2 := ⟨Nat.le_trans a.nx b.nx, fun q hq hf => (b.keep q (Nat.lt_of_lt_of_le hq a.nx) fun h => (a.new q h).elim hf fun z => by omega).trans (a.keep q hq hf), fun q h => by
  rcases b.new q h with h | h
  · exact a.new q h
  · exact .inr (Nat.le_trans a.nx h)⟩
theorem Aft.sub (a : Aft η F F1 η1) (h : ∀ q ∈ F2, q ∈ F1) : Aft η F F2 η1 := ⟨a.nx, a.keep, fun q hq => a.new q (h q hq)⟩
/-- cells beside -/
theorem Cs.aft {L0 : List (Nat × Cell)} (C : Cs η (L0 ++ L)) (a : Aft η (L.map (·.1)) (L'.map (·.1)) η') (C' : Cs η' L') : Cs η' (L0 ++ L') := by
  have nd := C.nd
  rw [List.map_append, List.nodup_append] at nd
  obtain ⟨n1, n2, n3⟩ := nd
  have l0 : ∀ p ∈ L0, p.1 < η.nx ∧ p.1 ∉ L.map (·.1) := fun p hp => ⟨C.lt p (List.mem_append_left _ hp), fun h => n3 _ (List.mem_map.mpr ⟨p, hp, rfl⟩) _ h rfl⟩
  refine ⟨fun p hp => ?_, ?_, fun p hp => ?_⟩
  · rcases List.mem_append.mp hp with hp | hp
    · rw [a.keep _ (l0 p hp).1 (l0 p hp).2]; exact C.get p (List.mem_append_left _ hp)
    · exact C'.get p hp
  · rw [List.map_append, List.nodup_append]
    refine ⟨n1, C'.nd, fun x hx y hy e => ?_⟩
    subst e
    obtain ⟨p, hp, rfl⟩ := List.mem_map.mp hx
    rcases a.new _ hy with h | h
    · exact (l0 p hp).2 h
    · have := (l0 p hp).1; omega
  · rcases List.mem_append.mp hp with hp | hp
    · exact Nat.lt_of_lt_of_le (l0 p hp).1 a.nx
    · exact C'.lt p hp
end
/-! ### a chain's cells -/
def wD (ws : List (Nat × List Nat)) : List (D × D) := ws.map fun p => (nI p.1, nR p.2)
structure HL where
  a : Nat
  m : Nat
  w : Nat
  v : Lv
def cA (cl : Nat) (h : HL) : Cell := .ins cl [(0, nI h.v.pl), (1, .ref h.m), (2, .ref h.w)]
def blk (cl : Nat) (h : HL) : List (Nat × Cell) := [(h.a, cA cl h), (h.m, .lst (h.v.gs.map nR)), (h.w, .dct false (wD h.v.ws))]
def blks (cl : Nat) (hs : List HL) : List (Nat × Cell) := hs.flatMap (blk cl)
def cCh (cc n : Nat) (mk : D) (rl : Nat) : Cell := .ins cc [(3, nI n), (1, mk), (4, .ref rl)]
def cells (cc cl n : Nat) (mk : D) (r rl : Nat) (hs : List HL) : List (Nat × Cell) := (r, cCh cc n mk rl) :: (rl, .lst (hs.map fun h => .ref h.a)) :: blks cl hs
def foot (r rl : Nat) (hs : List HL) : List Nat := r :: rl :: hs.flatMap fun h => [h.a, h.m, h.w]
/-! ### looking up -/
section
variable {σ : SD} {η : Hd} {A B : CE} {t u : List Nat} {k r : Nat} {ws : List (Nat × List Nat)}
end
end CH

/-! chains in the heap: sifted -/
namespace CH
open PySem PySem.Spec L2 DL TN PL
structure Kn (n : Nat) (Fst Fck Faf Fba : CF) : Prop where
  st : ∀ η, Fl [] Fst [nI n] η (nR (List.range n))
  ck : ∀ η t, Pm n t → Fl [] Fck [nR t, nI n] η .non
  af : ∀ η t u, Pm n t → Pm n u → Fl [] Faf [nR t, nR u] η (nR (aft t u))
  ba : ∀ η t, Pm n t → Fl [] Fba [nR t] η (nR (bck t))
section
variable {n cc cl r rl : Nat} {mk : D} {Fst Fck Faf Fba : CF} {hs hu hv : List HL} {h : HL} {η η' : Hd} {σ : SD} {A : CE}
theorem Cs.ch (C : Cs η (cells cc cl n mk r rl hs)) : η.get r = some (cCh cc n mk rl) := C.get _ (.head _)
theorem Cs.ls (C : Cs η (cells cc cl n mk r rl hs)) : η.get rl = some (.lst (hs.map fun h => .ref h.a)) := C.get _ (.tail _ (.head _))
theorem mem_blks (hm : h ∈ hs) {p : Nat × Cell} (hp : p ∈ blk cl h) : p ∈ cells cc cl n mk r rl hs := .tail _ (.tail _ (List.mem_flatMap.mpr ⟨h, hm, hp⟩))
theorem Cs.la (C : Cs η (cells cc cl n mk r rl hs)) (hm : h ∈ hs) : η.get h.a = some (cA cl h) := C.get _ (mem_blks hm (.head _))
theorem Cs.lm (C : Cs η (cells cc cl n mk r rl hs)) (hm : h ∈ hs) : η.get h.m = some (.lst (h.v.gs.map nR)) := C.get _ (mem_blks hm (.tail _ (.head _)))
theorem Cs.lw (C : Cs η (cells cc cl n mk r rl hs)) (hm : h ∈ hs) : η.get h.w = some (.dct false (wD h.v.ws)) := C.get _ (mem_blks hm (.tail _ (.tail _ (.head _))))
/-- a chain that is read alone -/
structure Rd (cc cl n : Nat) (mk : D) (r rl : Nat) (hs : List HL) (η : Hd) : Prop where
  ch : η.get r = some (cCh cc n mk rl)
  ls : η.list rl = some (hs.map fun h => .ref h.a)
  la : ∀ h ∈ hs, η.get h.a = some (cA cl h)
  lm : ∀ h ∈ hs, η.list h.m = some (h.v.gs.map nR)
  lw : ∀ h ∈ hs, η.get h.w = some (.dct false (wD h.v.ws))
  lt : ∀ q ∈ foot r rl hs, q < η.nx
theorem mem_foot {hs : List HL} {h : HL} (hm : h ∈ hs) {q : Nat} (hq : q = h.a ∨ q = h.m ∨ q = h.w) : q ∈ foot r rl hs := .tail _ (.tail _ (List.mem_flatMap.mpr ⟨h, hm, by rcases hq with rfl | rfl | rfl <;> simp⟩))
theorem Rd.fr {P : Nat → Prop} (C : Rd cc cl n mk r rl hs η) (f : Fr P η η') : Rd cc cl n mk r rl hs η' :=
  ⟨f.get (C.lt _ (.head _)) C.ch (fun _ e => nomatch e), f.list (C.lt _ (.tail _ (.head _))) C.ls, fun h hm => f.get (C.lt _ (mem_foot hm (.inl rfl))) (C.la h hm) (fun _ e => nomatch e),
   fun h hm => f.list (C.lt _ (mem_foot hm (.inr (.inl rfl)))) (C.lm h hm), fun h hm => f.get (C.lt _ (mem_foot hm (.inr (.inr rfl)))) (C.lw h hm) (fun _ e => nomatch e), fun q hq => Nat.lt_of_lt_of_le (C.lt q hq) f.1⟩
/-! ### sifted -/
end
end CH

/-! chains in the heap: a level's ways anew -/
namespace CH
open PySem PySem.Spec L2 DL TN PL
structure Kp (N : Nat) (F : List Nat) (η η' : Hd) : Prop where
  nx : η.nx ≤ η'.nx
  keep : ∀ q, q < N → q ∉ F → η'.get q = η.get q
section
variable {N : Nat} {F : List Nat} {η η' η1 η2 : Hd} {q : Nat} {c : Cell}
theorem Kp.refl : Kp N F η η := ⟨Nat.le_refl _, fun _ _ _ => rfl⟩
theorem Kp.trans (a : Kp N F η η1) (b : Kp N F η1 η2) : Kp N F η η2 := ⟨Nat.le_trans a.1 b.1, fun q h1 h2 => (b.2 q h1 h2).trans (a.2 q h1 h2)⟩
theorem Kp.new (h : N ≤ η.nx) : Kp N F η (η.new c) := ⟨Nat.le_succ _, fun p h1 _ => get_new_ne (Nat.lt_of_lt_of_le h1 h)⟩
end
/-- what is known while ways are made -/
structure BfI (n : Nat) (ws : List (Nat × List Nat)) (l : List Nat) : Prop where
  kp : ∀ p ∈ ws, p.1 < n ∧ Pm n p.2
  nd : (ws.map (·.1)).Nodup
  le : l.length ≤ ws.length
theorem BfI.len {n : Nat} {ws : List (Nat × List Nat)} {l : List Nat} (B : BfI n ws l) : ws.length ≤ n := by
  have := len_le B.nd fun x hx => by obtain ⟨p, hp, rfl⟩ := List.mem_map.mp hx; exact (B.kp p hp).1
  rw [List.length_map] at this
  exact this
section
variable {n cc cl r rl a m w q pl : Nat} {mk : D} {Fst Fck Faf Fba : CF} {R : List (Nat × Cell)} {N : Nat} {F : List Nat}
/-! ### the while loop -/
end
end CH

/-! grids by a prime in the plain layer: made_by one grid -/
namespace PL
open PySem PySem.Spec L2 DL CH
section
variable {n r f q N mo : Nat} {p : Int} {a : Mt} {F : List Nat} {M0 : Nat}
end
end PL

/-! chains in the heap: what of the next levels is lacking -/
namespace CH
open PySem PySem.Spec L2 DL TN PL
section
variable {σ : SD} {η : Hd} {A B C : CE} {kv : KV} {kx : KX}
end
section
variable {n cc cl r rl : Nat} {mk : D} {Fst Fck Faf Fba : CF}
def Inn (F : List Nat) (N : Nat) (G : List Nat) : Prop := ∀ q ∈ G, q ∈ F ∨ N ≤ q
theorem Aft.kp {N : Nat} {F F1 F2 : List Nat} {η0 η η' : Hd} (a : Aft η F1 F2 η') (i : Inn F N F1) (hN : N ≤ η.nx) : Kp N F η η' := ⟨a.nx, fun q h1 h2 => a.keep q (Nat.lt_of_lt_of_le h1 hN) fun z => (i q z).elim h2 fun y => by omega⟩
end
end CH

/-! chains in the heap: spread -/
namespace CH
open PySem PySem.Spec L2 DL TN PL
section
variable {n cc cl r rl : Nat} {mk : D} {Fst Fck Faf Fba : CF}
end
end CH

/-! chains in the heap: add -/
namespace CH
open PySem PySem.Spec L2 DL TN PL
section
variable {n cc cl r rl : Nat} {mk : D} {Fst Fck Faf Fba : CF}
end
end CH

/-! chains in the heap: add -/
namespace CH
open PySem PySem.Spec L2 DL TN PL
section
variable {n cc cl r rl : Nat} {mk : D} {Fst Fck Faf Fba : CF}
/-! ### what holds on the way -/
/-! ### add -/
end
end CH

/-! chains in the heap: add, whole -/
namespace CH
open PySem PySem.Spec L2 DL TN PL
section
variable {n cc cl r rl : Nat} {mk : D} {Fst Fck Faf Fba : CF}
/-! ### a chain is made -/
end
end CH

/-! chains in the heap: a chain is made -/
namespace CH
open PySem PySem.Spec L2 DL TN PL
section
variable {n cc cl ct r rl : Nat} {mk : D} {Fst Fck Faf Fba : CF}
/-- where the makers stand: a tuple, a list that may be read alone, a list of one's own -/
inductive Mks (η : Hd) (ms : List (List Nat)) : D → List (Nat × Cell) → Prop
  | tup : Mks η ms (.tup (ms.map nR)) []
  | frz {q} (h : η.get q = some (.frz (ms.map nR))) (hq : q < η.nx) : Mks η ms (.ref q) []
  | lst {q} (h : η.get q = some (.lst (ms.map nR))) (hq : q < η.nx) : Mks η ms (.ref q) [(q, .lst (ms.map nR))]
end
end CH

/-! chains in the heap: a chain is made, whole -/
namespace CH
open PySem PySem.Spec L2 DL TN PL
section
variable {n cc cl ct r rl : Nat} {mk : D} {Fst Fck Faf Fba : CF}
theorem Mks.mono {η η' : Hd} {ms : List (List Nat)} {M : D} {L0 : List (Nat × Cell)} (hM : Mks η ms M L0) (hx : η.nx ≤ η'.nx) (h : ∀ q, M = .ref q → η'.get q = η.get q) : Mks η' ms M L0 := by
  cases hM with
  | tup => exact .tup
  | frz h1 hq => exact .frz ((h _ rfl).trans h1) (Nat.lt_of_lt_of_le hq hx)
  | lst h1 hq => exact .lst ((h _ rfl).trans h1) (Nat.lt_of_lt_of_le hq hx)
theorem Mks.lt {η : Hd} {ms : List (List Nat)} {M : D} {L0 : List (Nat × Cell)} (hM : Mks η ms M L0) {q : Nat} (h : M = .ref q) : q < η.nx := by
  cases hM with
  | tup => cases h
  | frz h1 hq => cases h; exact hq
  | lst h1 hq => cases h; exact hq
end
end CH

/-! a statement while a dict is locked; for k, v in d.items() -/
namespace DL
open PySem PySem.Spec L2
section
variable {X : Cx} {N : Nm} {E : XK}
end
/-! ### items of a dict with row keys -/
section
variable {P : Program} {w : World} {K : PySem.W.Frag} {d : Addr} {o : Obj} {es : Array DictEntry} {ep : Nat}
end
section
variable {X : Cx} {N : Nm} {E : XK} {e : Expr} {td : TE} {apos cpos : Pos}
end
end DL

/-! sorted(d.items()): keys rows of ints, values ints -/
namespace DL
open PySem PySem.Spec L2 PyProof.Rows
section
variable {prog : Program} {w : World} {A : Around} {E : Value → Shared → Prop} {s : Shared}
/-- a pair of a row of ints and an int -/
def IsPr (h : Heap) (v : Value) (k : List (List Int)) : Prop := ∃ (a : Addr) (o : Obj) (x : Value) (r : List Int) (i : Int) (t : Tok) (n : Nat), v = .ref a ∧ h.get? a = some o ∧ o.cls = .type "tuple" ∧ o.data = .seq #[x, .int i t] n ∧ IsRow h x r ∧ k = [r, [i]]
theorem IsPr.keeps {h h' : Heap} {v : Value} {k : List (List Int)} (q : IsPr h v k) (kp : ∀ b o, h.get? b = some o → o.cls = .type "tuple" → h'.get? b = some o) : IsPr h' v k := by
  obtain ⟨a, o, x, r, i, t, n, e, h1, h2, h3, h4, h5⟩ := q
  exact ⟨a, o, x, r, i, t, n, e, kp a o h1 h2, h2, h3, h4.keeps kp, h5⟩
end
section
variable {X : Cx}
end
/-! ### read by trees -/
section
variable {X : Cx} {N : Nm} {E : XK}
end
end DL

/-! rows that are known to have no dict: min, sorted, count -/
namespace DL
open PySem PySem.Spec L2 PyProof.Rows
section
variable {X : Cx} {N : Nm} {E : XK}
/-! t.count(i) -/
end
end DL

/-! the plain layer: a list of lists, laid into one -/
namespace PL
open PySem PySem.Spec L2 DL
section
variable {g : CG} {t : CT} {e : CE} {pg : PG'} {pt : PT} {pe : PE}
end
/-! ### the def -/
end PL

/-! the plain layer: dicts that are walked; rows without a dict -/
namespace PL
open PySem PySem.Spec L2 DL
section
variable {P0 : Nat → Prop} {b : Nat} {ρ : PEn} {σ : SD} {η η2 : Hd} {i r : Nat} {t : Bool} {l : List (D × D)}
end
/-! ### statements -/
/-! ### sources -/
/-! ### expressions -/
/-! ### rows that are known to have no dict -/
/-! ### for k in d: if ..: return .. (d is as it was behind it) -/
section
variable {P0 : Nat → Prop} {b : Nat} {ρ : PEn} {σ : SD} {η η0 η2 : Hd} {i j r : Nat} {t : Bool} {l : List (D × D)} {ct : CT} {pt : PT} {e : CE} {K : KS} {c : Cell}
end
end PL

/-! law_k23_patterns_counted: the defs (printed by pure.py) -/
namespace CH
open PySem PySem.Spec L2 DL PL
def b_is_turn : CS := (sSeq (sIf (ctOr (ctNot (cTst (cIsiA true (cVar 0)))) (cTst (cQst true (ciSeq (cVar 0)) (gNm 1) ctYes (cNot (cIsiA false (cVar 1))) [1]))) (sRet (cC (.bl false))) sNil) (sRet (cOp fEq (cFn (f1 gSrtB) (cCons (cVar 0) cNil)) (cLstR (crg1 (cFn (f1 gLenA) (cCons (cVar 0) cNil)))))))
abbrev F_is_turn : CF := cDef 1 2 b_is_turn
def p_is_turn : PS' := (psSeq (psIf (pOrT (pNotT (pTst (pIsi true (pVar 0)))) (pTst (pQst true (pSeqV 0) (pNm 1) pYes (p1 nNot (pIsi false (pVar 1))) [1]))) (psRet (pC (.bl false))) psNil) (psRet (pOp gEq (pFn hSrtB (pVar 0)) (pLstR (pC (.int 0)) (pFn hLen (pVar 0))))))
theorem sp_is_turn : SS b_is_turn p_is_turn := (ss_seq (ss_if (st_or (st_not (st_tst (se_isiA se_var))) (st_tst (se_qst si_var sg_nm st_yes (se_not (se_isiA se_var))))) (ss_ret se_c) ss_nil) (ss_ret (se_op s2_eq (se_fn s1_srtB se_var) (se_lstR1 (se_fn s1_len se_var)))))
def q_is_turn : PFn := pDef 1 2 p_is_turn
theorem sf_is_turn : SF F_is_turn q_is_turn := sf_def sp_is_turn
def b_check_turn (c : Nat) : CS := (sIf (ctOr (ctNot (cTst (cCall F_is_turn (cCons (cVar 0) cNil)))) (cTst (cOp fNe (cFn (f1 gLenA) (cCons (cVar 0) cNil)) (cVar 1)))) (sRaise c) sNil)
abbrev F_check_turn (c : Nat) : CF := cDef 2 2 (b_check_turn c)
def p_check_turn (c : Nat) : PS' := (psIf (pOrT (pNotT (pTst (pCall q_is_turn (pCons (pVar 0) pNil)))) (pTst (pOp gNe (pFn hLen (pVar 0)) (pVar 1)))) (psRaise c) psNil)
theorem sp_check_turn (c : Nat) : SS (b_check_turn c) (p_check_turn c) := (ss_if (st_or (st_not (st_tst (se_call sf_is_turn (sa_cons se_var sa_nil)))) (st_tst (se_op s2_ne (se_fn s1_len se_var) se_var))) ss_raise ss_nil)
def q_check_turn (c : Nat) : PFn := pDef 2 2 (p_check_turn c)
theorem sf_check_turn (c : Nat) : SF (F_check_turn c) (q_check_turn c) := sf_def (sp_check_turn c)
def b_still : CS := (sRet (cTupR (crg1 (cVar 0))))
abbrev F_still : CF := cDef 1 1 b_still
def p_still : PS' := (psRet (pTupR (pC (.int 0)) (pVar 0)))
theorem sp_still : SS b_still p_still := (ss_ret (se_tupR1 se_var))
def q_still : PFn := pDef 1 1 p_still
theorem sf_still : SF F_still q_still := sf_def sp_still
def b_after : CS := (sRet (cFn (f1 gTuple) (cCons (cLc (ciSeq (cVar 0)) (gNm 2) ctYes (cOp fIx (cVar 1) (cVar 2)) [2]) cNil)))
abbrev F_after : CF := cDef 2 3 b_after
def p_after : PS' := (psRet (pFn hTuple (pLc (pSeqV 0) (pNm 2) pYes (pOp gIx (pVar 1) (pVar 2)) [2])))
theorem sp_after : SS b_after p_after := (ss_ret (se_fn s1_tuple (se_lc si_var sg_nm st_yes (se_op s2_ix se_var se_var))))
def q_after : PFn := pDef 2 3 p_after
theorem sf_after : SF F_after q_after := sf_def sp_after
def b_back : CS := (sSeq (sAsg (cOp fMul (cLst (cCons (cC (.int 0)) cNil)) (cFn (f1 gLenA) (cCons (cVar 0) cNil))) (gNm 1)) (sSeq (sFor (ciEnum (cCons (cVar 0) cNil)) (gTp 2 (gsCons (gNm 2) (gsCons (gNm 3) gsNil))) (sAsg (cVar 2) (gSb (cVar 1) (cVar 3)))) (sRet (cFn (f1 gTuple) (cCons (cVar 1) cNil)))))
abbrev F_back : CF := cDef 1 4 b_back
def p_back : PS' := (psSeq (psSet (pOp gMul (pLst (pCons (pC (.int 0)) pNil)) (pFn hLen (pVar 0))) 1) (psSeq (psFor (pEnum (pVar 0)) (pTp 2 (pgCons (pNm 2) (pgCons (pNm 3) pgNil))) (psStore (pVar 2) 1 (pVar 3))) (psRet (pFn hTuple (pVar 1)))))
theorem sp_back : SS b_back p_back := (ss_seq (ss_set (se_op s2_mul (se_lst (sa_cons se_c sa_nil)) (se_fn s1_len se_var))) (ss_seq (ss_for (si_enum se_var) (sg_tp (sgs_cons sg_nm (sgs_cons sg_nm sgs_nil))) (ss_store se_var se_var)) (ss_ret (se_fn s1_tuple se_var))))
def q_back : PFn := pDef 1 4 p_back
theorem sf_back : SF F_back q_back := sf_def sp_back
end CH

/-! chains: what the turns' defs give; how many turns a chain has -/
namespace CH
open PySem PySem.Spec L2 DL TN PL
noncomputable section
theorem after_eq {a b : List Nat} (h : ∀ k ∈ a, k < b.length) (hl : a.length ≤ 1000) : q_after [.im (nR a), .im (nR b)] = .val (.im (nR (aft a b))) := by
  have e : aft a b = a.map fun k => (nth b k) := rfl
  have e2 : (a.map fun k => nI ((nth b k))) = (aft a b).map nI := by rw [e, List.map_map]; rfl
  refine def_rt rfl (ret_im (tup_ls (m := .fr) ?_))
  refine lc_val (l := a.map nI) (o := none) rfl rfl (by rw [List.length_map]; unfold line1; omega) ?_
  rw [← e2]
  exact plc_map fun k hk => ⟨[some (.im (nR a)), some (.im (nR b)), some (.im (nI k))], rfl, op_val rfl rfl (by rw [ix_nR (h k hk), nth_lt (h k hk)])⟩
theorem still_eq {n : Nat} (hn : n ≤ 1000) : q_still [.im (nI n)] = .val (.im (nR (List.range n))) := by
  refine def_rt rfl (ret_im ?_)
  show (match rOk 0, rOk (Int.ofNat n), Nat.ble (Int.ofNat n - 0).toNat line with | true, true, true => Rs.val (PV.im (.tup (rangeD (Int.ofNat n - 0).toNat 0))) | _, _, _ => .bad) = _
  rw [show rOk (Int.ofNat n) = true from Nat.ble_eq_true_of_le (by show n ≤ _; omega), show (Int.ofNat n - 0).toNat = n by show ((n : Int) - 0).toNat = n; omega, Nat.ble_eq_true_of_le (show n ≤ line by unfold line; omega), show (0 : Int) = Int.ofNat 0 from rfl, range_nI, List.range_eq_range']
  rfl
theorem putP_nI {l : List D} {g : Nat} {d : D} (h : g < l.length) : putP (.ls .ow l) (nI g) d = some (.ls .ow (l.set g d)) := by
  have e : ixD l.length (Int.ofNat g) = some g := by
    show (match Nat.blt g l.length with | true => some g | false => none) = some g
    rw [show Nat.blt g l.length = true from Nat.ble_eq_true_of_le h]
  simp only [putP, e]
theorem enum_inv {l : List Nat} {k : Nat} {d : D} (h : (enumD 0 (l.map nI))[k]? = some d) : ∃ hk : k < l.length, d = .tup [nI k, nI l[k]] := by
  have hk : k < l.length := by
    have := (List.getElem?_eq_some_iff.mp h).1
    rw [enumD_len, List.length_map] at this; exact this
  refine ⟨hk, ?_⟩
  have := enumD_get 0 (l.map nI) k (nI l[k]) (by rw [List.getElem?_map, List.getElem?_eq_getElem hk]; rfl)
  rw [h] at this
  rw [Option.some.inj this, Nat.zero_add]
theorem flat_one (n : Nat) : (List.replicate n [nI 0]).flatten = (List.replicate n 0).map nI := by
  induction n with
  | zero => rfl
  | succ n ih => rw [List.replicate_succ, List.flatten_cons, ih, List.replicate_succ, List.map_cons]; rfl
theorem back_eq {a : List Nat} (h : ∀ k ∈ a, k < a.length) (hl : a.length ≤ 1000) : q_back [.im (nR a)] = .val (.im (nR (bck a))) := by
  have e1 : psSet (pOp gMul (pLst (pCons (pC (.int 0)) pNil)) (pFn hLen (pVar 0))) 1 [some (.im (nR a)), none, none, none] = .val (.nx [some (.im (nR a)), some (.ls .ow ((bckK a 0).map nI)), none, none]) := by
    refine set_fr (op_val (x := .ls .fr [nI 0]) (y := .im (nI a.length)) rfl (len_tup (l := a.map nI) rfl |>.trans (by rw [List.length_map])) ?_)
    show (match Md.tight .fr, Nat.ble (Int.ofNat a.length).natAbs 100000, Nat.ble (1 * (Int.ofNat a.length).toNat) line with | true, true, true => some (PV.ls .fr (List.replicate (Int.ofNat a.length).toNat [nI 0]).flatten) | _, _, _ => none) = _
    rw [show Md.tight .fr = true from rfl, Nat.ble_eq_true_of_le (show (Int.ofNat a.length).natAbs ≤ 100000 by show a.length ≤ _; omega), Nat.ble_eq_true_of_le (show 1 * (Int.ofNat a.length).toNat ≤ line by show 1 * a.length ≤ line; unfold line; omega)]
    show some (PV.ls .fr (List.replicate a.length [nI 0]).flatten) = _
    rw [flat_one]
    rfl
  refine def_rt rfl ((seq_nx e1).trans ?_)
  obtain ⟨ρ', h1, j2, j3, h2⟩ := for_val (ρ0 := [some (.im (nR a)), some (.ls .ow ((bckK a 0).map nI)), none, none]) (pi := pEnum (pVar 0)) (pg := pTp 2 (pgCons (pNm 2) (pgCons (pNm 3) pgNil))) (ps := psStore (pVar 2) 1 (pVar 3)) (l := enumD 0 (a.map nI))
    (fun k ρ => ∃ j2 j3 : Option D, ρ = [some (.im (nR a)), some (.ls .ow ((bckK a k).map nI)), j2.map .im, j3.map .im]) rfl ⟨none, none, rfl⟩ fun k d ρ hd hI => by
      obtain ⟨hk, rfl⟩ := enum_inv hd
      obtain ⟨j2, j3, rfl⟩ := hI
      refine ⟨[some (.im (nR a)), some (.ls .ow ((bckK a (k + 1)).map nI)), some (.im (nI k)), some (.im (nI a[k]))], ?_, some _, some _, rfl⟩
      have eg : nox (pTp 2 (pgCons (pNm 2) (pgCons (pNm 3) pgNil)) (.tup [nI k, nI a[k]]) [some (.im (nR a)), some (.ls .ow ((bckK a k).map nI)), j2.map .im, j3.map .im]) = .val [some (.im (nR a)), some (.ls .ow ((bckK a k).map nI)), some (.im (nI k)), some (.im (nI a[k]))] := by
        cases j2 <;> cases j3 <;> rfl
      rw [eg, bind_val]
      have ep : putP (.ls .ow ((bckK a k).map nI)) (nI a[k]) (nI k) = some (.ls .ow ((bckK a (k + 1)).map nI)) := by
        rw [putP_nI (by rw [List.length_map, bckK_len]; exact h _ (List.getElem_mem hk)), bckK_succ, List.map_set, nth_lt hk]
      exact store_val rfl rfl rfl ep
  obtain ⟨h2, h3, rfl⟩ := h2
  refine (seq_nx h1).trans (ret_im (tup_ls (m := .ow) ?_))
  rw [enumD_len, List.length_map]
  rfl
theorem perm_range {T : List Nat} (nd : T.Nodup) (h : ∀ k ∈ T, k < T.length) : T.Perm (List.range T.length) := by
  have key : ∀ {l m : List Nat}, l.Nodup → (∀ x ∈ l, x ∈ m) → m.length ≤ l.length → m.Nodup → l.Perm m := by
    intro l
    induction l with
    | nil => intro m _ _ hm _; have : m = [] := List.length_eq_zero_iff.mp (by simpa using hm); rw [this]
    | cons x l ih =>
      intro m hd hs hm hn
      obtain ⟨h1, h2⟩ := List.nodup_cons.mp hd
      have hx := hs x (.head _)
      have e := List.length_erase_of_mem hx
      have p := ih (m := m.erase x) h2 (fun y hy => (List.mem_erase_of_ne (fun z => h1 (by rw [← z]; exact hy))).mpr (hs y (.tail _ hy))) (by rw [e]; rw [List.length_cons] at hm; omega) (hn.erase x)
      exact (p.cons x).trans (List.perm_cons_erase hx).symm
  exact key nd (fun k hk => List.mem_range.mpr (h k hk)) (by rw [List.length_range]; exact Nat.le_refl _) List.nodup_range
theorem intsOf_n : ∀ T : List Nat, intsOf (T.map nI) = some (T.map Int.ofNat)
  | [] => rfl
  | x :: T => by
    show (match intsOf (T.map nI) with | some l => some (Int.ofNat x :: l) | none => none) = _
    rw [intsOf_n T]
    rfl
theorem sortI_range (n : Nat) : SrI ((List.range n).map fun k => [Int.ofNat k]) := by
  refine List.pairwise_map.mpr (List.Pairwise.imp (fun {a b} h => ?_) (List.pairwise_lt_range (n := n)))
  show lexI [Int.ofNat b] [Int.ofNat a] = false
  have e1 : ilt (Int.ofNat b) (Int.ofNat a) = false := decide_eq_false (by show ¬ ((b : Nat) : Int) < (a : Nat); omega)
  have e2 : ieq (Int.ofNat b) (Int.ofNat a) = false := by rw [ieq_dec]; exact decide_eq_false (by intro z; have := Int.ofNat.inj z; omega)
  simp only [lexI, e1, e2]
  exact e1
theorem srt_turn {T : List Nat} (nd : T.Nodup) (h : ∀ k ∈ T, k < T.length) (h9 : T.length ≤ 1000) : hSrtB (.im (nR T)) = some (.ls .fr ((List.range T.length).map nI)) := by
  have e : srtL (T.map nI) = some ((List.range T.length).map nI) := by
    unfold srtL
    rw [intsOf_n]
    dsimp only
    have p := perm_range nd h
    have e1 : sortI ((T.map Int.ofNat).map fun i => [i]) = (List.range T.length).map fun k => [Int.ofNat k] := by
      refine srI_uniq ((sortI_perm _).trans ?_) (sortI_sorted _) (sortI_range _)
      rw [List.map_map]
      exact p.map _
    rw [e1, List.map_map]
    rfl
  show (match Nat.ble (T.map nI).length line, srtL (T.map nI) with | true, some m => some (PV.ls .fr m) | _, _ => none) = _
  rw [e, Nat.ble_eq_true_of_le (show (T.map nI).length ≤ line by rw [List.length_map]; unfold line; omega)]
theorem turn_is {T : List Nat} (nd : T.Nodup) (h : ∀ k ∈ T, k < T.length) (h9 : T.length ≤ 1000) : q_is_turn [.im (nR T)] = .val (.im (.bl true)) := by
  have t1 : pTst (pIsi true (pVar 0)) [some (.im (nR T)), none] = .val true := tst_val rfl
  have t2 : pTst (pQst true (pSeqV 0) (pNm 1) pYes (p1 nNot (pIsi false (pVar 1))) [1]) [some (.im (nR T)), none] = .val false := tst_val (qst_val (l := T.map nI) (o := none) rfl rfl (pqst_none fun x _ => ⟨[some (.im (nR T)), some (.im (nI x))], rfl, rfl⟩))
  have hl : pFn hLen (pVar 0) [some (.im (nR T)), none] = .val (.im (nI T.length)) := (len_tup (l := T.map nI) rfl).trans (by rw [List.length_map])
  have hr : pLstR (pC (.int 0)) (pFn hLen (pVar 0)) [some (.im (nR T)), none] = .val (.ls .fr ((List.range T.length).map nI)) := by
    unfold pLstR
    rw [show pC (.int 0) [some (.im (nR T)), none] = .val (.im (.int 0)) from rfl, bind_val, hl, bind_val]
    show (match rOk 0, rOk (Int.ofNat T.length), Nat.ble (Int.ofNat T.length - 0).toNat line with
      | true, true, true => PL.Rs.val (PV.ls .fr (rangeD (Int.ofNat T.length - 0).toNat 0))
      | _, _, _ => .bad) = _
    have e1 : (Int.ofNat T.length - 0).toNat = T.length := by show (((T.length : Nat) : Int) - 0).toNat = _; omega
    rw [e1, show rOk 0 = true from rfl, show rOk (Int.ofNat T.length) = true from Nat.ble_eq_true_of_le (by show T.length ≤ _; omega), Nat.ble_eq_true_of_le (show T.length ≤ line by unfold line; omega)]
    dsimp only
    rw [show (0 : Int) = Int.ofNat 0 from rfl, range_nI, List.range_eq_range']
  refine def_rt rfl ((seq_nx ((if_ff ((or_ff (not_val t1)).trans t2)).trans rfl)).trans (ret_im (op_val (fn_val rfl (srt_turn nd h h9)) hr (gEq_of ?_))))
  rw [eqP_nL, decide_eq_true rfl]

theorem neI {ρ : PEn} {pa pb : PE} {s t : Nat} (h1 : pa ρ = .val (.im (nI s))) (h2 : pb ρ = .val (.im (nI t))) (e : s = t) : pTst (pOp gNe pa pb) ρ = .val false := by
  refine ne_ff h1 h2 ?_
  rw [eqP_nI, decide_eq_true e]
theorem check_eq {c n : Nat} {t : List Nat} (h : Pm n t) (hn : n ≤ 1000) : q_check_turn c [.im (nR t), .im (nI n)] = .val (.im .non) := by
  have e1 : pNotT (pTst (pCall q_is_turn (pCons (pVar 0) pNil))) [some (.im (nR t)), some (.im (nI n))] = .val false := not_val (tst_val ((call1 rfl rfl).trans (turn_is h.nd (fun k hk => by rw [h.len]; exact h.lt k hk) (by rw [h.len]; exact hn))))
  have hl : pFn hLen (pVar 0) [some (.im (nR t)), some (.im (nI n))] = .val (.im (nI n)) := (len_tup (l := t.map nI) rfl).trans (by rw [List.length_map, h.len])
  have e2 : pTst (pOp gNe (pFn hLen (pVar 0)) (pVar 1)) [some (.im (nR t)), some (.im (nI n))] = .val false := neI hl rfl rfl
  show PL.Rs.bind (p_check_turn c [some (.im (nR t)), some (.im (nI n))]) _ = _
  unfold p_check_turn
  rw [if_ff ((or_ff e1).trans e2)]
  rfl
/-! ### from the plain layer to the heap -/
theorem aws_im {P : Nat → Prop} {η : Hd} : ∀ ds : List D, AWs P η (ds.map .im) ds
  | [] => .nil
  | d :: ds => .cons rfl (aws_im ds)
theorem fl_of {F : CF} {f : PFn} {ds : List D} {d : D} {η : Hd} (hF : SF F f) (h : f (ds.map .im) = .val (.im d)) : Fl [] F ds η d := fun kv kx hk => by
  refine hF (P := fun q => q < η.nx) (fun q h => h) (aws_im ds) ?_
  rw [h]
  intro d' η' f' nl
  cases nl
  exact hk η' ⟨f'.1, fun q hq => .inl (f'.pro hq hq)⟩
theorem kn {n c : Nat} (hn : n ≤ 1000) : Kn n F_still (F_check_turn c) F_after F_back :=
  ⟨fun η => fl_of sf_still (still_eq hn), fun η t h => fl_of (sf_check_turn c) (check_eq h hn), fun η t u ht hu => fl_of sf_after (after_eq (fun k hk => by rw [hu.len]; exact ht.lt k hk) (by rw [ht.len]; exact hn)), fun η t ht => fl_of sf_back (back_eq (fun k hk => by rw [ht.len]; exact ht.lt k hk) (by rw [ht.len]; exact hn))⟩
/-! ### Chain.order -/
/-- so many turns some make -/
def IsCnt (n : Nat) (S : List (List Nat)) (k : Nat) : Prop := ∃ L : List (List Nat), L.Nodup ∧ (∀ e, e ∈ L ↔ Gen n S e) ∧ L.length = k
theorem IsCnt.uniq {n k j : Nat} {S : List (List Nat)} (a : IsCnt n S k) (b : IsCnt n S j) : k = j := by
  obtain ⟨L, a1, a2, rfl⟩ := a
  obtain ⟨M, b1, b2, rfl⟩ := b
  have h1 := len_le.nodup_len a1 (m := M) fun x hx => (b2 x).mpr ((a2 x).mp hx)
  have h2 := len_le.nodup_len b1 (m := L) fun x hx => (a2 x).mpr ((b2 x).mp hx)
  omega
end
end CH

/-! a turn is drawn: the same in all laws -/
namespace LT
open PySem PySem.Spec L2 DL PL TN
noncomputable section
/-! turns drawn -/
abbrev tS : PS' := psExpr (pxMtX mApp 3 (pxMt mPopAt 2 (pCons (pCall qRoll (pCons (pVar 0) (pCons (pFn hLen (pVar 2)) pNil))) pNil)))
end
end LT

/-! l.extend(m); for x in d.values() -/
namespace DL
open PySem PySem.Spec L2
section
variable {X : Cx} {N : Nm} {E : XK}
end
end DL

/-! enumerate of a list that is thawed behind the loop -/
namespace DL
open PySem PySem.Spec L2
section
variable {X : Cx} {N : Nm} {E : XK}
end
end DL

/-! texts: walked, enumerated, by place, lower, upper, in, index; a name of the top that holds a text -/
namespace DL
open PySem PySem.Spec L2
section
variable {K : PySem.W.Frag} {X : Cx} {N : Nm} {E : XK}
def sgn (c : Nat) : D := .str ⟨#[c]⟩
def sgnsD (x : Str) : List D := x.cps.toList.map sgn
theorem sgnsD_len (x : Str) : (sgnsD x).length = x.cps.size := by unfold sgnsD; rw [List.length_map, Array.length_toList]
theorem sgnsD_get {x : Str} {i c : Nat} (h : x.cps[i]? = some c) : (sgnsD x)[i]? = some (sgn c) := by
  unfold sgnsD
  rw [List.getElem?_map, Array.getElem?_toList, h]
  rfl
/-! ### a text is walked -/
theorem walkD_str {Wf : Wl} (x : Str) : WalkD K N Wf (sgnsD x) (L2.Its x) := by
  refine ⟨fun W1 i _ o hi => ?_, fun W1 _ o => ?_, fun W1 i y H' _ o hi hy => ?_⟩
  · rw [sgnsD_len] at hi; exact hi
  · rw [sgnsD_len]; exact Nat.le_refl _
  · obtain ⟨e1, c, e2, rfl⟩ := hy
    exact ⟨W1, sgn c, sgnsD_get e2, Ext.refl W1, o, e1.symm, rfl, mkStr'⟩
def ciStr (c : CE) : CI := fun σ η k kx => c σ η (fun d η1 => match d with
  | .str x => k ⟨sgnsD x, none⟩ η1
  | _ => false) kx
theorem ji_str {tg e : Expr} {c : CE} (h : JE X N E e c) : JI X N E tg e (ciStr c) := PI.imp (pi_str h) fun σ H R q => by
  obtain ⟨W, σd, k, kx, rfl, o, s, h, hk, hx⟩ := q
  refine tE.bind o s hx h fun W1 d v x1 o1 r1 s1 hx1 h1 => ?_
  cases d with
  | str x =>
    rw [RelD] at r1
    exact ⟨x, r1, hk W1 ⟨sgnsD x, none⟩ _ x1 o1 (fun r l e => nomatch e) (walkD_str x) h1⟩
  | _ => cases h1
/-! ### a text is enumerated -/
def IteS (x : Str) : It :=
  ⟨fun i _ => i < x.cps.size, fun i H v H' => ∃ T c, v = .ref T ∧ H T = none ∧ H' = upd H T (.tup [.int (i : Nat), .str ⟨#[c]⟩]) ∧ x.cps[i]? = some c, fun i _ => i = x.cps.size⟩
theorem turn_enumS {P : Program} {w : World} {K : PySem.W.Frag} {elts : List Expr} {kk : Nat} {tpos : Pos} (x : Str) (t : Tok) (e it : Addr) (hne : e ≠ it) :
    Turn P w K (.Tuple elts kk tpos) (IteS x) [e, it] e (fun i h => (∃ old, IsEnum h e it ((i : Nat) : Int) old) ∧ h.IsStrIter it (strIterType x) x t i) where
  mem := by simp
  obj := fun i h st b hb => by
    obtain ⟨⟨old, he⟩, ⟨o, ho, hc, hd⟩⟩ := st
    have e' : b = e ∨ b = it := by simpa using hb
    rcases e' with z | z
    · rw [z]; exact ⟨_, he, fun v q => nomatch q⟩
    · rw [z]; exact ⟨o, ho, fun v q => by rw [hd] at q; cases q⟩
  keep := fun i h h' st k => let ⟨⟨old, he⟩, ⟨o, ho, r⟩⟩ := st; ⟨⟨old, k e (by simp) _ he⟩, ⟨o, k it (by simp) o ho, r⟩⟩
  item := by
    intro X hP hw hK hc i pins s σ H E I hf st hg
    subst hP hw hK
    obtain ⟨⟨old, he⟩, hit⟩ := st
    have hel : e < s.heap.objs.size := Heap.lt_size he
    have hil : it < s.heap.objs.size := by obtain ⟨o, q, _⟩ := hit; exact Heap.lt_size q
    refine wpAny_pyNext_enum_itemD (PySem.Draws.text (A := X.A.in1) (I.ok.hd hc) it x t) he hit hg hne (by simp; exact hne) fun y h' tk hy ho hit' hT hsz hk => ?_
    obtain ⟨c, u, hcx, rfl⟩ := hy
    refine ⟨_, rfl, wpAny_letOwnedTupleGo_enum (s := { s with heap := h', toks := tk + 1 }) ho fun h'' he' sb => ?_⟩
    have hT2 : h''.get? s.heap.objs.size = some { cls := .type "tuple", data := .seq #[.int i tk, .str ⟨#[c]⟩ u] } := (sb.2 _ (Nat.ne_of_gt hel)).trans hT
    have new : ObjOk X.prog X.w (upd H s.heap.objs.size (.tup [.int (i : Nat), .str ⟨#[c]⟩])) h'' s.heap.objs.size (.tup [.int (i : Nat), .str ⟨#[c]⟩]) :=
      ⟨by show 2 ≤ sizeLine; decide, [.int i tk, .str ⟨#[c]⟩ u], .cons ⟨_, rfl⟩ (.cons ⟨_, rfl⟩ .nil), ⟨_, hT2, rfl, _, rfl⟩⟩
    have I1 : Inv X pins σ (upd H s.heap.objs.size (.tup [.int (i : Nat), .str ⟨#[c]⟩])) { s with heap := h'', toks := tk + 1 } :=
      I.turnedNew (t' := tk + 1) (ch := [e, it]) (fun b ob hb q => (sb.2 b (fun z => hb (by simp [z]))).trans (hk b ob (fun z => hb (by simp [z])) (fun z => hb (by simp [z])) q)) hf (Nat.le_refl _) new
    refine ⟨.ref s.heap.objs.size, _, I1, rfl, ⟨_, c, rfl, I.hok.fresh (Nat.le_refl _), rfl, hcx⟩, ⟨⟨.str ⟨#[c]⟩ u, ?_⟩, ?_⟩, fun b hb => ?_⟩
    · have e1 : ((i + 1 : Nat) : Int) = (i : Int) + 1 := by omega
      rw [e1]; exact he'
    · obtain ⟨o, ho, r⟩ := hit'
      exact ⟨o, (sb.2 it (Ne.symm hne)).trans ho, r⟩
    · have hb' : b < s.heap.objs.size := by
        have e' : b = e ∨ b = it := by simpa using hb
        rcases e' with z | z
        · rw [z]; exact hel
        · rw [z]; exact hil
      rw [upd_ne (Nat.ne_of_lt hb')]
      exact (hf b hb).1
  done := by
    intro X hP hw hK hc i pins s σ H E I hf st hg
    subst hP hw hK
    obtain ⟨⟨old, he⟩, hit⟩ := st
    obtain ⟨f0, f1, f2, f3, f4, f5⟩ := hf it (by simp)
    have hi : i = x.cps.size := hg
    exact wpAny_pyNext_enum_endD (PySem.Draws.text (A := X.A.in1) (I.ok.hd hc) it x t) he (by rw [← hi]; exact hit) fun h' eb => ⟨rfl, I.turned (t' := s.toks) (fun b o hb q => eb b o hb q) f0 f1 f3 f4 f5⟩
  self := fun A i s Q E st h => let ⟨⟨_, he⟩, _⟩ := st; wpAny_pyIter_enum he h
def iEnumS (ta : TA) : TI := fun σ H R => ta σ H fun vs H1 => ∃ x, vs = [.str x] ∧ R (IteS x) H1
theorem pi_enumS {e : Expr} {ta : TA} {p pos tpos : Pos} {elts : List Expr} {kk : Nat} (hg : Gl X "enumerate") (hm : X.mg "enumerate" = none) (ha : PA X [e] ta) (hs : starEach [e] X.env = [(false, eval e X.env)] := by rfl) :
    PI X (.Tuple elts kk tpos) (.Call (.Name "enumerate" p) [e] [] pos) (iEnumS ta) := by
  refine ⟨fun pins s σ H R I h => ?_⟩
  refine PyProof.Rows.Call_ (ld_blt I hg hm PyProof.Rows.boot_enumerate (PyProof.Rows.callWith_type1 (thn (ha.run pos pins s σ H _ I h) fun us s1 ⟨vs, H1, I1, r1, q1⟩ => ?_) hs rfl))
  obtain ⟨x, ex, q⟩ := q1
  subst ex
  cases r1 with
  | cons r rr =>
    cases rr
    obtain ⟨t, rfl⟩ := r
    refine enum_begins1 (PySem.begins_text x t) True.intro fun h' he hit hsz hk => wpAny_pyIter_enum he ?_
    have I2 : Inv X pins σ H1 { s1 with heap := h' } := I1.kept (t' := s1.toks) hk
    refine ⟨s1.heap.objs.size + 1, [s1.heap.objs.size + 1, s1.heap.objs.size], _, _, H1, rfl, I2, turn_enumS x t (s1.heap.objs.size + 1) s1.heap.objs.size (Nat.succ_ne_self _), ⟨⟨.none, he⟩, ⟨_, hit, rfl, rfl⟩⟩, fun b hb => ?_, q⟩
    have e' : b = s1.heap.objs.size + 1 ∨ b = s1.heap.objs.size := by simpa using hb
    have hle : s1.heap.objs.size ≤ b := by
      rcases e' with z | z
      · rw [z]; exact Nat.le_add_right _ _
      · rw [z]; exact Nat.le_refl _
    exact I1.fpOk hle (I1.hok.fresh hle)
theorem walkD_enumS {Wf : Wl} (x : Str) : WalkD K N Wf (enumD 0 (sgnsD x)) (IteS x) := by
  refine ⟨fun W1 i _ o hi => ?_, fun W1 _ o => ?_, fun W1 i y H' x1 o hi hy => ?_⟩
  · rw [enumD_len, sgnsD_len] at hi; exact hi
  · show (enumD 0 (sgnsD x)).length = x.cps.size
    rw [enumD_len, sgnsD_len]
  · obtain ⟨T, c, rfl, hT, rfl, hc⟩ := hy
    obtain ⟨x2, o2⟩ := o.lay (ob := .tup [.int (i : Nat), .str ⟨#[c]⟩]) hT
    refine ⟨W1.lay T (.tup [.int (i : Nat), .str ⟨#[c]⟩]), .tup [.int (Int.ofNat i), sgn c], ?_, x2, o2, rfl, rfl, ?_⟩
    · have := enumD_get 0 (sgnsD x) i (sgn c) (sgnsD_get hc)
      rw [Nat.zero_add] at this
      exact this
    · rw [RelD]
      exact ⟨T, _, rfl, upd_same, .cons mkInt (.cons mkStr' .nil)⟩
def ciEnumS (a : CA) : CI := fun σ η k kx => a σ η (fun ds η1 => match ds with
  | [.str x] => k ⟨enumD 0 (sgnsD x), none⟩ η1
  | _ => false) kx
theorem ji_enumS {e : Expr} {ca : CA} {p pos tpos : Pos} {elts : List Expr} {kk : Nat} (hg : Gl X "enumerate") (hm : X.mg "enumerate" = none) (ha : JA X N E [e] ca) (hs : starEach [e] X.env = [(false, eval e X.env)] := by rfl) :
    JI X N E (.Tuple elts kk tpos) (.Call (.Name "enumerate" p) [e] [] pos) (ciEnumS ca) :=
  PI.imp (pi_enumS hg hm ha hs) fun σ H R q => by
    obtain ⟨W, σd, k, kx, rfl, o, s, h, hk, hx⟩ := q
    refine tAr.bind o s hx h fun W1 ds vs x1 o1 r1 s1 hx1 h1 => ?_
    split at h1
    · rename_i x
      obtain ⟨v, rfl, r⟩ := rel1 r1
      rw [RelD] at r
      exact ⟨x, by rw [r], hk W1 ⟨enumD 0 (sgnsD x), none⟩ _ x1 o1 (fun r l e => nomatch e) (walkD_enumS x) h1⟩
    · cases h1
/-! ### a text's sign by its place -/
/-! ### in -/
def oneC (x : Str) : Option Nat := match x.cps.toList with
  | [c] => some c
  | _ => none
theorem oneC_eq {x : Str} {c : Nat} (h : oneC x = some c) : x = ⟨#[c]⟩ := by
  unfold oneC at h
  split at h
  · rename_i e
    cases h
    obtain ⟨a⟩ := x
    have e : a.toList = [c] := e
    have : a = #[c] := Array.ext' e
    rw [this]
  · cases h
def fNotInS : F2 := fun x y η => match x, y with
  | .str a, .str z => match oneC a with
    | some c => some (.bl (!decide (c ∈ z.cps.toList)), η)
    | none => none
  | _, _ => none
theorem opd_notInS : OpR X (compareOp .NotIn) (r2 X.K N fNotInS) := by
  intro pins s σ H x y v u Q I rx ry h
  obtain ⟨W, dx, dy, d, η', rfl, o, r1, r2, hf, hq⟩ := h
  unfold fNotInS at hf
  split at hf
  · rename_i a z
    split at hf
    · rename_i c e
      have := oneC_eq e
      subst this
      cases hf
      rw [RelD] at r1 r2
      subst r1 r2
      exact op_notIn_sign pins s σ _ _ _ v u Q I rx ry ⟨c, z, rfl, rfl, hq W _ (Ext.refl W) o rfl (by rw [RelD])⟩
    · cases hf
  · cases hf
/-! ### lower, upper -/
def cTx0 (f : Str → Str) (c : CE) : CE := fun σ η kv kx => c σ η (fun d η1 => match d with
  | .str a => match Nat.ble a.length 100000 with
    | true => kv (.str (f a)) η1
    | false => false
  | _ => false) kx
theorem tx0_of {f : Str → Str} {o : Expr} {co : CE} {K : PySem.W.Frag} {σ : St} {H : Hp} {Q : VK} (q : tE K N E (cTx0 f co) σ H Q) : tM0 (fun x xs H Q => ∃ a, x = .str a ∧ xs = [] ∧ a.length ≤ 5592405 ∧ Q (.str (f a)) H) (tE K N E co) σ H Q := by
  obtain ⟨W, σd, kv, kx, rfl, o, s, h, hv, hx⟩ := q
  refine tE.bind o s hx h fun W1 d v x1 o1 r1 s1 hx1 h1 => ?_
  cases d with
  | str a =>
    rw [RelD] at r1
    subst r1
    simp only at h1
    cases e : Nat.ble a.length 100000 with
    | false => rw [e] at h1; cases h1
    | true =>
      rw [e] at h1
      exact ⟨⟨a, rfl⟩, a, rfl, rfl, Nat.le_trans (Nat.le_of_ble_eq_true e) (by decide), hv W1 _ _ x1 o1 mkStr' h1⟩
  | _ => cases h1
theorem je_lower {o : Expr} {co : CE} {apos pos : Pos} (ho : JE X N E o co) (hbase : attributeBase o "lower" X.env (eval o X.env) = eval o X.env := by rfl) (hline : (apos.endLine == pos.line) = true := by rfl) :
    JE X N E (.Call (.Attribute o "lower" apos) [] [] pos) (cTx0 Txt.lower co) := PE.imp (pe_lower ho hbase hline) fun σ H Q q => tx0_of (o := o) q
/-! ### index -/
def cIdxS (o e : CE) : CE := fun σ η kv kx => o σ η (fun x η1 => match x with
  | .str a => e σ η1 (fun y η2 => match y with
    | .str b => match Txt.index0 a b with
      | some k => kv (.int (Int.ofNat k)) η2
      | none => false
    | _ => false) kx
  | _ => false) kx
theorem je_idxS {o e : Expr} {co ce : CE} {apos cpos : Pos} (hc : X.calm = true) (tk : Takes X (fun _ _ _ _ => False)) (ho : JE X N E o co) (he : JE X N E e ce)
    (hbase : attributeBase o "index" X.env (eval o X.env) = eval o X.env := by rfl)
    (hfew : ((backTo cpos (starEach [e] X.env)).all (fun x => !x.1) && (backToKw cpos (keywordEach [] X.env)).all (fun x => x.1.isSome)
      && decide ([e].length + ([] : List Keyword).length + (if ([] : List Keyword).isEmpty then 0 else 1) < 30)) = true := by rfl)
    (hline : (apos.endLine == cpos.line) = true := by rfl) (hs : starEach [e] X.env = (false, eval e X.env) :: starEach [] X.env := by rfl) (hplain : (backTo cpos (starEach [] X.env)).any (·.1) = false := by rfl) :
    JE X N E (.Call (.Attribute o "index" apos) [e] [] cpos) (cIdxS co ce) :=
  PE.imp (pe_bmS PySem.F.plainAttrs_str PySem.F.slot_str_index PySem.F.type_str_index (mt_indexX hc tk) ho (ja_cons he ja_nil hs) hbase hfew hline hs hplain) fun σ H Q q => by
    obtain ⟨W, σd, kv, kx, rfl, o, s, h, hv, hx⟩ := q
    refine tE.bind o s hx h fun W1 d v x1 o1 r1 s1 hx1 h1 => ?_
    cases d with
    | str a =>
      rw [RelD] at r1
      subst r1
      refine ⟨?_, tAr.bind (kt := fun ds η2 => match ds with
        | [.str b] => (match Txt.index0 a b with
          | some k => kv (.int (Int.ofNat k)) η2
          | none => false)
        | _ => false) o1 s1 hx1 ?_ fun W2 ds vs x2 o2 r2 s2 hx2 h2 => ?_⟩
      · rfl
      · refine Eq.trans (congrArg (fun K => ce σd W1.η K kx) (funext fun y => funext fun η2 => ?_)) h1
        cases y <;> rfl
      · split at h2
        · rename_i b
          obtain ⟨u, rfl, ru⟩ := rel1 r2
          rw [RelD] at ru
          subst ru
          cases ek : Txt.index0 a b with
          | none => rw [ek] at h2; cases h2
          | some k =>
            rw [ek] at h2
            refine ⟨a, b, rfl, rfl, fun k' e' => ?_, fun z => by rw [ek] at z; cases z⟩
            rw [ek] at e'
            cases e'
            exact hv W2 _ _ (x1.trans o o1 x2) o2 mkInt h2
        · cases h2
    | _ => cases h1
/-! ### a name of the top that holds a text -/
theorem je_gstr {x : Str} {w : Str} {pos : Pos} (hg : Gl X x) (hm : ∃ t, X.mg x = some (.str w t)) (hd : (x == ("__debug__" : Str)) = false := by decide) : JE X N E (.Name x pos) (cC (.str w)) := by
  obtain ⟨t, hm⟩ := hm
  exact je_c (pe_glob (v := .str w) hg hm ⟨t, rfl⟩ hd) fun W => mkStr'
end
end DL

/-! an own exception over ValueError whose __init__ says super().__init__(text), self.f = x -/
namespace L2
open PySem PySem.Spec PyProof.Rows
section
open PySem.W PySem.Calls PySem.HandSPX
variable {prog : Program} {w : World} {A : Around} {E : Value → Shared → Prop} {h : Heap} {g : Array GenState} {d : Drawn} {t : Nat} {os : OsState}
variable {nm q : Str} {C N : Addr} {bs bm : List Value} {hdct : Bool} {sn : List Str} {sub : List Value} {ab : Bool} {col : Option Bool} {dd : Option Addr} {k0 k1 k2 k3 k5 : Option Value}
theorem call_mwV {u e t0 : Addr} {rest : List Value} {Q : Value → Shared → Prop}
    (hC : h.get? C = some (excClassObj nm q C N bs bm hdct sn sub ab col dd k0 k1 k2 k3 k5 "ValueError.__new__")) (he : h.get? e = some (excO C t0)) (hu : h.get? u = some (kxs_mw "ValueError.__init__" e)) (hrest : rest.length ≤ sizeLine)
    (hq : ∀ h' t1, (∀ b o, b ≠ e → h.get? b = some o → h'.get? b = some o) → h'.get? e = some (excO C t1) → Q .none ⟨h', g, d, t, os⟩) :
    wpAny (model prog w) A (call (.ref u) rest) Q E ⟨h, g, d, t, os⟩ := by
  refine wpAny_call (codeAny_of_tree ?_)
  show wpAny _ A.in1 (callAny (.ref u) ⟨rest, []⟩) _ _ _
  simp only [callAny]
  refine wpAny_bind (wpAny_load hu ?_)
  simp only [kxs_mw, show (Value.type "method-wrapper" == Value.type "method" || Value.type "method-wrapper" == Value.type "builtin_function_or_method" || Value.type "method-wrapper" == Value.type "method-wrapper") = true by decide, if_true]
  refine W.KFB.if_so (by decide) ?_
  refine wpAny_bind (ESX.check_bound F.excBase_ValueError hC he rfl ?_)
  refine wpAny_bind (wpAny_pure (wpAny_pure ?_))
  refine ⟨Code.quiet_builtin _ (by decide +kernel), codeAny_builtin F.excBase_ValueError.initEntry ?_⟩
  rw [Around.under_plainId F.excBase_ValueError.init.plain _]
  wp_walk
  refine hq _ h.objs.size (fun b o hb ho => ?_) ?_
  · rw [Heap.get?_update_other _ _ (Ne.symm hb)]
    exact Heap.get?_push_of_some _ ho
  · rw [Heap.get?_update_self _ (Heap.get?_push_of_some _ he) rfl]
    rfl
end
/-- the context of such an __init__'s body -/
def cxX (CX : CXT) (P : Program) (w : World) (K : PySem.W.Frag) (mg : Str → Option Value) (base : Heap) (N : List Str) (qual : Str) (scope : Scope) (f : Addr) (cd : Value) (cc : Addr) (A : Around) (outer : List Env) (s : Shared) (H : Hp) (E : XK) : Cx where
  prog := P
  w := w
  K := K
  mg := mg
  base := base
  A := A.deeper (PySem.W.ksEnv qual scope s.heap.objs.size f cd cc)
  N := N
  s_0 := s
  H_0 := H
  env := PySem.W.ksEnv qual scope s.heap.objs.size f cd cc
  outer := outer
  stack := PySem.W.ksEnv qual scope s.heap.objs.size f cd cc :: outer
  ex := []
  calm := true
  fn := fun _ => false
  pn := []
  xe := fun e s' => wpAny (model P w) (A.deeper (PySem.W.ksEnv qual scope s.heap.objs.size f cd cc)) (leaving (PySem.W.ksEnv qual scope s.heap.objs.size f cd cc) e) (fun _ s'' => CX outer H s E e s'') (fun e' s'' => CX outer H s E e' s'') s'
theorem one_lookup {y : Str} {cc c : Addr} (h : ([(("__class__" : Str), cc)] : List (Str × Addr)).lookup y = some c) : y = "__class__" ∧ c = cc := by
  rw [List.lookup_cons] at h
  cases e : y == ("__class__" : Str) with
  | true => rw [e] at h; cases h; exact ⟨beq_iff_eq.mp e, rfl⟩
  | false => rw [e] at h; cases h
theorem two_lookup {n0 n1 : Str} (hne : n0 ≠ n1) (u0 u1 : Value) : ([(n0, u0), (n1, u1)] : List (Str × Value)).reverse.lookup n0 = some u0 ∧ ([(n0, u0), (n1, u1)] : List (Str × Value)).reverse.lookup n1 = some u1 := by
  have e : (n0 == n1) = false := by simpa using hne
  refine ⟨?_, ?_⟩
  · show ([(n1, u1), (n0, u0)] : List (Str × Value)).lookup n0 = _
    rw [List.lookup_cons, e]
    show ([(n0, u0)] : List (Str × Value)).lookup n0 = _
    rw [List.lookup_cons, beq_self_eq_true]
  · show ([(n1, u1), (n0, u0)] : List (Str × Value)).lookup n1 = _
    rw [List.lookup_cons, beq_self_eq_true]
theorem inv_startX {CX : CXT} {P : Program} {w : World} {K : PySem.W.Frag} {mg : Str → Option Value} {base : Heap} {n0 n1 qual : Str} {scope : Scope} {f cc : Addr} {cd : Value} {A : Around} {outer : List Env} {s : Shared} {H : Hp} {E : XK} {u0 u1 : Value} {v0 v1 : V} {h1 : Heap} {tk : Nat} {cl : Value} {cld : Option Addr} {cv : Option Value} {csl : Array (Option Value)}
    (hne : n0 ≠ n1) (hk : scope.kind = .function) (l0 : scope.names.lookup n0 = some .local) (l1 : scope.names.lookup n1 = some .local) (hfree : ∀ y ∈ scope.names, y.2 = .free → y.1 = "__class__") (hcell : ∀ y ∈ scope.names, y.2 ≠ .cell)
    (lcc : K.lookup cc = some ⟨cl, cld, .cell cv, csl⟩) (hd : A.handled = none) (e0 : Env0 P w K mg base A outer s H) (r0 : RelV v0 u0) (r1 : RelV v1 u1)
    (hns : h1.Ns s.heap.objs.size fun x => ([(n0, u0), (n1, u1)] : List (Str × Value)).reverse.lookup x) (kp : ∀ b o, s.heap.get? b = some o → h1.get? b = some o) :
    Inv (cxX CX P w K mg base [n0, n1] qual scope f cd cc A outer s H E) [] [some v0, some v1] H { s with heap := h1, toks := tk } := by
  have noA : ∀ b : Addr, b ∉ (cxX CX P w K mg base [n0, n1] qual scope f cd cc A outer s H E).ex := fun b z => absurd (show b ∈ ([] : List Addr) from z) (by simp)
  obtain ⟨gc, hc⟩ := e0.bs cc _ (e0.mod.kin _ _ lcc)
  refine ⟨⟨e0.mod, hk, rfl, rfl, Nat.le_refl _, fun y z c h1 h2 => ?_, fun y hy => ?_, (fun y c z h => nomatch z), fun _ => hd, Around.frames_deeper e0.frames, .inr ⟨rfl, rfl⟩, fun b z => absurd z (noA b), e0.bs, e0.bsz, fun b _ _ => noA b, fun b z => absurd z (noA b), e0.funs, e0.frf⟩,
    rfl, e0.bare, Un.kept kp, ⟨_, hns, fun i y v h1 h2 h3 => ?_⟩, fun y c h => ?_, e0.hok.fresh (Nat.le_refl _), fun y c h => ?_, fun p hp => absurd (show p ∈ ([] : List (Addr × Obj)) from hp) (by simp), e0.hok.kept kp, rfl⟩
  · exact (one_lookup h1).1.trans (one_lookup h2).1.symm
  · have hy : scope.names.lookup y = some .cell ∨ scope.names.lookup y = some .free := hy
    rcases hy with hy | hy
    · exact absurd rfl (hcell _ (PySem.mem_of_lookup hy))
    · have := hfree _ (PySem.mem_of_lookup hy) rfl
      have this : y = "__class__" := this
      subst this
      exact ⟨cc, rfl⟩
  · obtain ⟨t0, t1⟩ := two_lookup hne u0 u1
    match i, h1, h2 with
    | 0, h1, h2 => cases h1; cases h2; exact ⟨u0, r0, .inl ⟨l0, t0⟩⟩
    | 1, h1, h2 => cases h1; cases h2; exact ⟨u1, r1, .inl ⟨l1, t1⟩⟩
    | i + 2, h1, h2 => cases h1
  · obtain ⟨_, rfl⟩ := one_lookup h
    exact ⟨cv, _, kp _ _ gc, rfl⟩
  · obtain ⟨_, rfl⟩ := one_lookup h
    exact hc
/-- such an __init__'s promise -/
def spIni (C : Addr) (f : Str) : Sp := fun vs H Q _ => ∃ (a : Addr) (v : V), vs = [.ref a, v] ∧ H a = some (exo a C none) ∧ ∀ dx, H dx = none → dx ≠ a → Q .non (upd (upd H dx (exd dx [(f, v)])) a (exo a C (some dx)))
/-- what the written part says of the class and its __init__ -/
structure SupOk (P : Program) (K : PySem.W.Frag) (mg : Str → Option Value) (C fI : Addr) (f n0 n1 : Str) (scope : Scope) (cda cc : Addr) (ar : Arg) (params : Arguments) : Prop where
  T : OexC K C
  cdef : ∃ cd, PySem.W.clsIn K C = some cd ∧ PySem.W.alongIn K "__init__" ((cd.mro.dropWhile (· != .ref C)).drop 1) = some (some (.builtin "ValueError.__init__"))
  mroC : PySem.W.mroIn K C (.ref C) = some true
  mroV : PySem.W.mroIn K C (.type "ValueError") = some true
  opq : PySem.W.nsIn K cStatics "thirdparty.any" = some none
  sup : mg "super" = none
  own : PySem.W.findIn K (.ref C) f = some none
  code : ∃ ccl cdd vs ccs file tf, K.lookup cda = some ⟨ccl, cdd, .fields vs, ccs⟩ ∧ vs[2]? = some (.str file tf) ∧ ((P.main.file : Str) == file) = true
  cell : ∃ cl cld csl, K.lookup cc = some ⟨cl, cld, .cell (some (.ref C)), csl⟩
  top : (P.main.scope.names.lookup ("super" : Str)).isSome = false
  par : (params.posonlyargs ++ params.args).head? = some ar ∧ ar.arg = n0
  ne : n0 ≠ n1
  kind : scope.kind = .function
  co : scope.isCoroutine = false
  gen : scope.isGenerator = false
  l0 : scope.names.lookup n0 = some .local
  l1 : scope.names.lookup n1 = some .local
  lc : scope.names.lookup ("__class__" : Str) = some .free
  ls : scope.names.lookup ("super" : Str) = some .globalImplicit
  fr : ∀ y ∈ scope.names, y.2 = .free → y.1 = "__class__"
  ce : ∀ y ∈ scope.names, y.2 ≠ .cell
  dbg : ((n0 == ("__debug__" : Str)) = false ∧ (n0 == ("__classdict__" : Str)) = false) ∧ (n1 == ("__debug__" : Str)) = false ∧ (n1 == ("__classdict__" : Str)) = false
abbrev bodyX (n0 n1 f tx : Str) (j : Nat) (p0 p1 p2 p3 p4 pc q1 q2 q3 q4 : Pos) : List Stmt := [.Expr (.Call (.Attribute (.Call (.Name "super" p0) [] [] p1) "__init__" p2) [.Constant (.str tx) j pc] [] p3) p4, .Assign [.Attribute (.Name n0 q1) f q2] (.Name n1 q3) q4]
theorem fn_superinit {CX : CXT} {P : Program} {w : World} {K : PySem.W.Frag} {mg : Str → Option Value} {base : Heap} {C fI cda cc : Addr} {f n0 n1 tx name qual : Str} {scope : Scope} {ar : Arg} {params : Arguments} {dV kV doc pm ct oc : Value} {an od : Option Addr} {osl : Array (Option Value)} {j : Nat} {p0 p1 p2 p3 p4 pc q1 q2 q3 q4 : Pos} {pl : Env → Sem Bool}
    (S : SupOk P K mg C fI f n0 n1 scope cda cc ar params) (lk : K.lookup fI = some ⟨oc, od, .func (PySem.W.ksFn name qual params (bodyX n0 n1 f tx j p0 p1 p2 p3 p4 pc q1 q2 q3 q4) scope dV kV doc pm an (.ref cda) ct cc), osl⟩) (hcd : PySem.W.codeIn K (.ref cda) qual = true)
    (hc : ∀ env : Env, eval (.Call (.Attribute (.Call (.Name "super" p0) [] [] p1) "__init__" p2) [.Constant (.str tx) j pc] [] p3) env = (do
      let ov ← attributeBase (.Call (.Name "super" p0) [] [] p1) "__init__" env (eval (.Call (.Name "super" p0) [] [] p1) env)
      standAt p2.atName
      let (f, first) ← holding [ov] (getMethod ov "__init__" (pl env))
      callWith p3 f first (backTo p3 (starEach [.Constant (.str tx) j pc] env)) []) := by intro _; rfl) :
    FnOk P w K mg base CX 1 fI (PySem.W.ksFn name qual params (bodyX n0 n1 f tx j p0 p1 p2 p3 p4 pc q1 q2 q3 q4) scope dV kV doc pm an (.ref cda) ct cc) [n0, n1] (spIni C f) := by
  refine ⟨fun vs H Q E h => by obtain ⟨a, v, rfl, _⟩ := h; rfl, fun A outer s H args us vs Q E hr e0 hb r hsp => ?_⟩
  obtain ⟨a, v, rfl, ea, q⟩ := hsp
  obtain ⟨u0, u1, rfl, r0, r1⟩ : ∃ u0 u1, us = [u0, u1] ∧ RelV (.ref a) u0 ∧ RelV v u1 := by
    cases r with
    | @cons _ u0 _ ur r0 rr =>
      cases rr with
      | @cons _ u1 _ ur' r1 rr' => cases rr'; exact ⟨u0, u1, rfl, r0, r1⟩
  obtain rfl : u0 = Value.ref a := r0
  have KX : K.In s.heap := e0.mod.kin.keeps fun b o e => (e0.bs b o e).1
  have lim : s.heap.NoLimit := e0.mod.nolimit.keeps fun b o e => (e0.bs b o e).1
  obtain ⟨cl, cld, csl, lcc⟩ := S.cell
  refine PySem.ks_codeAny_call_defAt (fd := PySem.W.ksFn name qual params (bodyX n0 n1 f tx j p0 p1 p2 p3 p4 pc q1 q2 q3 q4) scope dV kV doc pm an (.ref cda) ct cc) (body := bodyX n0 n1 f tx j p0 p1 p2 p3 p4 pc q1 q2 q3 q4) (binds := [(n0, .ref a), (n1, u1)]) hr.depth (KX _ _ lk) rfl lim (PySem.W.codeRec_of KX hcd) rfl hb S.ce (fun y hy => ?_) (fun h1 hns kp => ?_) S.co S.gen S.kind
  · rcases List.mem_cons.mp hy with rfl | hy
    · exact S.l0
    · rw [List.mem_singleton.mp hy]; exact S.l1
  have I : Inv (cxX CX P w K mg base [n0, n1] qual scope fI (.ref cda) cc A outer s H E) [] [some (.ref a), some v] H { s with heap := h1, toks := s.toks + 2 } :=
    inv_startX S.ne S.kind S.l0 S.l1 S.fr S.ce lcc hr.hd e0 (v0 := .ref a) rfl r1 hns kp
  have X1 : K.In h1 := KX.keeps kp
  obtain ⟨ccl, cdd, cvs, ccs, file, tf, lcode, hfile, hmain⟩ := S.code
  obtain ⟨cdC, hcls, hal⟩ := S.cdef
  obtain ⟨nm, qn, N, bs, bm, sn, sub, ab, col, dd, k0, k1, k2, k3, k5, hCl, hbm⟩ := S.T.cls
  obtain ⟨mb, hb1, hb2⟩ := e0.mod.blt
  obtain ⟨ta, ha⟩ := exo_at I.hok ea
  obtain ⟨hp, g, dr, tk, os⟩ := s
  have ha : h1.get? a = some (PySem.HandSPX.excO C ta) := ha
  have bk : ∀ b o, base.get? b = some o → h1.get? b = some o := fun b o e => kp _ _ (e0.bs b o e).1
  have IA : PySem.W.InstAt h1 a (PySem.HandSPX.excO C ta) C none := ⟨ha, rfl, rfl, trivial⟩
  have hi : interactive (PySem.W.ksEnv qual scope hp.objs.size fI (.ref cda) cc) = false := by
    unfold interactive
    simp [S.kind]
  refine PySem.ks_wpAt_execs_cons (PySem.ks_wpAt_Expr_any (PySem.ks_wpAt_MethodCall ?_ (hc _)) hi)
  refine PySem.ks_wpAt_super_base S.ls S.lc (by decide) rfl (X1 _ _ lk) rfl S.par.1 rfl (X1 _ _ lcode) rfl hfile hmain S.top ?_
  refine PySem.W.ks_loadName_global S.kind S.ls (Calls.loadGlobal_builtin (e0.mod.glob.keeps bk) S.sup (hb1.keeps bk) ((hb2 _ (by decide)).trans (by decide +kernel)) ⟨rfl, ?_⟩)
  refine PySem.wpAny_loadName_free S.kind S.lc rfl ⟨_, X1 _ _ lcc, rfl⟩ ?_
  rw [S.par.2]
  refine PySem.wpAny_loadName_local S.kind S.l0 hns (two_lookup S.ne _ _).1 ?_
  refine PySem.ks_wpAny_isType_cls (X1 _ _ hCl) rfl ⟨rfl, ?_⟩
  refine PySem.ks_wpAny_call_super (X1 _ _ hCl) rfl ha rfl (fun c z => by cases z) (PySem.W.looks_mroIn X1 S.mroC) fun h2 e2 k2 => ?_
  have X2 : K.In h2 := X1.keeps k2
  have IA2 : PySem.W.InstAt h2 a (PySem.HandSPX.excO C ta) C none := ⟨k2 _ _ ha, rfl, rfl, trivial⟩
  refine PySem.W.kxs_getMethod PySem.W.kxs_ValueError e2 (PySem.W.looks_opaque X2 S.opq) (fun A Q E s k q => wpAny_bind ((PySem.W.looks_clsIn X2 hcls) A _ E s k (wpAny_pure q))) rfl X2 hal (IA2.type.andThen (PySem.W.looks_mroIn X2 S.mroV)) (PySem.W.ks_ne X2 IA2 hcls) (by decide) ?_
  have ga : (h2.push (PySem.W.kxs_mw "ValueError.__init__" a)).get? a = some (PySem.HandSPX.excO C ta) := Heap.get?_push_of_some _ (k2 _ _ ha)
  have gu : (h2.push (PySem.W.kxs_mw "ValueError.__init__" a)).get? h2.objs.size = some (PySem.W.kxs_mw "ValueError.__init__" a) := Heap.get?_push_size _ rfl
  have I3 := I.kept (t' := tk + 2 + 1 + 1) (h' := h2.push (PySem.W.kxs_mw "ValueError.__init__" a)) fun b o e => Heap.get?_push_of_some _ (k2 b o e)
  refine PySem.W.kxs_callWith (i := "ValueError.__init__") (x := a) rfl ?_
  show wpAny _ _ (evalArgs _ true ((false, eval (.Constant (.str tx) j pc) _) :: []) []) _ _ _
  refine Calls.evalArgs_plain (Calls.spliced_cons (Calls.Constant_str (Calls.spliced_nil ⟨gu, ?_⟩)))
  refine call_mwV (X2 _ _ hCl |> fun e => Heap.get?_push_of_some _ e) ga gu (by show 1 ≤ _; rw [sizeLine_eq]; omega) fun h4 t4 k4 hx4 => ?_
  have I4 := I3.write (t' := tk + 2 + 1 + 1) (x := a) (e := a) (o := exo a C none) (by rw [ea]; exact True.intro) (.inl rfl) k4 ⟨_, hx4⟩ (exo_ok hx4)
  have eu : upd H a (exo a C none) = H := by
    funext b
    by_cases hb : b = a
    · rw [hb, upd_same, ea]
    · rw [upd_ne hb]
  rw [eu] at I4
  refine PySem.ks_wpAt_execs_cons ?_
  refine wpAt_of_wpAny ?_
  have P2 : PS (cxX CX P w K mg base [n0, n1] qual scope fI (.ref cda) cc A outer ⟨hp, g, dr, tk, os⟩ H E) (.Assign [.Attribute (.Name n0 q1) f q2] (.Name n1 q3) q4) (tOst K f (tVar 0) (tVar 1)) := ps_ost (pe_var rfl (.inl S.l0) S.dbg.1.1 S.dbg.1.2) (pe_var rfl (.inl S.l1) S.dbg.2.1 S.dbg.2.2)
  refine wpAny_mono (P2.run [] _ _ H { nx := fun _ H' => Q .non H', rt := Q } I4 ⟨v, rfl, .ref a, rfl, a, C, rfl, S.T, S.own, .inl ⟨ea, fun dx n ne => q dx n ne⟩⟩) (fun fl s' hs => ?_) fun e s' hs => hs
  have fin : ∀ {σ' : St} {H' : Hp} {v' : V} {u : Value} {s' : Shared}, Inv (cxX CX P w K mg base [n0, n1] qual scope fI (.ref cda) cc A outer ⟨hp, g, dr, tk, os⟩ H E) [] σ' H' s' → RelV v' u → Q v' H' → CE outer P w H ⟨hp, g, dr, tk, os⟩ Q u s' :=
    fun {σ' H' v' u s'} J rv q => ⟨v', H', J.os, J.bare, J.base, J.hok, rv, q⟩
  cases fl with
  | ret u =>
    obtain ⟨v', σ', H', J, rv, q⟩ := hs
    exact fin J rv q
  | next =>
    obtain ⟨σ', H', J, q⟩ := hs
    exact wpAt_of_wpAny (wpAny_execs_nil (fin (v' := V.non) (u := Value.none) J rfl q))
  | brk =>
    obtain ⟨_, _, _, q⟩ := hs
    exact False.elim q
  | cont =>
    obtain ⟨_, _, _, q⟩ := hs
    exact False.elim q
end L2

/-! raise C(x) with a payload; try: f(..) except C as e: return e.f -/
namespace DL
open PySem PySem.Spec L2
section
variable {X : Cx} {N : Nm} {E : XK}
def sRaiseX (c : Nat) (a : CE) : CS := fun σ η k => a σ η (fun d η1 => k.xc ⟨c, some d⟩ η1) k.xc
theorem js_raiseX {CX : CXT} {x f : Str} {C fI : Addr} {c j : Nat} {fd : FuncData} {ps : List Str} {e : Expr} {a : CE} {p pos pos' : Pos} (hc : X.calm = true) (tk : Takes X (fun cls d _ H => E cls d H)) (T : OexC X.K C) (iC : PySem.W.findIn X.K (.ref C) "__init__" = some (some (.ref fI))) (tI : PySem.W.typeIn X.K (.ref fI) = some (.type "function"))
    (F1 : FnOk X.prog X.w X.K X.mg X.base CX j fI fd ps (spIni C f)) (hr : Room (j + 1) X.A) (hb : Binds X.K fd ps []) (hx : Passes CX X (fun _ _ _ => False)) (hg : Gl X x) (hm : X.mg x = some (.ref C)) (ha : JE X N E e a) (hC : N.cls c = C) (hf : N.xf c = f)
    (hdb : (x == ("__debug__" : Str)) = false := by decide) (he : starEach [e] X.env = (false, eval e X.env) :: starEach [] X.env := by rfl) : JS X N E (.Raise (some (.Call (.Name x p) [e] [] pos)) none pos') (sRaiseX c a) :=
  PS.imp (ps_raise hc tk (pmk_oex T iC tI F1 hr hb (ds := []) (dvs := []) .nil hx hg hm (pa_cons ha pa_nil he) hdb he rfl)) fun Z σ H q => by
    obtain ⟨W, σd, k, rfl, o, s, h, hk⟩ := q
    refine tE.bind (Q' := fun v H1 => tNil σ H1 fun r H2 => (v :: r).length ≤ 1000 ∧ ∀ a, H2 a = none → spIni C f (.ref a :: ((v :: r) ++ [])) (upd H2 a (exo a C none))
      (fun v H3 => v = .non ∧ ∃ (d : Addr) (fs : List (Str × V)), H3 a = some (exo a C (some d)) ∧ H3 d = some (exd d fs) ∧ H2 d = none ∧ E (.ref C) (some d) (upd (del H3 a) d (.xd fs))) (fun _ _ _ => False)) o s hk.xc h fun W1 d v x1 o1 r1 s1 hx1 h1 => ?_
    refine ⟨by show 1 ≤ 1000; omega, fun a ha0 => ⟨a, v, rfl, upd_same, fun dx hdx ne => ⟨rfl, dx, [(f, v)], upd_same, ?_, ?_, ?_⟩⟩⟩
    · rw [upd_ne ne, upd_same]
    · rw [upd_ne ne] at hdx; exact hdx
    · have hd0 : W1.H dx = none := by rw [upd_ne ne] at hdx; exact hdx
      have eH : upd (del (upd (upd (upd W1.H a (exo a C none)) dx (exd dx [(f, v)])) a (exo a C (some dx))) a) dx (.xd [(f, v)]) = upd W1.H dx (.xd [(f, v)]) := by
        funext b
        by_cases h1 : b = dx
        · rw [h1, upd_same, upd_same]
        · rw [upd_ne h1, upd_ne h1]
          by_cases h2 : b = a
          · rw [h2, del_same, ha0]
          · rw [del_ne h2, upd_ne h2, upd_ne h1, upd_ne h2]
      rw [eH]
      obtain ⟨x2, o2⟩ := o1.lay (ob := .xd [(f, v)]) hd0
      exact hx1 (W1.lay dx (.xd [(f, v)])) ⟨c, some d⟩ (.ref C) (some dx) x2 o2 ⟨by rw [hC], dx, v, rfl, by rw [hf]; exact upd_same, r1.mono o1 x2⟩ h1
/-! ### what is kept of a class with such an __init__ -/
def oexB (K : PySem.W.Frag) (C : Addr) : Bool := match K.lookup C with
  | some ⟨.type t, _, .cls ⟨_, _, .ref C' :: bm, _, _, true, _, _, _, _, false⟩, sl⟩ => (match sl.toList with
    | [_, _, _, _, some (.builtin n), _] => decide (n = "ValueError.__new__") && (decide (t = "type") && (decide (C' = C) && PySem.HandSPX.refsVE bm))
    | _ => false)
  | _ => false
theorem oexB_ok {K : PySem.W.Frag} {C : Addr} (h : oexB K C = true) : ∃ nm q N bs bm sn sub ab col dd k0 k1 k2 k3 k5, K.lookup C = some (excClassObj nm q C N bs bm true sn sub ab col dd k0 k1 k2 k3 k5 "ValueError.__new__") ∧ PySem.HandSPX.refsVE bm = true := by
  unfold oexB at h
  split at h
  · rename_i t dd nm bs C' bm N q sn sub ab col sl e
    split at h
    · rename_i k0 k1 k2 k3 n k5 es
      simp only [Bool.and_eq_true, decide_eq_true_eq] at h
      obtain ⟨h1, h2, h3, h4⟩ := h
      subst h1; subst h2; subst h3
      refine ⟨nm, q, N, bs, bm, sn, sub, ab, col, dd, k0, k1, k2, k3, k5, ?_, h4⟩
      rw [e]
      have : sl = #[k0, k1, k2, k3, some (.builtin "ValueError.__new__"), k5] := by
        rw [← es]
      rw [this]
    · cases h
  · cases h
def supB (K : PySem.W.Frag) (C : Addr) : Bool := (match PySem.W.clsIn K C with
  | some cd => decide (PySem.W.alongIn K "__init__" ((cd.mro.dropWhile (· != .ref C)).drop 1) = some (some (.builtin "ValueError.__init__")))
  | none => false) && (decide (PySem.W.mroIn K C (.ref C) = some true) && (decide (PySem.W.mroIn K C (.type "ValueError") = some true) && decide (PySem.W.nsIn K cStatics "thirdparty.any" = some none)))
structure OwnX (P : Program) (K : PySem.W.Frag) (mg : Str → Option Value) (C : Addr) (f : Str) : Prop where
  T : OexC K C
  xf : XfC K C
  own : PySem.W.findIn K (.ref C) f = some none
  fn : ∃ (fI : Addr) (fd : FuncData) (ps : List Str), PySem.W.findIn K (.ref C) "__init__" = some (some (.ref fI)) ∧ PySem.W.typeIn K (.ref fI) = some (.type "function") ∧ L2.Binds K fd ps [] ∧ ∀ (CX : CXT) (w : World) (base : Heap), FnOk P w K mg base CX 1 fI fd ps (spIni C f)
theorem ownX_mk {P : Program} {K : PySem.W.Frag} {mg : Str → Option Value} {C fI cda cc : Addr} {f n1 tx name qual : Str} {scope : Scope} {ar : Arg} {params : Arguments} {dV kV doc pm ct oc : Value} {an od : Option Addr} {osl : Array (Option Value)} {j : Nat} {p0 p1 p2 p3 p4 pc q1 q2 q3 q4 : Pos} {pl : Env → Sem Bool}
    {ccl : Value} {cdd : Option Addr} {vs : Array Value} {ccs : Array (Option Value)} {file : Str} {tf : Tok} {cl : Value} {cld : Option Addr} {csl : Array (Option Value)}
    (x1 : oexB K C = true) (x2 : xfB K C = true) (x3 : PySem.W.findIn K (.ref C) f = some none) (x4 : PySem.W.findIn K (.ref C) "__setattr__" = some (some (.builtin "object.__setattr__"))) (x5 : supB K C = true)
    (x6 : PySem.W.findIn K (.ref C) "__init__" = some (some (.ref fI))) (x7 : PySem.W.typeIn K (.ref fI) = some (.type "function")) (kC : PySem.W.keepIn K (.ref C) = true) (sC : PySem.W.subIn K (.ref C) (.type "BaseException") = some true) (tC : PySem.W.typeIn K (.ref C) = some (.type "type"))
    (lk : K.lookup fI = some ⟨oc, od, .func (PySem.W.ksFn name qual params (bodyX "self" n1 f tx j p0 p1 p2 p3 p4 pc q1 q2 q3 q4) scope dV kV doc pm an (.ref cda) ct cc), osl⟩) (hcd : PySem.W.codeIn K (.ref cda) qual = true)
    (y1 : K.lookup cda = some ⟨ccl, cdd, .fields vs, ccs⟩) (y2 : vs[2]? = some (.str file tf)) (y3 : ((P.main.file : Str) == file) = true) (y4 : (P.main.scope.names.lookup ("super" : Str)).isSome = false) (y5 : K.lookup cc = some ⟨cl, cld, .cell (some (.ref C)), csl⟩)
    (z : mg "super" = none) (hb : L2.Binds K (PySem.W.ksFn name qual params (bodyX "self" n1 f tx j p0 p1 p2 p3 p4 pc q1 q2 q3 q4) scope dV kV doc pm an (.ref cda) ct cc) ["self", n1] [])
    (par : (params.posonlyargs ++ params.args).head? = some ar ∧ ar.arg = "self") (ne : ("self" : Str) ≠ n1) (sc : scope.kind = .function ∧ scope.isCoroutine = false ∧ scope.isGenerator = false)
    (ls : scope.names.lookup ("self" : Str) = some .local ∧ scope.names.lookup n1 = some .local ∧ scope.names.lookup ("__class__" : Str) = some .free ∧ scope.names.lookup ("super" : Str) = some .globalImplicit)
    (fr : (scope.names.all fun y => decide (y.2 = .free → y.1 = "__class__")) = true) (ce : (scope.names.all fun y => decide (y.2 ≠ .cell)) = true) (dbg : (n1 == ("__debug__" : Str)) = false ∧ (n1 == ("__classdict__" : Str)) = false)
    (hc : ∀ env : Env, eval (.Call (.Attribute (.Call (.Name "super" p0) [] [] p1) "__init__" p2) [.Constant (.str tx) j pc] [] p3) env = (do
      let ov ← attributeBase (.Call (.Name "super" p0) [] [] p1) "__init__" env (eval (.Call (.Name "super" p0) [] [] p1) env)
      standAt p2.atName
      let (f, first) ← holding [ov] (getMethod ov "__init__" (pl env))
      callWith p3 f first (backTo p3 (starEach [.Constant (.str tx) j pc] env)) []) := by intro _; rfl) : OwnX P K mg C f := by
  have T : OexC K C := ⟨oexB_ok x1, x4, sC, tC, kC⟩
  have S : SupOk P K mg C fI f "self" n1 scope cda cc ar params := by
    unfold supB at x5
    simp only [Bool.and_eq_true, decide_eq_true_eq] at x5
    obtain ⟨a1, a2, a3, a4⟩ := x5
    refine ⟨T, ?_, a2, a3, a4, z, x3, ⟨_, _, _, _, _, _, y1, y2, y3⟩, ⟨_, _, _, y5⟩, y4, par, ne, sc.1, sc.2.1, sc.2.2, ls.1, ls.2.1, ls.2.2.1, ls.2.2.2, fun y hy => of_decide_eq_true (List.all_eq_true.mp fr y hy), fun y hy => of_decide_eq_true (List.all_eq_true.mp ce y hy), ⟨⟨by decide, by decide⟩, dbg⟩⟩
    split at a1
    · rename_i cd e
      exact ⟨cd, e, of_decide_eq_true a1⟩
    · cases a1
  exact ⟨T, xfB_ok x2, x3, fI, _, ["self", n1], x6, x7, hb, fun CX w base => fn_superinit S lk hcd hc⟩
theorem passes_never : Passes (CX X.prog X.w) X (fun _ _ _ => False) := fun _ _ _ _ _ _ _ z => by
  obtain ⟨_, _, _, _, _, _, _, _, _, _, _, _, z⟩ := z
  exact z.elim
theorem js_raiseU {x f : Str} {C : Addr} {c : Nat} {e : Expr} {a : CE} {p pos pos' : Pos} (hc : X.calm = true) (tk : Takes X (fun cls d _ H => E cls d H)) (U : OwnX X.prog X.K X.mg C f) (hr : Room 2 X.A) (hg : Gl X x) (hm : X.mg x = some (.ref C)) (ha : JE X N E e a) (hC : N.cls c = C) (hf : N.xf c = f)
    (hdb : (x == ("__debug__" : Str)) = false := by decide) (he : starEach [e] X.env = (false, eval e X.env) :: starEach [] X.env := by rfl) : JS X N E (.Raise (some (.Call (.Name x p) [e] [] pos)) none pos') (sRaiseX c a) := by
  obtain ⟨fI, fd, ps, h1, h2, h3, h4⟩ := U.fn
  exact js_raiseX hc tk U.T h1 h2 (h4 (CX X.prog X.w) X.w X.base) hr h3 passes_never hg hm ha hC hf hdb he
end
end DL

/-! the empty tuple so many times; a context that takes what never is -/
namespace DL
open PySem PySem.Spec PyProof.Rows L2
section
variable {X : Cx} {N : Nm} {E : XK}
theorem takes_never : Takes X (fun _ _ _ _ => False) := fun u s' x => by
  obtain ⟨_, _, _, _, _, _, _, _, _, _, _, _, _, _, _, _, w⟩ := x
  exact w.elim
end
end DL

/-! a text so many times -/
namespace DL
open PySem PySem.Spec L2
def repS (a : Str) (k : Int) : Str := if k < 1 then Str.empty else if (k == 1 || a.length == 0) = true then a else ⟨(List.replicate k.toNat a.cps).foldl (· ++ ·) #[]⟩
def fRepS : F2 := fun x y η => match x, y with
  | .str a, .int k => match Nat.ble k.natAbs 1000, Nat.ble a.length 1000 with
    | true, true => some (.str (repS a k), η)
    | _, _ => none
  | _, _ => none
section
variable {X : Cx} {N : Nm}
theorem op_repS : OpR X (binaryOp .Mult) (fun x y H Q => ∃ a k, x = .str a ∧ y = .int k ∧ k.natAbs ≤ 1000 ∧ a.length ≤ 1000 ∧ Q (.str (repS a k)) H) := by
  rintro pins s σ H x y v u Q I rx ry ⟨a, k, rfl, rfl, hk, ha, q⟩
  obtain ⟨t, rfl⟩ := rx
  obtain ⟨t2, rfl⟩ := ry
  have ha' : (a.length : Int) ≤ 1000 := by omega
  refine P.mul_str (by
    rw [Bool.or_eq_false_iff]
    exact ⟨decide_eq_false (by omega), decide_eq_false (by omega)⟩) (fun h1 _ z => ?_) (fun h1 _ => ?_) ?_
  · have k0 : 0 < k := by omega
    have : (a.length : Int) ≤ (2 ^ 63 - 1) / k := (Int.le_ediv_iff_mul_le k0).mpr (Int.le_trans (Int.mul_le_mul_of_nonneg_right ha' (by omega)) (by omega))
    omega
  · have := Nat.mul_le_mul ha (show k.toNat ≤ 1000 by omega)
    unfold PySem.Builtin.Str.tooLong
    exact decide_eq_false (by rw [show sizeLine = 16777216 by decide +kernel]; omega)
  · have fin : ∀ (r : Str) (u : Value) (s1 : Shared) (tk : Nat), s1 = { s with toks := tk } → RelV (.str r) u → repS a k = r → EP X pins σ Q u s1 := fun r u s1 tk e ru er => by
      subst e
      exact ⟨.str r, H, I.kept (t' := tk) fun _ _ z => z, ru, by rw [← er]; exact q⟩
    unfold repS at fin
    by_cases h1 : k < 1
    · rw [if_pos h1]
      exact ⟨by decide, fin _ _ _ _ rfl ⟨_, rfl⟩ (by rw [if_pos h1])⟩
    · rw [if_neg h1]
      by_cases h2 : (k == 1 || a.length == 0) = true
      · rw [if_pos h2]
        exact fin _ _ _ s.toks rfl ⟨_, rfl⟩ (by rw [if_neg h1, if_pos h2])
      · rw [if_neg h2]
        refine ⟨?_, fin _ _ _ _ rfl ⟨_, rfl⟩ (by rw [if_neg h1, if_neg h2])⟩
        have := Nat.mul_le_mul ha (show k.toNat ≤ 1000 by omega)
        refine PySem.fits_reps ?_
        unfold PySem.Builtin.Str.tooLong
        exact decide_eq_false (by rw [show sizeLine = 16777216 by decide +kernel]; omega)
theorem opd_repS : OpR X (binaryOp .Mult) (r2 X.K N fRepS) := OpR.imp op_repS fun x y H Q q => by
  obtain ⟨W, dx, dy, d, η', rfl, o, rx, ry, hf, hq⟩ := q
  cases dx with
  | str a =>
    cases dy with
    | int k =>
      simp only [fRepS] at hf
      split at hf
      · rename_i e1 e2
        simp only [Option.some.injEq, Prod.mk.injEq] at hf
        obtain ⟨rfl, rfl⟩ := hf
        rw [relStr rx, relInt ry]
        exact ⟨a, k, rfl, rfl, Nat.le_of_ble_eq_true e1, Nat.le_of_ble_eq_true e2, same_w o hq mkStr'⟩
      · cases hf
    | _ => cases hf
  | _ => cases hf
end
end DL

/-! a list of lambdas: the function objects are pinned while what follows runs -/
namespace DL
open PySem PySem.Spec L2 PyProof.Rows
/-- a lambda's parts -/
structure Sit where
  params : Arguments
  body : Expr
  scope : Scope
  pos : Pos
abbrev Sit.e (S : Sit) : Expr := .Lambda S.params S.body S.scope S.pos
abbrev lamO (X : Cx) (S : Sit) (pm : Value) (c : Addr) (ctv : Value) : Obj := PySem.W.kla_obj "<lambda>" (X.env.qual ++ "<lambda>") S.params S.body S.scope (cloFrom X.env.cells S.scope.names []) pm c ctv
/-- the functions fs are the lambdas Ss of this frame -/
inductive Made (X : Cx) (H : Hp) : List Sit → List (Addr × Obj) → Prop
  | nil : Made X H [] []
  | cons {S : Sit} {Ss : List Sit} {f c : Addr} {pm ctv : Value} {fs : List (Addr × Obj)} (h : H c = some (LamX.CodeO c (X.env.qual ++ "<lambda>"))) (t : Made X H Ss fs) : Made X H (S :: Ss) ((f, lamO X S pm c ctv) :: fs)
theorem Made.ext {X : Cx} {H H' : Hp} (x : ∀ c, H c = some (LamX.CodeO c (X.env.qual ++ "<lambda>")) → H' c = some (LamX.CodeO c (X.env.qual ++ "<lambda>"))) {Ss : List Sit} {fs : List (Addr × Obj)} (m : Made X H Ss fs) : Made X H' Ss fs := by
  induction m with
  | nil => exact .nil
  | cons h t ih => exact .cons (x _ h) ih
theorem Made.len {X : Cx} {H : Hp} {Ss : List Sit} {fs : List (Addr × Obj)} (m : Made X H Ss fs) : fs.length = Ss.length := by
  induction m with
  | nil => rfl
  | cons h t ih => rw [List.length_cons, List.length_cons, ih]
theorem Made.at_ {X : Cx} {H : Hp} {Ss : List Sit} {fs : List (Addr × Obj)} (m : Made X H Ss fs) : ∀ {j : Nat} {S : Sit}, Ss[j]? = some S → ∃ f c pm ctv, fs[j]? = some (f, lamO X S pm c ctv) ∧ H c = some (LamX.CodeO c (X.env.qual ++ "<lambda>")) := by
  induction m with
  | nil => intro j S h; cases h
  | @cons S0 Ss f c pm ctv fs h t ih =>
    intro j S e
    cases j with
    | zero => cases e; exact ⟨f, c, pm, ctv, rfl, h⟩
    | succ j => exact ih e
/-- one pin more -/
theorem inv_pin {X : Cx} {pins : List (Addr × Obj)} {σ : L2.St} {H : Hp} {s : Shared} (I : Inv X pins σ H s) {p : Addr × Obj} (h : s.heap.get? p.1 = some p.2 ∧ H p.1 = none ∧ p.1 ≠ X.env.locals ∧ p.1 ∉ X.fs ∧ ∀ v, p.2.data ≠ .cell v) : Inv X (pins ++ [p]) σ H s :=
  { I with pin := (fun q hq => by
      rw [← List.append_assoc] at hq
      rcases List.mem_append.mp hq with z | z
      · exact I.pin q z
      · rw [List.mem_singleton.mp z]; exact h) }
/-- what the frame must say -/
structure LamF (X : Cx) (T : Tbl) (lam : Nat → Nat → Bool) (c P : Addr) : Prop where
  TB : LamX.TabB X.base X.mg c P
  code : X.env.code = .ref c
  mem : (P, X.env.qual ++ "<lambda>", lam) ∈ T
  uniq : ∀ e ∈ T, e.1 = P → e.2.1 = X.env.qual ++ "<lambda>"
  stk : X.stack = X.env :: X.outer
  frm : X.env.frame = some X.env.locals
structure SitL (X : Cx) (lam : Nat → Nat → Bool) (S : Sit) : Prop where
  at_ : lam S.pos.line S.pos.col = true
  L : LamX.LamS X.env.scope S.scope
  hdef : defaultsOf S.params X.env = ([], [])
section
variable {X : Cx} {T : Tbl} {lam : Nat → Nat → Bool} {c P : Addr} {σ : L2.St}
theorem LamF.away (F : LamF X T lam c P) {f : Addr} (h : f ∉ frs X.stack) : f ≠ X.env.locals ∧ f ∉ X.fs := by
  have e : frs X.stack = X.env.locals :: X.fs := by
    rw [F.stk]
    show (X.env :: X.outer).filterMap (·.frame) = _
    rw [List.filterMap_cons, F.frm]
    rfl
  rw [e] at h
  exact ⟨fun z => h (by rw [z]; exact .head _), fun z => h (.tail _ z)⟩
theorem lams_run (F : LamF X T lam c P) : ∀ (Ss : List Sit) (ps : Pos) (pins : List (Addr × Obj)) (s : Shared) (H : Hp) (Q : List Value → Shared → Prop), (∀ S ∈ Ss, SitL X lam S) → Inv X pins σ H s → Tabs T H →
    (∀ (fs : List (Addr × Obj)) (H' : Hp) (s' : Shared), Inv X (pins ++ fs) σ H' s' → LamX.ExtN H H' → Tabs T H' → Made X H' Ss fs → Q (fs.map fun p => .ref p.1) s') →
    wpAny (model X.prog X.w) X.A (spliced (backTo ps (starEach (Ss.map Sit.e) X.env))) Q X.xe s
  | [], ps, pins, s, H, Q, _, I, hT, h => Calls.spliced_nil (h [] H s (by rw [List.append_nil]; exact I) (LamX.ExtN.refl H) hT .nil)
  | S :: Ss, ps, pins, s, H, Q, hS, I, hT, h => by
    have q := hS S (.head _)
    show wpAny _ _ (spliced ((false, eval S.e X.env) :: backTo ps (starEach (Ss.map Sit.e) X.env))) _ _ s
    refine Calls.spliced_cons (mk_lam I F.TB F.code F.mem q.at_ F.uniq hT q.hdef (q.L.has I.ok) fun f c1 pm ctv H1 s1 I1 e1 T1 hf hn hfr hco => ?_)
    obtain ⟨a1, a2⟩ := F.away hfr
    have I2 : Inv X (pins ++ [(f, lamO X S pm c1 ctv)]) σ H1 s1 := inv_pin I1 ⟨hf, hn, a1, a2, fun v z => by cases z⟩
    refine lams_run F Ss ps _ s1 H1 _ (fun S' h' => hS S' (.tail _ h')) I2 T1 fun fs H2 s2 I3 e2 T2 m => ?_
    have m' : Made X H2 (S :: Ss) ((f, lamO X S pm c1 ctv) :: fs) := .cons (e2 _ _ hco LamX.codeO_ne) m
    exact h _ H2 s2 (by rw [List.append_assoc] at I3; exact I3) (e1.trans e2) T2 m'
/-- the list of them -/
theorem lst_run (F : LamF X T lam c P) {Ss : List Sit} {lp : Pos} {pins : List (Addr × Obj)} {s : Shared} {H : Hp} (hS : ∀ S ∈ Ss, SitL X lam S) (hl : Ss.length ≤ 100) (I : Inv X pins σ H s) (hT : Tabs T H) :
    wpAny (model X.prog X.w) X.A (eval (.List (Ss.map Sit.e) lp) X.env) (fun v s' => ∃ (fs : List (Addr × Obj)) (l : Addr) (H' : Hp), v = .ref l ∧ Inv X (pins ++ fs) σ (upd H' l (.lst (fs.map fun p => .ref p.1))) s' ∧ H' l = none ∧ LamX.ExtN H H' ∧ Tabs T H' ∧ Made X H' Ss fs) X.xe s := by
  refine wpAny_List_spliced (lams_run F Ss lp pins s H _ hS I hT fun fs H1 s1 I1 e1 T1 m => ?_)
  have z : (fs.map fun p : Addr × Obj => Value.ref p.1).length ≤ sizeLine := by
    rw [List.length_map, m.len]
    exact Nat.le_trans hl (by decide)
  have hn : H1 s1.heap.objs.size = none := I1.hok.fresh (Nat.le_refl _)
  have rv : Vals (fs.map fun p => V.ref p.1) (fs.map fun p => Value.ref p.1) := by
    clear m z I1 hn
    induction fs with
    | nil => exact .nil
    | cons p fs ih => exact .cons rfl ih
  refine ⟨z, fs, s1.heap.objs.size, H1, rfl, ?_, hn, e1, T1, m⟩
  exact I1.laid (t' := s1.toks) (fun b u e => Heap.get?_push_of_some _ e) (Nat.le_refl _) ⟨by rw [List.length_map] at z ⊢; exact z, _, 0, rv, Heap.get?_push_size _ rfl⟩
end
end DL

/-! isinstance of a caught error with or without a dict of its own -/
namespace DL
open PySem PySem.Spec PySem.Calls PyProof.Rows PySem.W
section
variable {prog : Program} {w : World} {A : Around} {K : Frag} {x D : Addr} {ox : Obj} {od : Option Obj}
abbrev vGa : Value := .builtin "BaseException.__getattribute__"
abbrev vGs : Value := .builtin "getset_descriptor.__get__"
abbrev vCl : Value := .builtin "object.__class__"
/-- the class is read off the type, whatever the error's own dict holds -/
theorem cls_found (C : L2.ExcC K D) : findObj K D od "__class__" = some (.bind vGs vCl) := by
  obtain ⟨cd, hcd, _⟩ := any_some C.hd
  show (clsIn K D).bind _ = _
  rw [hcd, Option.bind_some, C.ha, Option.bind_some]
  simp [C.hn, C.ht]
theorem cls_read {E : Value → Shared → Prop} {Q : Option Value → Shared → Prop} {s : Shared} (C : L2.ExcC K D) (X : K.In s.heap) (I : InstAt s.heap x ox D od) (done : Q (some (.ref D)) { s with toks := s.toks + 1 }) : wpAny (model prog w) A (getAttr? (.ref x) "__class__") Q E s := by
  rcases s with ⟨h0, gs, dr, tk, o0⟩
  have ty := I.type (M := model prog w)
  have exc : Looks (model prog w) h0 (isInstance (.ref x) (.type "BaseException")) true := ty.andThen (looks_subIn X C.hs)
  have n2 : (vGa == Value.builtin "object.__getattribute__") = false := by decide +kernel
  have n1 : (onTheHeap (Value.ref D) && vGa == Value.builtin "object.__getattribute__") = false := (Bool.and_eq_false_iff).mpr (.inr n2)
  have on : onTheHeap (Value.ref D) = true := rfl
  unfold getAttr? getAttrBy? getAttrBy
  refine wpAny_bind <| wpAny_mkText <| wpAny_bind <| wpAny_attempt <| wpAny_holding <| wpAny_bind <| ty.at <| wpAny_bind <| (looks_findIn (M := model prog w) X C.hg).at ?_
  change wpAny _ _ (if (onTheHeap (Value.ref D) && vGa == Value.builtin "object.__getattribute__") = true then _ else _) _ _ _
  simp only [n1, if_false, Bool.false_eq_true]
  unfold getAttrByItsOwn hookBefore
  refine wpAny_bind ?_
  simp only [on, if_true]
  refine (looks_findIn (M := model prog w) X C.hk).at <| wpAny_bind <| wpAny_attempt <| wpAny_holding ?_
  unfold callGetattribute
  simp only [show (false && onTheHeap vGa) = false from rfl, if_false, Bool.false_eq_true]
  unfold boundAndCalled
  rw [PySem.F.excAttr_ValueError.ga.bind (.ref x)]
  refine wpAny_bind <| wpAny_pure ?_
  change wpAny _ _ (call vGa [.ref x, .str "__class__" tk]) _ _ _
  refine wpAny_call <| codeAny_call_builtin PySem.F.excAttr_ValueError.ga.plain PySem.F.entry_bexc_ga <|
    @check_slot (model prog w) _ _ ⟨h0, gs, dr, tk + 1, o0⟩ "BaseException.__getattribute__" "BaseException" "__getattribute__" (.ref x) [.str "__class__" tk] [] _ (by decide +kernel) (by decide +kernel) exc (PySem.F.args_bexc_ga (.ref x) (.str "__class__" tk)) ?_
  unfold Builtin.«object.__getattribute__»
  refine wpAny_bind <| wpAny_of_eq (a := ((Value.ref x : Value), [Value.str "__class__" tk])) (by first | rfl | (simp only [slotArgs]; rfl)) <| wpAny_bind <| wpAny_pure <| wpAny_bind <| ty.at <| wpAny_bind <| (looks_find (M := model prog w) X I (cls_found C)).at ?_
  change wpAny _ _ (holding [vCl] (call vGs [vCl, .ref x, .ref D]) >>= ret) _ _ _
  refine wpAny_bind <| wpAny_holding <| wpAny_call <| class_get (s := ⟨h0, gs, dr, tk + 1, o0⟩) (ox := ox) (od := od) X I C.hm <| wpAny_pure ?_
  change wpAny _ _ (handedOut (.ref D)) _ _ _
  rw [handedOut_of (v := .ref D) rfl]
  first
    | exact wpAny_pure (wpAny_bind (wpAny_pure (wpAny_pure done)))
    | exact wpAny_pure (wpAny_pure done)
    | exact wpAny_pure done
theorem kit_exc (C : L2.ExcC K D) : KitX K (.ref x) (.ref D) (fun h => InstAt h x ox D od) := by
  obtain ⟨cd, hcd, _⟩ := any_some C.hd
  unfold clsIn at hcd
  split at hcd
  · rename_i c1 d1 cd1 sl1 ho
    exact { ty := fun _ _ _ I => I.type
            it := fun _ _ X _ => by
              intro A' Q' E' s' k q
              unfold isType loadHead
              exact wpAny_bind <| wpAny_loadPart (k _ _ (X _ _ ho)) <| wpAny_pure q
            ne := fun h tp dd its n sl X hp => by
              cases e : (Value.ref D == .ref tp) with
              | false => rfl
              | true =>
                have := Value.ref.inj (beq_iff_eq.mp e)
                rw [← this, X _ _ ho] at hp
                cases hp
            ca := fun X I k => cls_read C X I k }
  · cases hcd
end
end DL
namespace DL
open PySem PySem.Spec L2 PyProof.Rows
/-- isinstance(e, t), e the error that the suite holds -/
def rIsD (K : PySem.W.Frag) (D a : Addr) (d : Option Addr) : List V → Hp → VK → Prop := fun xs H Q => ∃ (t : V) (tv : Value) (b : Bool), xs = [.ref a, t] ∧ (∀ u, RelV t u → u = tv) ∧ PySem.W.kitOne K (.ref D) tv = some b ∧ (∀ dx, d = some dx → ∃ fs, H dx = some (.xd fs)) ∧ Q (.bl b) H
theorem call_isD {X : Cx} {a D : Addr} {oe : Obj} {d : Option Addr} {pn : List (Addr × Obj)} (C : ExcC X.K D) (hz : Zc (.ref D) d oe) (hf : ∃ vs, oe.data = .fields vs) : CallR (X.suite a ((a, oe) :: pn)) (.builtin "isinstance") (rIsD X.K D a d) := by
  rintro pins s σ H _ us Q I r ⟨t, tv, b, rfl, ht, e, hd, q⟩
  match us, r with
  | [_, _], .cons r1 (.cons r2 .nil) =>
    cases r1
    obtain rfl := ht _ r2
    have at_ := (I.pin (a, oe) (List.mem_append.mpr (.inl List.mem_cons_self))).1
    have J : ∃ od, PySem.W.InstAt s.heap a oe D od := by
      obtain ⟨vs, hv⟩ := hf
      have no : PySem.W.notCls oe = true := by unfold PySem.W.notCls; rw [hv] <;> rfl
      cases d with
      | none => exact ⟨none, at_, hz.1, no, by rw [hz.2]; trivial⟩
      | some dx =>
        obtain ⟨fs, hx⟩ := hd dx rfl
        obtain ⟨mA, ⟨ob, es, ep, e2, _⟩, _⟩ := I.hok dx _ hx
        exact ⟨some ob, at_, hz.1, no, by rw [hz.2]; exact e2⟩
    obtain ⟨od, J⟩ := J
    exact PySem.W.kia_one (kit_exc C) I.kIn J e (fun z => nomatch z) fun tk => ⟨.bl b, H, I.kept (t' := tk) fun _ _ z => z, rfl, q⟩
end DL

/-! a def that tells of what classes an error is -/
namespace DL
open PySem PySem.Spec L2 PyProof.Rows
def tIs (K : PySem.W.Frag) (D a : Addr) (d : Option Addr) (i : Nat) (us : List Value) : TA := fun σ H Q => σ[i]? = some (some (.ref a)) ∧ (∀ dx, d = some dx → ∃ fs, H dx = some (.xd fs)) ∧ ∃ bs : List Bool, Paired (fun u b => PySem.W.kitOne K (.ref D) u = some b) us bs ∧ Q (bs.map .bl) H
section
variable {Z : Cx} {K : PySem.W.Frag} {D a : Addr} {d : Option Addr} {i : Nat}
theorem isi_nil : PA Z [] (tIs K D a d i []) := PA.imp pa_nil fun σ H Q h => by
  obtain ⟨_, _, bs, p, q⟩ := h
  cases p
  exact q
theorem isi_cons {n t : Str} {v : V} {u : Value} {us : List Value} {es : List Expr} {p1 p2 p3 p4 : Pos} (hc : CallR Z (.builtin "isinstance") (rIsD K D a d)) (hg : Gl Z "isinstance") (hm : Z.mg "isinstance" = none) (hi : Z.N[i]? = some n) (hv : Vis Z.env.scope n) (ht : PE Z (.Name t p3) (tC v)) (hu : ∀ w, RelV v w → w = u)
    (hr : PA Z es (tIs K D a d i us)) (hd : (n == ("__debug__" : Str)) = false := by decide) (hcd : (n == ("__classdict__" : Str)) = false := by decide) : PA Z (.Call (.Name "isinstance" p1) [.Name n p2, .Name t p3] [] p4 :: es) (tIs K D a d i (u :: us)) :=
  PA.imp (pa_cons (pe_callB hc hg hm (by decide +kernel) (pa_cons (pe_var (i := i) hi hv hd hcd) (pa_cons ht pa_nil))) hr) fun σ H Q h => by
    obtain ⟨h1, h2, bs, p, q⟩ := h
    cases p with
    | @cons _ b _ bs k p =>
      refine ⟨.ref a, h1, v, u, b, rfl, hu, k, h2, h1, h2, bs, p, ?_⟩
      exact q
end
/-- what comes back: a new list of these -/
def Res (H : Hp) (Q : VK) (bs : List Bool) : Prop := ∀ (H' : Hp) (p : Addr), (∀ b o, H b = some o → H' b = some o) → H p = none → H' p = some (.lst (bs.map .bl)) → Q (.ref p) H'
def TTi (K : PySem.W.Frag) (c : Value) (us1 us2 : List Value) : (XK → Hp → VK → Prop) → Hp → VK → Prop := fun tl H Q =>
  tl (fun cls d H' => ∃ (D : Addr) (bs1 bs2 : List Bool), cls = .ref D ∧ ExcC K D ∧ PySem.W.exmOne K cls c = some true ∧ Paired (fun u b => PySem.W.kitOne K (.ref D) u = some b) us1 bs1 ∧ Paired (fun u b => PySem.W.kitOne K (.ref D) u = some b) us2 bs2 ∧ bs1.length + bs2.length ≤ 100 ∧ (∀ dx, d = some dx → ∃ fs, H' dx = some (.xd fs)) ∧ Res H' Q (bs1 ++ bs2)) H
    (fun _ H' => ([] : List V).length ≤ sizeLine ∧ ∀ p, H' p = none → Q (.ref p) (upd H' p (.lst [])))
theorem takes_len {X : Cx} {W : WX} (tk : Takes X W) : Takes X (fun cls d σ H => σ.length = X.N.length → W cls d σ H) := fun u s' x => by
  obtain ⟨a, B, sI, pins, σ, H, cls, d, e, I, nb, up, sky, na, os, ag, w⟩ := x
  exact tk u s' ⟨a, B, sI, pins, σ, H, cls, d, e, I, nb, up, sky, na, os, ag, w I.len⟩
theorem gives_isi {X : Cx} {Ng : List Str} {x a n sm xe q : Str} {sg : Scope} {g : Addr} {cdg c : Value} {us1 us2 : List Value} {es1 es2 : List Expr} {ie is : Nat} {p1 p2 p3 np q1 q2 q3 q4 q5 q6 q7 q8 p8 r1 r2 : Pos}
    (hgl : sg.names.lookup xe = some .globalImplicit) (hme : X.mg xe = some c) (hde : (xe == ("__debug__" : Str)) = false) (h0 : ∀ f : Addr, (L2.start Ng [V.ref f])[0]? = some (some (V.ref f)))
    (hN : Ng.Nodup) (hie : Ng[ie]? = some n) (his : Ng[is]? = some sm) (hne : ie ≠ is) (hln : sg.names.lookup n = some .local) (hls : sg.names.lookup sm = some .local)
    (hd1 : (sm == ("__debug__" : Str)) = false) (hd2 : (sm == ("__classdict__" : Str)) = false)
    (he1 : ∀ (Z : Cx) (D a0 : Addr) (d : Option Addr), Z.env.scope = sg → Z.mg = X.mg → Z.N = Ng → CallR Z (.builtin "isinstance") (rIsD X.K D a0 d) → PA Z es1 (tIs X.K D a0 d ie us1))
    (he2 : ∀ (Z : Cx) (D a0 : Addr) (d : Option Addr), Z.env.scope = sg → Z.mg = X.mg → Z.N = Ng → CallR Z (.builtin "isinstance") (rIsD X.K D a0 d) → PA Z es2 (tIs X.K D a0 d ie us2)) :
    LamX.GivesTo X Ng x sg g cdg [.Try [.Expr (.Call (.Name a p1) [] [] p2) p3] [.ExceptHandler (some (.Name xe np)) (some n) [.Assign [.Name sm q1] (.List es1 q2) q3, .Return (some (.BinOp (.Name sm q4) .Add (.List es2 q5) q6)) q7] q8] [] [] p8, .Return (some (.List [] r1)) r2] a q (TTi X.K c us1 us2) := by
  intro f c' s H Q tl act hc h
  let Y := (cxOf C8.CX0 X.prog X.w X.K X.mg X.base Ng x sg g cdg X.A X.stack s H C8.E0).nox
  have try_ : PS Y (.Try [.Expr (.Call (.Name a p1) [] [] p2) p3] [.ExceptHandler (some (.Name xe np)) (some n) [.Assign [.Name sm q1] (.List es1 q2) q3, .Return (some (.BinOp (.Name sm q4) .Add (.List es2 q5) q6)) q7] q8] [] [] p8) _ :=
    ps_try_as (X := Y) (c := c) (i := ie) (Wout := fun _ _ _ _ => False) rfl rfl hN hie hln ⟨hgl, hde, .inl hme⟩ LamX.takes0
      (tb := fun W D σ H => ∃ Ech : XK, (∀ cls d σ' H', Ech cls d H' → σ'.length = Ng.length → W cls d σ' H') ∧ σ[0]? = some (some (.ref f)) ∧ H c' = some (LamX.CodeO c' q) ∧ tl Ech H fun _ H' => D.nx σ H')
      (ts := fun a0 cls d => fun Z σ H => ∃ D, cls = .ref D ∧ ExcC X.K D ∧ (tSeq (tAsg (tLst (tIs X.K D a0 d ie us1)) (gName is)) (tRet (tOp rCat (tVar is) (tLst (tIs X.K D a0 d ie us2))))) Z σ H)
      (fun W pn xe tk _ => ⟨fun pins s' σ H' D I ⟨Ech, hW, h1, h2, h3⟩ => (pss_one (ps_expr (pos := p3) (act _ pn xe Ech p1 p2 (takes_len tk) fun cls d σ' H' e l => hW cls d σ' H' e l))).run pins s' σ H' D I ⟨h1, h2, h3⟩⟩)
      (fun a0 oe cls d pn hz hv => ⟨fun pins s' σ H' D I ⟨Dc, ec, C, h'⟩ => by
        subst ec
        have cr : CallR (Y.suite a0 ((a0, oe) :: pn)) (.builtin "isinstance") (rIsD X.K Dc a0 d) := call_isD C hz hv
        exact (pss_cons (ps_set (X := Y.suite a0 ((a0, oe) :: pn)) (i := is) hN his (.inl hls) (pe_lst (he1 (Y.suite a0 ((a0, oe) :: pn)) Dc a0 d rfl rfl rfl cr)) rfl (.inr hls)) (pss_one (ps_ret (pe_op op_cat (pe_var (i := is) his (.inl hls) hd1 hd2) (pe_lst (he2 (Y.suite a0 ((a0, oe) :: pn)) Dc a0 d rfl rfl rfl cr)))))).run pins s' σ H' D I h'⟩)
  refine ⟨_, pss_cons try_ (pss_one (ps_ret (pe_lst pa_nil))), ?_⟩
  refine ⟨_, fun cls d σ' H' hE hl => ?_, h0 f, hc, h⟩
  obtain ⟨D, bs1, bs2, rfl, C, hx, k1, k2, hn, hd, hR⟩ := hE
  refine ⟨true, hx, fun _ a0 ha => ⟨D, rfl, C, ?_⟩, fun z => nomatch z⟩
  have l1 : ie < σ'.length := by rw [hl]; exact (List.getElem?_eq_some_iff.mp hie).1
  have l2 : is < σ'.length := by rw [hl]; exact (List.getElem?_eq_some_iff.mp his).1
  refine ⟨by rw [List.getElem?_set_self l1], hd, bs1, k1, by rw [List.length_map]; exact Nat.le_trans (by omega : bs1.length ≤ 100) (by decide), fun p hp => ?_⟩
  have up : ∀ {H1 : Hp} {p : Addr} {o' : HO}, H1 p = none → ∀ b o, H1 b = some o → upd H1 p o' b = some o := fun hp b o e => by rw [upd_ne (ne_of_none e hp)]; exact e
  refine ⟨.ref p, by rw [List.getElem?_set_self (by rw [List.length_set]; exact l2)], ?_⟩
  refine ⟨by rw [List.getElem?_set_ne (Ne.symm hne), List.getElem?_set_self l1], fun dx e => ?_, bs2, k2, by rw [List.length_map]; exact Nat.le_trans (by omega : bs2.length ≤ 100) (by decide), fun p2 hp2 => ?_⟩
  · obtain ⟨fs, e2⟩ := hd dx e
    exact ⟨fs, up hp _ _ e2⟩
  · refine ⟨p, p2, bs1.map .bl, bs2.map .bl, rfl, rfl, up hp2 _ _ upd_same, upd_same, by rw [List.length_map, List.length_map]; exact Nat.le_trans hn (by decide), fun p3 hp3 => ?_⟩
    have n3 : H' p3 = none := by
      cases e : H' p3 with
      | none => rfl
      | some o =>
        rw [up hp2 _ _ (up hp _ _ e)] at hp3
        cases hp3
    exact hR _ p3 (fun b o e => up hp3 _ _ (up hp2 _ _ (up hp _ _ e))) n3 (by rw [upd_same, List.map_append])
end DL
namespace DL
open PySem PySem.Spec L2 PyProof.Rows
section
variable {Z : Cx} {K : PySem.W.Frag} {D a : Addr} {d : Option Addr} {i : Nat} {sg : Scope} {mg : Str → Option Value} {Ng : List Str}
/-- isinstance(e, t), t a class of one's own -/
theorem isi_own {n t : Str} {c : Addr} {us : List Value} {es : List Expr} {p1 p2 p3 p4 : Pos} (h1 : Z.env.scope = sg) (h2 : Z.mg = mg) (h3 : Z.N = Ng) (hc : CallR Z (.builtin "isinstance") (rIsD K D a d)) (hgi : sg.names.lookup ("isinstance" : Str) = some .globalImplicit) (hmi : mg "isinstance" = none)
    (hi : Ng[i]? = some n) (hln : sg.names.lookup n = some .local) (hgt : sg.names.lookup t = some .globalImplicit) (hmt : mg t = some (.ref c)) (hr : PA Z es (tIs K D a d i us)) (ht : (t == ("__debug__" : Str)) = false := by decide)
    (hd : (n == ("__debug__" : Str)) = false := by decide) (hcd : (n == ("__classdict__" : Str)) = false := by decide) : PA Z (.Call (.Name "isinstance" p1) [.Name n p2, .Name t p3] [] p4 :: es) (tIs K D a d i (.ref c :: us)) := by
  subst h1; subst h2; subst h3
  exact isi_cons hc hgi hmi hi (.inl hln) (pe_glob (v := .ref c) hgt hmt rfl ht) (fun w r => r) hr hd hcd
/-- isinstance(e, ValueError) -/
theorem isi_val {n : Str} {us : List Value} {es : List Expr} {p1 p2 p3 p4 : Pos} (h1 : Z.env.scope = sg) (h2 : Z.mg = mg) (h3 : Z.N = Ng) (hc : CallR Z (.builtin "isinstance") (rIsD K D a d)) (hgi : sg.names.lookup ("isinstance" : Str) = some .globalImplicit) (hmi : mg "isinstance" = none)
    (hi : Ng[i]? = some n) (hln : sg.names.lookup n = some .local) (hgt : sg.names.lookup ("ValueError" : Str) = some .globalImplicit) (hmt : mg "ValueError" = none) (hr : PA Z es (tIs K D a d i us))
    (hd : (n == ("__debug__" : Str)) = false := by decide) (hcd : (n == ("__classdict__" : Str)) = false := by decide) : PA Z (.Call (.Name "isinstance" p1) [.Name n p2, .Name "ValueError" p3] [] p4 :: es) (tIs K D a d i (.type "ValueError" :: us)) := by
  subst h1; subst h2; subst h3
  exact isi_cons hc hgi hmi hi (.inl hln) (pe_bltn (v := .ty "ValueError") hgt hmt (by decide +kernel) rfl) (fun w r => r) hr hd hcd
end
end DL

/-! whats = [lambda: .., ..]; for k in range(len(whats)): if told(whats[k]) != ..: return -/
namespace DL
open PySem PySem.Spec L2 PyProof.Rows
structure SitOk (X : Cx) (k : Nat) (S : Sit) (t : XK → TE) : Prop where
  L : LamX.LamS X.env.scope S.scope
  hbind : ∀ (q : Str) (cl : List (Str × Addr)) (pm cv ctv : Value), bindArgs (PySem.W.kla_fn "<lambda>" q S.params S.body S.scope cl pm cv ctv) ⟨[], []⟩ = pure []
  hbody : ∀ (A : Around) (outer : List Env) (s : Shared) (H : Hp) (E : XK) (f c' : Addr), Room k (A.deeper (LamX.lamEnv X S.scope s.heap.objs.size f c')) → PE (LamX.lamCx X A outer s H E S.scope f c') S.body (t E)
/-- a def of the top is called with a pinned lambda of this frame -/
theorem pe_handP {X : Cx} {TT : (XK → Hp → VK → Prop) → Hp → VK → Prop} {x a : Str} {g : Addr} {k : Nat} {st : Stmt} {fd : FuncData} {Ng : List Str}
    {e : Expr} {te : TE} {p pos : Pos} (he : PE X e te) (F : Fun X.K x x st g fd) (hg : Gl X x) (hm : X.mg x = some (.ref g)) (hb : L2.Binds X.K fd [a] []) (Sg : FnScope Ng [a] (defScope st)) (hNg : Ng[0]? = some a) (hva : Vis (defScope st) a)
    (hG : ∀ cdv, LamX.GivesTo X Ng x (defScope st) g cdv (defBody st) a (X.env.qual ++ "<lambda>") TT) (hr : Room (k + 2) X.A) (hstk : X.stack = X.env :: X.outer) (hfrm : X.env.frame = some X.env.locals)
    (hs : starEach [e] X.env = [(false, eval e X.env)] := by rfl)
    (hdb : (x == ("__debug__" : Str)) = false := by decide) (hd : (a == ("__debug__" : Str)) = false := by decide) (hcd : (a == ("__classdict__" : Str)) = false := by decide) :
    PE X (.Call (.Name x p) [e] [] pos) (fun σ H Q => te σ H fun v H1 => ∃ (f : Addr) (S : Sit) (t : XK → TE) (c' : Addr) (pm ctv : Value), v = .ref f ∧ SitOk X k S t ∧ (f, lamO X S pm c' ctv) ∈ X.pn ∧ H1 c' = some (LamX.CodeO c' (X.env.qual ++ "<lambda>")) ∧ TT (fun E H' Q' => t E σ H' Q') H1 Q) := by
  obtain ⟨oc, od, kV, doc, pm0, an, cdv, ct, osl, rfl, lk, hco⟩ := F.ex
  refine ⟨fun pins s σ H Q I h => wpAny_Call_Name_kw (ld_glob I hg hm (PySem.W.callWith_K (h₀ := X.base) I.ok.mod.kin F.kp ?_ (hs.trans rfl) (by rfl)) hdb)⟩
  show wpAny _ _ (spliced (backTo pos (starEach [e] X.env))) _ _ s
  rw [hs]
  refine Calls.spliced_cons (thn (he.run pins s σ H _ I h) fun u s1 h1 => Calls.spliced_nil ?_)
  obtain ⟨v, H1, I1, r1, f, S, t, c', pm, ctv, rfl, so, hp, hc, q⟩ := h1
  cases r1
  refine ⟨I1.kIn, ?_⟩
  obtain ⟨p1, p2, p3, p4, _⟩ := I1.pin _ (List.mem_append_left pins hp)
  have away : f ∉ frs X.stack := by
    rw [hstk]
    show f ∉ (X.env :: X.outer).filterMap (·.frame)
    rw [List.filterMap_cons, hfrm]
    intro z
    rcases List.mem_cons.mp z with z | z
    · exact p3 z
    · exact p4 z
  have ran : codeAny (model X.prog X.w) X.A (.call (.ref g) ⟨[.ref f], []⟩) (L2.CR C8.CX0 X.stack X.prog X.w H1 s1 Q C8.E0) s1 := LamX.run_ofS (N := Ng) (ps := [a]) (us := [.ref f]) (vs := [.ref f]) lk hco Sg hr I1.env0 (hb s1 [.ref f] I1.kIn rfl) (.cons rfl .nil) rfl fun hr' => by
    obtain ⟨t', ht', hq'⟩ := hG cdv f c' s1 H1 Q (fun E H' Q' => t E σ H' Q') (fun W pn xe E q1 q2 tk hW => LamX.pe_act (i := 0) I1 so.L p1 p2 away (so.hbind _ _ _ _ _) tk hW hr' (fun A outer s H hr2 => so.hbody A outer s H E f c' hr2) hNg hva hd hcd) hc q
    exact ⟨t', ht'.nox, hq'⟩
  refine wpAny_call (codeAny_mono ran fun r s2 hq => ?_)
  match r, hq with
  | .ok (.ret u), hq => exact I1.after hq
/-! ### the reading -/
def whL (j n : Nat) : List D := ((List.range n).map fun i => D.bl (Nat.beq i j)) ++ [.bl true]
def whs (ik r0 n : Nat) (cw cr : CE) : Nat → List (CE × Nat) → SD → Hd → (Hd → Bool) → Bool
  | _, [], _, η, k => k η
  | j, p :: r, σ, η, k => cw (σ.set ik (some (.int (Int.ofNat j)))) η (fun d η1 => match d with
      | .ref q => match Nat.beq q (r0 + j) with
        | true => p.1 (σ.set ik (some (.int (Int.ofNat j)))) η1 (fun _ _ => false) (fun x η2 => match Nat.beq x.c p.2 with
          | true => cr (σ.set ik (some (.int (Int.ofNat j)))) (η2.new (.lst (whL j n))) (fun e η3 => match fNe (.ref η2.nx) e η3 with
            | some (.bl false, η4) => whs ik r0 n cw cr (j + 1) r σ η4 k
            | _ => false) (fun _ _ => false)
          | false => false)
        | false => false
      | _ => false) (fun _ _ => false)
def whη (η : Hd) (n : Nat) : Hd := Hd.new ⟨η.nx + n, η.cs⟩ (.lst ((List.range n).map fun j => .ref (η.nx + j)))
def whK (ik r0 : Nat) (cw cr : CE) (l : List (CE × Nat)) (σ : SD) (kf : Hd → Bool) : List D → Hd → Bool := fun ds η2 => match ds with
  | [.int (.ofNat m)] => match Nat.beq m l.length with
    | true => whs ik r0 l.length cw cr 0 l σ η2 kf
    | false => false
  | _ => false
def whσ (iw ik : Nat) (q : Nat) (σ : SD) : SD := (σ.set iw (some (.ref q))).set ik none
def sWh (iw ik : Nat) (ca : CA) (cw cr : CE) (l : List (CE × Nat)) : CS := fun σ η k =>
  ca (σ.set iw (some (.ref (η.nx + l.length)))) (whη η l.length) (whK ik η.nx cw cr l (whσ iw ik (η.nx + l.length) σ) (fun η3 => k.nx (whσ iw ik (η.nx + l.length) σ) η3)) (fun _ _ => false)
/-! ### worlds -/
section
variable {K : PySem.W.Frag} {N : Names} {W : Wl}
def Wl.skip (W : Wl) (fs : List Addr) : Wl := ⟨fun r => if r < W.η.nx then W.μ r else fs.getD (r - W.η.nx) 0, ⟨W.η.nx + fs.length, W.η.cs⟩, W.H⟩
theorem Wl.Ok.skip (o : W.Ok K N) (fs : List Addr) : Ext W (W.skip fs) ∧ (W.skip fs).Ok K N := by
  have mu : ∀ r, r < W.η.nx → (W.skip fs).μ r = W.μ r := fun r h => if_pos h
  have gt : ∀ r c, (W.skip fs).η.get r = some c → W.η.get r = some c := fun r c e => e
  have x : Ext W (W.skip fs) := ⟨Nat.le_add_right _ _, mu, fun a u h _ _ => h, fun a u h t => ⟨u, h, t⟩, fun r c h => .inl ⟨c, h, id⟩⟩
  refine ⟨x, fun r c e => Nat.lt_of_lt_of_le (o.lt r c e) (Nat.le_add_right _ _), fun r c e => ?_, fun r s c d h1 h2 e => ?_, o.tab⟩
  · rw [mu r (o.lt r c e)]
    exact (o.cell r c e).mono o x fun ob _ h => h
  · rw [mu r (o.lt r c h1), mu s (o.lt s d h2)] at e
    exact o.inj r s c d h1 h2 e
end
section
variable {X : Cx} {N : Nm} {E : XK}
/-- what holds through the loop -/
structure WhF (X : Cx) (W0 : Wl) (r0 : Nat) (Ss : List Sit) (fs : List (Addr × Obj)) : Prop where
  mu : ∀ j p, fs[j]? = some p → W0.μ (r0 + j) = p.1 ∧ r0 + j < W0.η.nx
  made : Made X W0.H Ss fs
theorem code_keep {K : PySem.W.Frag} {N : Names} {W W' : Wl} (o : W.Ok K N) (x : Ext W W') {c : Addr} {q : Str} (h : W.H c = some (LamX.CodeO c q)) : W'.H c = some (LamX.CodeO c q) :=
  x.fr c _ h LamX.codeO_ne fun r cl e _ z => o.noTab e (u := LamX.CodeO c q) (by rw [z]; exact h) (.inr ⟨c, q, rfl⟩)
end
end DL

/-! the loop over lambdas: its walk -/
namespace DL
open PySem PySem.Spec L2 PyProof.Rows
def whB (j n : Nat) : List Bool := ((List.range n).map fun i => Nat.beq i j) ++ [true]
theorem whL_eq (j n : Nat) : whL j n = (whB j n).map D.bl := by
  unfold whL whB
  rw [List.map_append, List.map_map]
  rfl
theorem relBls {W : Wl} : ∀ bs : List Bool, RelDs W (bs.map D.bl) (bs.map V.bl)
  | [] => .nil
  | b :: bs => .cons (by rw [RelD]) (relBls bs)
section
variable {X : Cx} {N : Nm} {E : XK} {Ss : List Sit} {l : List (CE × Nat)} {fs : List (Addr × Obj)} {W0 : Wl} {r0 ik k0 : Nat} {cw cr : CE} {c : Value} {us1 us2 : List Value}
/-- of what classes the j-th error is -/
def ClsOk (K : PySem.W.Frag) (N : Nm) (c : Value) (us1 us2 : List Value) (n j cn : Nat) : Prop := ExcC K (N.cls cn) ∧ PySem.W.exmOne K (.ref (N.cls cn)) c = some true ∧ ∃ bs1 bs2, Paired (fun u b => PySem.W.kitOne K (.ref (N.cls cn)) u = some b) us1 bs1 ∧ Paired (fun u b => PySem.W.kitOne K (.ref (N.cls cn)) u = some b) us2 bs2 ∧ bs1.length + bs2.length ≤ 100 ∧ bs1 ++ bs2 = whB j n
/-- the call and the comparison at one round -/
theorem wh_round {pn : List (Addr × Obj)} {σd : SD} {σ : L2.St} {W : Wl} {j : Nat} {p : CE × Nat} {rest : List (CE × Nat)} {S : Sit} {kf : Hd → Bool} {Qb : Bool → Hp → Prop} {n : Nat}
    (o0 : W0.Ok X.K N.toNames) (F : WhF X W0 r0 Ss fs) (hpn : ∀ q ∈ fs, q ∈ pn) (o : W.Ok X.K N.toNames) (x0 : Ext W0 W) (s : RelS W (σd.set ik (some (.int (Int.ofNat j)))) σ) (hS : Ss[j]? = some S) (so : SitOk X k0 S (fun E' => tE X.K N E' p.1)) (hc : ClsOk X.K N c us1 us2 n j p.2) (hn : n ≤ 90)
    (h : whs ik r0 n cw cr j (p :: rest) σd W.η kf = true)
    (hq : ∀ W', W'.Ok X.K N.toNames → Ext W0 W' → Ext W W' → whs ik r0 n cw cr (j + 1) rest σd W'.η kf = true → Qb false W'.H) :
    tTest (tOp (r2 X.K N fNe) (fun σ H Q => tE X.K N E cw σ H fun v H1 => ∃ (f : Addr) (S : Sit) (t : XK → TE) (c' : Addr) (pm ctv : Value), v = .ref f ∧ SitOk X k0 S t ∧ (f, lamO X S pm c' ctv) ∈ pn ∧ H1 c' = some (LamX.CodeO c' (X.env.qual ++ "<lambda>")) ∧ TTi X.K c us1 us2 (fun E' H' Q' => t E' σ H' Q') H1 Q) (tE X.K N E cr)) σ W.H Qb := by
  obtain ⟨f, c', pm, ctv, hf, hco⟩ := F.made.at_ hS
  obtain ⟨hm1, hm2⟩ := F.mu j _ hf
  refine ⟨W, _, _, _, rfl, o, s, h, fun W1 d v x1 o1 r1 h1 => ?_, fun W1 xx cls dd _ _ _ e => nomatch e⟩
  cases d with
  | ref q =>
    have hA : (match Nat.beq q (r0 + j) with
        | true => p.1 (σd.set ik (some (.int (Int.ofNat j)))) W1.η (fun _ _ => false) (fun x η2 => match Nat.beq x.c p.2 with
          | true => cr (σd.set ik (some (.int (Int.ofNat j)))) (η2.new (.lst (whL j n))) (fun e η3 => match fNe (.ref η2.nx) e η3 with
            | some (.bl false, η4) => whs ik r0 n cw cr (j + 1) rest σd η4 kf
            | _ => false) (fun _ _ => false)
          | false => false)
        | false => false) = true := h1
    cases eq : Nat.beq q (r0 + j) with
    | false => rw [eq] at hA; cases hA
    | true =>
      rw [eq] at hA
      clear h1
      have eqq := Nat.eq_of_beq_eq_true eq
      subst eqq
      have x01 := x0.trans o0 o x1
      rw [RelD] at r1
      obtain ⟨_, rfl⟩ := r1
      have ev : W1.μ (r0 + j) = f := (x01.mu _ hm2).trans hm1
      refine ⟨f, S, _, c', pm, ctv, by rw [ev], so, hpn _ (List.mem_of_getElem? hf), code_keep o0 x01 hco, ?_⟩
      refine ⟨W1, _, _, _, rfl, o1, s.mono o x1, hA, (fun _ _ _ _ _ _ e => nomatch e), fun W2 xx cls dd x2 o2 rx h2 => ?_⟩
      have hB : (match Nat.beq xx.c p.2 with
          | true => cr (σd.set ik (some (.int (Int.ofNat j)))) (W2.η.new (.lst (whL j n))) (fun e η3 => match fNe (.ref W2.η.nx) e η3 with
            | some (.bl false, η4) => whs ik r0 n cw cr (j + 1) rest σd η4 kf
            | _ => false) (fun _ _ => false)
          | false => false) = true := h2
      cases ec : Nat.beq xx.c p.2 with
      | false => rw [ec] at hB; cases hB
      | true =>
        rw [ec] at hB
        clear h2
        have ecc := Nat.eq_of_beq_eq_true ec
        obtain ⟨rc, rp⟩ := rx
        obtain ⟨c1, c2, bs1, bs2, k1, k2, kl, kb⟩ := hc
        rw [← ecc] at c1 c2 k1 k2
        refine ⟨N.cls xx.c, bs1, bs2, rc, c1, by rw [rc]; exact c2, k1, k2, kl, fun dx e => ?_, fun H' pp keep hp hl => ?_⟩
        · cases ep : xx.p with
          | none => rw [ep] at rp; rw [rp] at e; cases e
          | some d0 =>
            rw [ep] at rp
            obtain ⟨a0, v0, e1, h0, _⟩ := rp
            rw [e1] at e
            cases e
            exact ⟨_, h0⟩
        · rw [kb] at hl
          -- the list that came back
          have hc0 : RelC X.K N.toNames (W2.new pp (.lst (whL j n)) (.lst ((whB j n).map V.bl))) pp (.lst (whL j n)) := ⟨(whB j n).map V.bl, upd_same, by rw [whL_eq]; exact relBls _, by
            rw [whL_eq, List.length_map]
            unfold whB
            rw [List.length_append, List.length_map, List.length_range]
            exact Nat.le_trans (show n + 1 ≤ 100 by omega) (by decide)⟩
          obtain ⟨x3, o3⟩ := o2.new hp hc0
          have up : ∀ b u, (W2.new pp (.lst (whL j n)) (.lst ((whB j n).map V.bl))).H b = some u → H' b = some u := fun b u e => by
            have e : upd W2.H pp (.lst ((whB j n).map V.bl)) b = some u := e
            by_cases hb : b = pp
            · subst hb; rw [upd_same] at e; cases e; exact hl
            · rw [upd_ne hb] at e; exact keep b u e
          obtain ⟨x4, o4⟩ := o3.grown (H1 := H') (LamX.ExtN.of up) (tabs_keep o3.tab fun b u e _ => up b u e)
          have x14 : Ext W1 _ := (x2.trans o1 o2 x3).trans o1 o3 x4
          have x24 : Ext W2 _ := x3.trans o2 o3 x4
          refine ⟨_, _, _, _, rfl, o4, (s.mono o x1).mono o1 x14, hB, fun W5 e y x5 o5 r5 h5 => ?_, fun _ _ _ _ _ _ _ e => nomatch e⟩
          have hC : (match fNe (.ref W2.η.nx) e W5.η with
            | some (.bl false, η4) => whs ik r0 n cw cr (j + 1) rest σd η4 kf
            | _ => false) = true := h5
          clear h5
          split at hC
          · rename_i η4 e6
            have mu5 : W5.μ W2.η.nx = pp := by
              rw [x5.mu _ (show W2.η.nx < Nat.succ W2.η.nx from Nat.lt_succ_self _)]
              show (if W2.η.nx = W2.η.nx then pp else _) = pp
              rw [if_pos rfl]
            refine ⟨W5, .ref W2.η.nx, e, .bl false, η4, rfl, o5, by rw [RelD]; exact ⟨Nat.lt_of_lt_of_le (Nat.lt_succ_self _) x5.nx, by rw [mu5]⟩, r5, e6, fun W6 v x6 o6 e7 r6 => ?_⟩
            rw [RelD] at r6
            refine ⟨false, r6, ?_⟩
            have x06 : Ext W1 W6 := (x14.trans o1 o4 x5).trans o1 o5 x6
            exact hq W6 o6 (x01.trans o0 o1 x06) (x1.trans o o1 x06) (by rw [e7]; exact hC)
          · cases hC
  | _ => cases h1
end
end DL

/-! the list of lambdas and the loop over it, as one -/
namespace DL
open PySem PySem.Spec L2 PyProof.Rows
inductive WhAll (X : Cx) (N : Nm) (lam : Nat → Nat → Bool) (k0 : Nat) (c : Value) (us1 us2 : List Value) (n : Nat) : Nat → List Sit → List (CE × Nat) → Prop
  | nil {j : Nat} : WhAll X N lam k0 c us1 us2 n j [] []
  | cons {j : Nat} {S : Sit} {Ss : List Sit} {p : CE × Nat} {l : List (CE × Nat)} (hL : SitL X lam S) (hS : SitOk X k0 S (fun E' => tE X.K N E' p.1)) (hC : ClsOk X.K N c us1 us2 n j p.2) (t : WhAll X N lam k0 c us1 us2 n (j + 1) Ss l) : WhAll X N lam k0 c us1 us2 n j (S :: Ss) (p :: l)
section
variable {X : Cx} {N : Nm} {E : XK} {lam : Nat → Nat → Bool} {k0 n : Nat} {c : Value} {us1 us2 : List Value}
theorem WhAll.len {j : Nat} {Ss : List Sit} {l : List (CE × Nat)} (h : WhAll X N lam k0 c us1 us2 n j Ss l) : l.length = Ss.length := by
  induction h with
  | nil => rfl
  | cons _ _ _ _ ih => rw [List.length_cons, List.length_cons, ih]
theorem WhAll.sit {j : Nat} {Ss : List Sit} {l : List (CE × Nat)} (h : WhAll X N lam k0 c us1 us2 n j Ss l) : ∀ S ∈ Ss, SitL X lam S := by
  induction h with
  | nil => intro S h; cases h
  | cons hL _ _ _ ih =>
    intro S h
    cases h with
    | head => exact hL
    | tail _ h => exact ih S h
theorem WhAll.at_ {j : Nat} {Ss : List Sit} {l : List (CE × Nat)} (h : WhAll X N lam k0 c us1 us2 n j Ss l) : ∀ {i : Nat}, i < l.length → ∃ S p, Ss[i]? = some S ∧ l[i]? = some p ∧ SitOk X k0 S (fun E' => tE X.K N E' p.1) ∧ ClsOk X.K N c us1 us2 n (j + i) p.2 := by
  induction h with
  | nil => intro i h; cases h
  | @cons j S Ss p l _ hS hC t ih =>
    intro i hi
    cases i with
    | zero => exact ⟨S, p, rfl, rfl, hS, hC⟩
    | succ i =>
      obtain ⟨S', p', a, b, h1, h2⟩ := ih (Nat.lt_of_succ_lt_succ hi)
      exact ⟨S', p', a, b, h1, by rw [show j + (i + 1) = j + 1 + i by omega]; exact h2⟩
theorem Made.tr {H : Hp} {Ss : List Sit} {fs : List (Addr × Obj)} (m : Made X H Ss fs) (pn : List (Addr × Obj)) : Made (X.tr pn X.xe) H Ss fs := by
  induction m with
  | nil => exact .nil
  | cons h t ih => exact .cons h ih
theorem sit_mk {k : Nat} {S : Sit} {cb : CE} (L : LamX.LamS X.env.scope S.scope) (hbind : ∀ (q : Str) (cl : List (Str × Addr)) (pm cv ctv : Value), bindArgs (PySem.W.kla_fn "<lambda>" q S.params S.body S.scope cl pm cv ctv) ⟨[], []⟩ = pure [])
    (hbody : ∀ (A : Around) (outer : List Env) (s : Shared) (H : Hp) (E : XK) (f c' : Addr), Room k (A.deeper (LamX.lamEnv X S.scope s.heap.objs.size f c')) → JE (LamX.lamCx X A outer s H E S.scope f c') N E S.body cb) : SitOk X k S (fun E' => tE X.K N E' cb) := ⟨L, hbind, hbody⟩
/-- the whole: the list is made, each of its functions is called in its turn -/
theorem jb_whats {Ss : List Sit} {l : List (CE × Nat)} {cc P : Addr} {iw ik : Nat} {wn kn x a : Str} {g : Addr} {st : Stmt} {fd : FuncData} {Ng : List Str} {ca : CA} {cw cr : CE} {le we re : Expr} {rb : List Stmt} {cret : CS} {wp lp ap kp rp rp2 tp tp2 cp ip fp : Pos}
    (Fm : LamF X N.tabs lam cc P) (hN : X.N.Nodup) (hp : PassesOwn (model X.prog X.w) X.A X.env X.xe) (hcalm : X.calm = true) (hu : X.A.units + 64 < cLine)
    (hiw : X.N[iw]? = some wn) (hik : X.N[ik]? = some kn) (hlw : X.env.scope.names.lookup wn = some .local) (hlk : X.env.scope.names.lookup kn = some .cell) (hfk : X.fn kn = true) (hne : iw ≠ ik) (hgr : Gl X "range") (hmr : X.mg "range" = none)
    (all : WhAll X N lam k0 c us1 us2 l.length 0 Ss l) (hn : l.length ≤ 90)
    (hca : ∀ pn, JA (X.tr pn X.xe) N E [le] ca) (hcw : ∀ pn, JE (X.tr pn X.xe) N E we cw) (hcr : ∀ pn, JE (X.tr pn X.xe) N E re cr) (hret : ∀ pn, JB (X.tr pn X.xe) N E rb cret)
    (F : Fun X.K x x st g fd) (hg : Gl X x) (hm : X.mg x = some (.ref g)) (hb : L2.Binds X.K fd [a] []) (Sg : FnScope Ng [a] (defScope st)) (hNg : Ng[0]? = some a) (hva : Vis (defScope st) a)
    (hG : ∀ cdv, LamX.GivesTo X Ng x (defScope st) g cdv (defBody st) a (X.env.qual ++ "<lambda>") (TTi X.K c us1 us2)) (hr : Room (k0 + 2) X.A)
    (hs1 : swapsWith (.List (Ss.map Sit.e) lp) (some (.Name wn wp)) ap.line X.env = pure false) (hm2 : behindInMarks .NotEq re = false) (hs2 : starEach [le] X.env = [(false, eval le X.env)]) (hs3 : starEach [we] X.env = [(false, eval we X.env)])
    (hs4 : ∀ z, foldedSetIterable (.Call (.Name "range" rp) [le] [] rp2) X.env z = pure z)
    (hdb : (x == ("__debug__" : Str)) = false) (hd : (a == ("__debug__" : Str)) = false) (hcd : (a == ("__classdict__" : Str)) = false) :
    JB X N E [.Assign [.Name wn wp] (.List (Ss.map Sit.e) lp) ap, .For (.Name kn kp) (.Call (.Name "range" rp) [le] [] rp2) [.If (.Compare (.Call (.Name x tp) [we] [] tp2) [.NotEq] [re] cp) rb [] ip] [] fp] (sWh iw ik ca cw cr l) := by
  refine ⟨fun pins s σ H Ze I q => ?_⟩
  obtain ⟨W, σd, k, rfl, o, sl, h, hk⟩ := q
  have len := all.len
  refine wpAny_execs_cons (wpAny_Assign_Name (thn (lst_run Fm (lp := lp) all.sit (by omega) I o.tab) fun v s1 hv => ?_) hs1)
  obtain ⟨fs, p, H1, rfl, I1, hp0, eN, T1, m⟩ := hv
  refine store_ok I1 hN hiw (.inl hlw) (v := .ref p) rfl (fun s2 I2 => ?_) (.inr hlw)
  have lf : fs.length = l.length := by rw [m.len, len]
  -- the world with the functions and their list
  obtain ⟨x1, o1⟩ := o.grown eN T1
  obtain ⟨x2, o2⟩ := o1.skip (fs.map (·.1))
  have rl : RelDs ((Wl.skip ⟨W.μ, W.η, H1⟩ (fs.map (·.1))).new p (.lst ((List.range l.length).map fun j => D.ref (W.η.nx + j))) (.lst (fs.map fun q => V.ref q.1))) ((List.range l.length).map fun j => D.ref (W.η.nx + j)) (fs.map fun q => V.ref q.1) := by
    have gen : ∀ (r : List (Addr × Obj)) (i : Nat), (∀ t q, r[t]? = some q → fs[i + t]? = some q) → i + r.length ≤ fs.length → RelDs ((Wl.skip ⟨W.μ, W.η, H1⟩ (fs.map (·.1))).new p (.lst ((List.range l.length).map fun j => D.ref (W.η.nx + j))) (.lst (fs.map fun q => V.ref q.1))) ((List.range' i r.length).map fun j => D.ref (W.η.nx + j)) (r.map fun q => V.ref q.1) := fun r => by
      induction r with
      | nil => intro i _ _; exact .nil
      | cons q r ih =>
        intro i hi hl'
        rw [List.length_cons] at hl'
        have e0 := hi 0 q rfl
        rw [Nat.add_zero] at e0
        refine .cons ?_ (ih (i + 1) (fun t q' e => by rw [show i + 1 + t = i + (t + 1) by omega]; exact hi (t + 1) q' e) (by omega))
        rw [RelD]
        refine ⟨?_, ?_⟩
        · show W.η.nx + i < Nat.succ (W.η.nx + (fs.map (·.1)).length)
          rw [List.length_map]
          omega
        · show V.ref q.1 = .ref (if W.η.nx + i = W.η.nx + (fs.map (·.1)).length then p else if W.η.nx + i < W.η.nx then W.μ (W.η.nx + i) else (fs.map (·.1)).getD (W.η.nx + i - W.η.nx) 0)
          rw [if_neg (by rw [List.length_map]; omega), if_neg (by omega), Nat.add_sub_cancel_left, List.getD_eq_getElem?_getD, List.getElem?_map, e0]
          rfl
    have := gen fs 0 (fun t q e => by rw [Nat.zero_add]; exact e) (by omega)
    rwa [← List.range_eq_range', lf] at this
  obtain ⟨x3, o3⟩ := o2.new (p := p) (c := .lst ((List.range l.length).map fun j => D.ref (W.η.nx + j))) (ob := .lst (fs.map fun q => V.ref q.1)) hp0 ⟨_, upd_same, rl, by rw [List.length_map, List.length_range]; exact Nat.le_trans hn (by decide)⟩
  have x03 := (x1.trans o o1 x2).trans o o2 x3
  generalize hW0 : (Wl.skip ⟨W.μ, W.η, H1⟩ (fs.map (·.1))).new p (.lst ((List.range l.length).map fun j => D.ref (W.η.nx + j))) (.lst (fs.map fun q => V.ref q.1)) = W0 at o3 x03 rl
  have hη : W0.η = whη W.η l.length := by
    rw [← hW0]
    show Hd.new ⟨W.η.nx + (fs.map (·.1)).length, W.η.cs⟩ _ = Hd.new ⟨W.η.nx + l.length, W.η.cs⟩ _
    rw [List.length_map, lf]
  have hH : W0.H = upd H1 p (.lst (fs.map fun q => V.ref q.1)) := by rw [← hW0]; rfl
  have hmu : ∀ j q, fs[j]? = some q → W0.μ (W.η.nx + j) = q.1 ∧ W.η.nx + j < W0.η.nx := fun j q e => by
    have hj : j < fs.length := (List.getElem?_eq_some_iff.mp e).1
    refine ⟨?_, ?_⟩
    · rw [← hW0]
      show (if W.η.nx + j = W.η.nx + (fs.map (·.1)).length then p else if W.η.nx + j < W.η.nx then W.μ (W.η.nx + j) else (fs.map (·.1)).getD (W.η.nx + j - W.η.nx) 0) = q.1
      rw [if_neg (by rw [List.length_map]; omega), if_neg (by omega), Nat.add_sub_cancel_left, List.getD_eq_getElem?_getD, List.getElem?_map, e]
      rfl
    · rw [hη]
      show _ < Nat.succ (W.η.nx + l.length)
      omega
  have hq : W0.μ (W.η.nx + l.length) = p := by
    rw [← hW0]
    show (if W.η.nx + l.length = W.η.nx + (fs.map (·.1)).length then p else _) = p
    rw [if_pos (by rw [List.length_map, lf])]
  have hqn : W.η.nx + l.length < W0.η.nx := by rw [hη]; exact Nat.lt_succ_self _
  have Fw : WhF X W0 W.η.nx Ss fs := ⟨hmu, m.ext fun c0 e => by rw [hH, upd_ne (ne_of_none e hp0)]; exact e⟩
  have s0 : RelS W0 (σd.set iw (some (.ref (W.η.nx + l.length)))) (σ.set iw (some (.ref p))) := (sl.mono o x03).set iw (by rw [RelD]; exact ⟨hqn, by rw [hq]⟩)
  -- the loop, in the context that pins the functions
  have J := I2.toTry X.xe
  have loop : PSs (X.tr (X.pn ++ (pins ++ fs)) X.xe) [.For (.Name kn kp) (.Call (.Name "range" rp) [le] [] rp2) [.If (.Compare (.Call (.Name x tp) [we] [] tp2) [.NotEq] [re] cp) rb [] ip] [] fp] _ :=
    pss_one (ps_for (X := X.tr (X.pn ++ (pins ++ fs)) X.xe) hp hcalm (pi_range1 hgr hmr (hca _) hs2) (pg_name (i := ik) hN hik (.inr hlk) (.inl hfk)) (pss_one (ps_if (pt_cmpR (opd_ne (N := N) hu) (pe_handP (X := X.tr (X.pn ++ (pins ++ fs)) X.xe) (TT := TTi X.K c us1 us2) (k := k0) (hcw _) F hg hm hb Sg hNg hva hG hr Fm.stk Fm.frm hs3 hdb hd hcd) (hcr _) hm2) (hret _) pss_nil)) hs4)
  refine wpAny_mono (loop.run [] s2 _ _ Ze J ?_) (fun fl s3 hf => ?_) (fun _ _ e => e)
  · -- the walk
    rw [← hH]
    refine ⟨W0, _, whK ik W.η.nx cw cr l (whσ iw ik (W.η.nx + l.length) σd) (fun η3 => k.nx (whσ iw ik (W.η.nx + l.length) σd) η3), fun _ _ => false, rfl, o3, s0, by rw [hη]; exact h, fun W1 ds vs x4 o4 r4 h4 => ?_, fun _ _ _ _ _ _ _ e => nomatch e⟩
    match ds, r4, h4 with
    | [.int (.ofNat mm)], r4, h4 =>
      have hA : (match Nat.beq mm l.length with | true => whs ik W.η.nx l.length cw cr 0 l (whσ iw ik (W.η.nx + l.length) σd) W1.η (fun η3 => k.nx (whσ iw ik (W.η.nx + l.length) σd) η3) | false => false) = true := h4
      cases em : Nat.beq mm l.length with
      | false => rw [em] at hA; cases hA
      | true =>
        rw [em] at hA
        have emm := Nat.eq_of_beq_eq_true em
        subst emm
        obtain ⟨v0, rfl, r0⟩ := rel1 r4
        rw [relInt r0]
        refine ⟨Int.ofNat l.length, rfl, (by
          show (-(2 ^ 62) : Int) ≤ ((l.length : Nat) : Int)
          omega), (by
          show ((l.length : Nat) : Int) < 2 ^ 62
          omega), ?_⟩
        have s1n : RelS W1 (whσ iw ik (W.η.nx + l.length) σd) (σ.set iw (some (.ref p))) := by
          have := (s0.mono o3 x4).none_at ik ((σ.set iw (some (.ref p)))[ik]?.getD none)
          have e : (σ.set iw (some (V.ref p))).set ik ((σ.set iw (some (.ref p)))[ik]?.getD none) = σ.set iw (some (.ref p)) := by
            apply List.ext_getElem?
            intro t
            by_cases z : ik = t
            · subst z
              by_cases hl' : ik < (σ.set iw (some (V.ref p))).length
              · rw [List.getElem?_set_self hl', List.getElem?_eq_getElem hl']; rfl
              · rw [List.getElem?_eq_none (by rw [List.length_set]; omega), List.getElem?_eq_none (by omega)]
            · rw [List.getElem?_set_ne z]
          rwa [e] at this
        refine ⟨fun i mz σ' H' => mz = l.length - i ∧ i ≤ l.length ∧ ∃ W', W'.H = H' ∧ W'.Ok X.K N.toNames ∧ Ext W0 W' ∧ RelS W' (whσ iw ik (W.η.nx + l.length) σd) σ' ∧ whs ik W.η.nx l.length cw cr i (l.drop i) (whσ iw ik (W.η.nx + l.length) σd) W'.η (fun η3 => k.nx (whσ iw ik (W.η.nx + l.length) σd) η3) = true,
          ⟨l.length, by omega, Nat.zero_le _, W1, rfl, o4, x4, s1n, hA⟩, ?_⟩
        rintro i mz σ' H' ⟨rfl, hi, W', rfl, o', x', s', h'⟩
        by_cases hlt : i < l.length
        · obtain ⟨S, pp, eS, ep, hS, hC⟩ := all.at_ hlt
          rw [Nat.zero_add] at hC
          have ed : l.drop i = pp :: l.drop (i + 1) := by
            rw [List.drop_eq_getElem_cons hlt]
            have := List.getElem?_eq_getElem hlt
            rw [this] at ep
            rw [Option.some.inj ep]
          rw [ed] at h'
          refine .inr ⟨hlt, fun σ2 H2 => ∃ W2, W2.H = H2 ∧ W2.Ok X.K N.toNames ∧ Ext W0 W2 ∧ RelS W2 (whσ iw ik (W.η.nx + l.length) σd) σ2 ∧ whs ik W.η.nx l.length cw cr (i + 1) (l.drop (i + 1)) (whσ iw ik (W.η.nx + l.length) σd) W2.η (fun η3 => k.nx (whσ iw ik (W.η.nx + l.length) σd) η3) = true, fun σ2 H2 h2 => ⟨l.length - (i + 1), by omega, rfl, hlt, h2⟩, ?_⟩
          rintro xv H2 ⟨rfl, rfl⟩
          have sj : RelS W' ((whσ iw ik (W.η.nx + l.length) σd).set ik (some (.int (Int.ofNat i)))) (σ'.set ik (some (.int ((0 : Int) + i)))) := by
            have := s'.set ik (d := .int (Int.ofNat i)) (v := .int ((0 : Int) + i)) (by rw [RelD]; congr 1; exact Int.zero_add _)
            exact this
          show tIfS _ (tS X.K N E cret) tNext _ (σ'.set ik (some (.int ((0 : Int) + i)))) W'.H
          refine wh_round (X := X.tr (X.pn ++ (pins ++ fs)) X.xe) (W0 := W0) (S := S) (p := pp) o3 ⟨Fw.mu, Fw.made.tr _⟩ (fun q hq => List.mem_append_right _ (List.mem_append_right _ hq)) o' x' sj eS ⟨hS.L, hS.hbind, hS.hbody⟩ hC hn h' fun W2 o2 x2 x2' h2 => ?_
          show (if false = true then _ else _)
          rw [if_neg Bool.false_ne_true]
          have sn := (s'.mono o' x2').none_at ik (some (V.int ((0 : Int) + i)))
          unfold whσ at sn
          rw [List.set_set] at sn
          exact ⟨W2, rfl, o2, x2, sn, h2⟩
        · have : i = l.length := by omega
          subst this
          refine .inl ⟨Nat.le_refl _, ?_⟩
          rw [List.drop_length] at h'
          exact hk.nx W' _ σ' (x03.trans o o3 x') o' s' h'
    | [], _, h4 => cases (show false = true from h4)
    | .int (.ofNat _) :: _ :: _, _, h4 => cases (show false = true from h4)
    | .int (.negSucc _) :: _, _, h4 => cases (show false = true from h4)
    | .non :: _, _, h4 => cases (show false = true from h4)
    | .bl _ :: _, _, h4 => cases (show false = true from h4)
    | .str _ :: _, _, h4 => cases (show false = true from h4)
    | .tup _ :: _, _, h4 => cases (show false = true from h4)
    | .ftup _ :: _, _, h4 => cases (show false = true from h4)
    | .ref _ :: _, _, h4 => cases (show false = true from h4)
  · have back : ∀ {σ' : L2.St} {H' : Hp}, Inv (X.tr (X.pn ++ (pins ++ fs)) X.xe) [] σ' H' s3 → Inv X pins σ' H' s3 := fun J' => by
      have := J'.ofTry (pins := pins ++ fs) I.ok
      exact { this with pin := fun q hq => this.pin q (by
        rcases List.mem_append.mp hq with z | z
        · exact List.mem_append_left _ z
        · exact List.mem_append_right _ (List.mem_append_left _ z)) }
    cases fl with
    | next => obtain ⟨σ', H', J', z⟩ := hf; exact ⟨σ', H', back J', z⟩
    | brk => obtain ⟨σ', H', J', z⟩ := hf; exact ⟨σ', H', back J', z⟩
    | cont => obtain ⟨σ', H', J', z⟩ := hf; exact ⟨σ', H', back J', z⟩
    | ret u => obtain ⟨v, σ', H', J', z⟩ := hf; exact ⟨v, σ', H', back J', z⟩
end
end DL


set_option Elab.async false
set_option linter.all false
set_option maxRecDepth 100000
set_option maxHeartbeats 4000000
namespace L43
open PySem PySem.Spec L2 DL
def topS (i : Nat) : Stmt := PySem.Challenge.pw_grouphall_k43_refusals_apart.main.body.getD i (.Pass ⟨0, 0, 0, 0⟩)
abbrev s_law : Stmt := topS 34
theorem sc_law : FnScope ["script", "dice", "whats", "k", "desk", "many", "j"] ["script"] (defScope s_law) := ⟨rfl, rfl, rfl, by decide +kernel, rfl, by decide +kernel, by decide +kernel⟩
abbrev s__law_rounds : Stmt := topS 32
theorem sc__law_rounds : FnScope ["script", "most", "cells", "cell"] ["script", "most"] (defScope s__law_rounds) := ⟨rfl, rfl, rfl, by decide +kernel, rfl, by decide +kernel, by decide +kernel⟩
abbrev s__law_dice : Stmt := topS 30
theorem sc__law_dice : FnScope ["cell"] ["cell"] (defScope s__law_dice) := ⟨rfl, rfl, rfl, by decide +kernel, rfl, by decide +kernel, by decide +kernel⟩
abbrev s__law_roll : Stmt := topS 31
theorem sc__law_roll : FnScope ["dice", "many", "found"] ["dice", "many"] (defScope s__law_roll) := ⟨rfl, rfl, rfl, by decide +kernel, rfl, by decide +kernel, by decide +kernel⟩
abbrev s__law_told : Stmt := topS 33
theorem sc__law_told : FnScope ["what", "e", "some"] ["what"] (defScope s__law_told) := ⟨rfl, rfl, rfl, by decide +kernel, rfl, by decide +kernel, by decide +kernel⟩
abbrev s_Desk___init__ : Stmt := clsS (topS 22) 0
theorem sc_Desk___init__ : FnScope ["self", "many"] ["self", "many"] (defScope s_Desk___init__) := ⟨rfl, rfl, rfl, by decide +kernel, rfl, by decide +kernel, by decide +kernel⟩
abbrev s_Desk_take : Stmt := clsS (topS 22) 4
theorem sc_Desk_take : FnScope ["self", "k"] ["self", "k"] (defScope s_Desk_take) := ⟨rfl, rfl, rfl, by decide +kernel, rfl, by decide +kernel, by decide +kernel⟩
abbrev s_Table___init__ : Stmt := clsS (topS 25) 0
theorem sc_Table___init__ : FnScope ["self", "rows", "c", "a", "b", "many", "one", "row", "k"] ["self", "rows"] (defScope s_Table___init__) := ⟨rfl, rfl, rfl, by decide +kernel, rfl, by decide +kernel, by decide +kernel⟩
abbrev s_all_turns : Stmt := topS 17
theorem sc_all_turns : FnScope ["many", "rows", "k", "row", "place"] ["many"] (defScope s_all_turns) := ⟨rfl, rfl, rfl, by decide +kernel, rfl, by decide +kernel, by decide +kernel⟩
abbrev s_check_turn : Stmt := topS 12
theorem sc_check_turn : FnScope ["thing", "many"] ["thing", "many"] (defScope s_check_turn) := ⟨rfl, rfl, rfl, by decide +kernel, rfl, by decide +kernel, by decide +kernel⟩
abbrev s_look_paper : Stmt := topS 20
theorem sc_look_paper : FnScope ["turn", "paper", "found", "way"] ["turn", "paper"] (defScope s_look_paper) := ⟨rfl, rfl, rfl, by decide +kernel, rfl, by decide +kernel, by decide +kernel⟩
abbrev s_of_rank : Stmt := topS 18
theorem sc_of_rank : FnScope ["number", "many", "digits", "size", "found", "left", "digit"] ["number", "many"] (defScope s_of_rank) := ⟨rfl, rfl, rfl, by decide +kernel, rfl, by decide +kernel, by decide +kernel⟩
abbrev s_read : Stmt := topS 28
theorem sc_read : FnScope ["text", "k", "sign"] ["text"] (defScope s_read) := ⟨rfl, rfl, rfl, by decide +kernel, rfl, by decide +kernel, by decide +kernel⟩
abbrev s_Desk_note : Stmt := clsS (topS 22) 1
theorem sc_Desk_note : FnScope ["self", "row"] ["self", "row"] (defScope s_Desk_note) := ⟨rfl, rfl, rfl, by decide +kernel, rfl, by decide +kernel, by decide +kernel⟩
abbrev s_Table_few : Stmt := clsS (topS 25) 1
theorem sc_Table_few : FnScope ["self", "made", "found", "thing", "left", "here", "maker", "there"] ["self"] (defScope s_Table_few) := ⟨rfl, rfl, rfl, by decide +kernel, rfl, by decide +kernel, by decide +kernel⟩
abbrev s_is_turn : Stmt := topS 11
theorem sc_is_turn : FnScope ["thing", "one"] ["thing"] (defScope s_is_turn) := ⟨rfl, rfl, rfl, by decide +kernel, rfl, by decide +kernel, by decide +kernel⟩
abbrev s_after : Stmt := topS 14
theorem sc_after : FnScope ["one", "other", "place"] ["one", "other"] (defScope s_after) := ⟨rfl, rfl, rfl, by decide +kernel, rfl, by decide +kernel, by decide +kernel⟩
abbrev s_still : Stmt := topS 13
theorem sc_still : FnScope ["many"] ["many"] (defScope s_still) := ⟨rfl, rfl, rfl, by decide +kernel, rfl, by decide +kernel, by decide +kernel⟩
def FL : List Str := ["many", "row", "deeds", "undone", "rows", "one"]
def lp_law : Nat → Nat → Bool := fun l c => (Nat.beq l 241 && Nat.beq c 0) || (Nat.beq l 242 && Nat.beq c 0) || (Nat.beq l 243 && Nat.beq c 0) || (Nat.beq l 244 && Nat.beq c 0) || (Nat.beq l 245 && Nat.beq c 0) || (Nat.beq l 246 && Nat.beq c 0) || (Nat.beq l 247 && Nat.beq c 0)
def lp_Table___init__ : Nat → Nat → Bool := fun l c => Bool.and false (Nat.beq l c)
def lp_is_turn : Nat → Nat → Bool := fun l c => Bool.and false (Nat.beq l c)
structure Hy (P : Program) (K : PySem.W.Frag) (mg : Str → Option Value) where
  c_BadDeed : Addr
  g_BadDeed : mg "BadDeed" = some (.ref c_BadDeed)
  x_BadDeed : PySem.W.excIn K c_BadDeed [.type "ValueError", .type "Exception", .type "BaseException", .type "object"] "ValueError.__new__" = true
  k_BadDeed : PySem.W.keepIn K (.ref c_BadDeed) = true
  s_BadDeed : PySem.W.subIn K (.ref c_BadDeed) (.type "BaseException") = some true
  t_BadDeed : PySem.W.typeIn K (.ref c_BadDeed) = some (.type "type")
  c_BadPaper : Addr
  g_BadPaper : mg "BadPaper" = some (.ref c_BadPaper)
  X_BadPaper : OwnX P K mg c_BadPaper "part"
  c_BadTable : Addr
  g_BadTable : mg "BadTable" = some (.ref c_BadTable)
  x_BadTable : PySem.W.excIn K c_BadTable [.type "ValueError", .type "Exception", .type "BaseException", .type "object"] "ValueError.__new__" = true
  k_BadTable : PySem.W.keepIn K (.ref c_BadTable) = true
  s_BadTable : PySem.W.subIn K (.ref c_BadTable) (.type "BaseException") = some true
  t_BadTable : PySem.W.typeIn K (.ref c_BadTable) = some (.type "type")
  c_BadTurn : Addr
  g_BadTurn : mg "BadTurn" = some (.ref c_BadTurn)
  x_BadTurn : PySem.W.excIn K c_BadTurn [.type "ValueError", .type "Exception", .type "BaseException", .type "object"] "ValueError.__new__" = true
  k_BadTurn : PySem.W.keepIn K (.ref c_BadTurn) = true
  s_BadTurn : PySem.W.subIn K (.ref c_BadTurn) (.type "BaseException") = some true
  t_BadTurn : PySem.W.typeIn K (.ref c_BadTurn) = some (.type "type")
  c_BadWord : Addr
  g_BadWord : mg "BadWord" = some (.ref c_BadWord)
  X_BadWord : OwnX P K mg c_BadWord "place"
  c_Desk : Addr
  g_Desk : mg "Desk" = some (.ref c_Desk)
  C_Desk : L2.Cls K c_Desk
  A_Desk_many : L2.NoAttr K c_Desk "many"
  A_Desk_row : L2.NoAttr K c_Desk "row"
  A_Desk_deeds : L2.NoAttr K c_Desk "deeds"
  A_Desk_undone : L2.NoAttr K c_Desk "undone"
  c_GroupFault : Addr
  g_GroupFault : mg "GroupFault" = some (.ref c_GroupFault)
  c_NoWay : Addr
  g_NoWay : mg "NoWay" = some (.ref c_NoWay)
  x_NoWay : PySem.W.excIn K c_NoWay [.type "ValueError", .type "Exception", .type "BaseException", .type "object"] "ValueError.__new__" = true
  k_NoWay : PySem.W.keepIn K (.ref c_NoWay) = true
  s_NoWay : PySem.W.subIn K (.ref c_NoWay) (.type "BaseException") = some true
  t_NoWay : PySem.W.typeIn K (.ref c_NoWay) = some (.type "type")
  c_Table : Addr
  g_Table : mg "Table" = some (.ref c_Table)
  C_Table : L2.Cls K c_Table
  A_Table_many : L2.NoAttr K c_Table "many"
  A_Table_rows : L2.NoAttr K c_Table "rows"
  A_Table_one : L2.NoAttr K c_Table "one"
  c_TooLarge : Addr
  g_TooLarge : mg "TooLarge" = some (.ref c_TooLarge)
  x_TooLarge : PySem.W.excIn K c_TooLarge [.type "ValueError", .type "Exception", .type "BaseException", .type "object"] "ValueError.__new__" = true
  k_TooLarge : PySem.W.keepIn K (.ref c_TooLarge) = true
  s_TooLarge : PySem.W.subIn K (.ref c_TooLarge) (.type "BaseException") = some true
  t_TooLarge : PySem.W.typeIn K (.ref c_TooLarge) = some (.type "type")
  f__law_rounds : Addr
  fd__law_rounds : FuncData
  F__law_rounds : Fun K "_law_rounds" "_law_rounds" s__law_rounds f__law_rounds fd__law_rounds
  b__law_rounds : Binds K fd__law_rounds ["script", "most"] []
  m__law_rounds : mg "_law_rounds" = some (.ref f__law_rounds)
  f__law_dice : Addr
  fd__law_dice : FuncData
  F__law_dice : Fun K "_law_dice" "_law_dice" s__law_dice f__law_dice fd__law_dice
  b__law_dice : Binds K fd__law_dice ["cell"] []
  m__law_dice : mg "_law_dice" = some (.ref f__law_dice)
  f__law_roll : Addr
  fd__law_roll : FuncData
  F__law_roll : Fun K "_law_roll" "_law_roll" s__law_roll f__law_roll fd__law_roll
  b__law_roll : Binds K fd__law_roll ["dice", "many"] []
  m__law_roll : mg "_law_roll" = some (.ref f__law_roll)
  f__law_told : Addr
  fd__law_told : FuncData
  F__law_told : Fun K "_law_told" "_law_told" s__law_told f__law_told fd__law_told
  b__law_told : Binds K fd__law_told ["what"] []
  m__law_told : mg "_law_told" = some (.ref f__law_told)
  f_Desk___init__ : Addr
  fd_Desk___init__ : FuncData
  F_Desk___init__ : Fun K "__init__" "Desk.__init__" s_Desk___init__ f_Desk___init__ fd_Desk___init__
  b_Desk___init__ : Binds K fd_Desk___init__ ["self", "many"] []
  Mk_Desk : L2.Mk K c_Desk f_Desk___init__
  f_Desk_take : Addr
  fd_Desk_take : FuncData
  F_Desk_take : Fun K "take" "Desk.take" s_Desk_take f_Desk_take fd_Desk_take
  b_Desk_take : Binds K fd_Desk_take ["self", "k"] []
  M_Desk_take : L2.Meth K c_Desk "take" f_Desk_take
  f_Table___init__ : Addr
  fd_Table___init__ : FuncData
  F_Table___init__ : Fun K "__init__" "Table.__init__" s_Table___init__ f_Table___init__ fd_Table___init__
  b_Table___init__ : Binds K fd_Table___init__ ["self", "rows"] []
  Mk_Table : L2.Mk K c_Table f_Table___init__
  f_all_turns : Addr
  fd_all_turns : FuncData
  F_all_turns : Fun K "all_turns" "all_turns" s_all_turns f_all_turns fd_all_turns
  b_all_turns : Binds K fd_all_turns ["many"] []
  m_all_turns : mg "all_turns" = some (.ref f_all_turns)
  f_check_turn : Addr
  fd_check_turn : FuncData
  F_check_turn : Fun K "check_turn" "check_turn" s_check_turn f_check_turn fd_check_turn
  b_check_turn : Binds K fd_check_turn ["thing", "many"] []
  m_check_turn : mg "check_turn" = some (.ref f_check_turn)
  f_look_paper : Addr
  fd_look_paper : FuncData
  F_look_paper : Fun K "look_paper" "look_paper" s_look_paper f_look_paper fd_look_paper
  b_look_paper : Binds K fd_look_paper ["turn", "paper"] []
  m_look_paper : mg "look_paper" = some (.ref f_look_paper)
  f_of_rank : Addr
  fd_of_rank : FuncData
  F_of_rank : Fun K "of_rank" "of_rank" s_of_rank f_of_rank fd_of_rank
  b_of_rank : Binds K fd_of_rank ["number", "many"] []
  m_of_rank : mg "of_rank" = some (.ref f_of_rank)
  f_read : Addr
  fd_read : FuncData
  F_read : Fun K "read" "read" s_read f_read fd_read
  b_read : Binds K fd_read ["text"] []
  m_read : mg "read" = some (.ref f_read)
  f_Desk_note : Addr
  fd_Desk_note : FuncData
  F_Desk_note : Fun K "note" "Desk.note" s_Desk_note f_Desk_note fd_Desk_note
  b_Desk_note : Binds K fd_Desk_note ["self", "row"] []
  M_Desk_note : L2.Meth K c_Desk "note" f_Desk_note
  f_Table_few : Addr
  fd_Table_few : FuncData
  F_Table_few : Fun K "few" "Table.few" s_Table_few f_Table_few fd_Table_few
  b_Table_few : Binds K fd_Table_few ["self"] []
  M_Table_few : L2.Meth K c_Table "few" f_Table_few
  f_is_turn : Addr
  fd_is_turn : FuncData
  F_is_turn : Fun K "is_turn" "is_turn" s_is_turn f_is_turn fd_is_turn
  b_is_turn : Binds K fd_is_turn ["thing"] []
  m_is_turn : mg "is_turn" = some (.ref f_is_turn)
  f_after : Addr
  fd_after : FuncData
  F_after : Fun K "after" "after" s_after f_after fd_after
  b_after : Binds K fd_after ["one", "other"] []
  m_after : mg "after" = some (.ref f_after)
  f_still : Addr
  fd_still : FuncData
  F_still : Fun K "still" "still" s_still f_still fd_still
  b_still : Binds K fd_still ["many"] []
  m_still : mg "still" = some (.ref f_still)
  S_LETTERS : ∃ t, mg "LETTERS" = some (.str "abcdefgh" t)
  K_MOST : ∃ t, mg "MOST" = some (.int 60 t)
  xc_BadTurn : ExcC K c_BadTurn
  xg_BadTurn : PySem.W.exmOne K (.ref c_BadTurn) (.ref c_GroupFault) = some true
  ki_BadTurn_BadTurn : PySem.W.kitOne K (.ref c_BadTurn) (.ref c_BadTurn) = some true
  ki_BadTurn_BadTable : PySem.W.kitOne K (.ref c_BadTurn) (.ref c_BadTable) = some false
  ki_BadTurn_BadWord : PySem.W.kitOne K (.ref c_BadTurn) (.ref c_BadWord) = some false
  ki_BadTurn_BadPaper : PySem.W.kitOne K (.ref c_BadTurn) (.ref c_BadPaper) = some false
  ki_BadTurn_NoWay : PySem.W.kitOne K (.ref c_BadTurn) (.ref c_NoWay) = some false
  ki_BadTurn_TooLarge : PySem.W.kitOne K (.ref c_BadTurn) (.ref c_TooLarge) = some false
  ki_BadTurn_BadDeed : PySem.W.kitOne K (.ref c_BadTurn) (.ref c_BadDeed) = some false
  ki_BadTurn_V : PySem.W.kitOne K (.ref c_BadTurn) (.type "ValueError") = some true
  xc_BadTable : ExcC K c_BadTable
  xg_BadTable : PySem.W.exmOne K (.ref c_BadTable) (.ref c_GroupFault) = some true
  ki_BadTable_BadTurn : PySem.W.kitOne K (.ref c_BadTable) (.ref c_BadTurn) = some false
  ki_BadTable_BadTable : PySem.W.kitOne K (.ref c_BadTable) (.ref c_BadTable) = some true
  ki_BadTable_BadWord : PySem.W.kitOne K (.ref c_BadTable) (.ref c_BadWord) = some false
  ki_BadTable_BadPaper : PySem.W.kitOne K (.ref c_BadTable) (.ref c_BadPaper) = some false
  ki_BadTable_NoWay : PySem.W.kitOne K (.ref c_BadTable) (.ref c_NoWay) = some false
  ki_BadTable_TooLarge : PySem.W.kitOne K (.ref c_BadTable) (.ref c_TooLarge) = some false
  ki_BadTable_BadDeed : PySem.W.kitOne K (.ref c_BadTable) (.ref c_BadDeed) = some false
  ki_BadTable_V : PySem.W.kitOne K (.ref c_BadTable) (.type "ValueError") = some true
  xc_BadWord : ExcC K c_BadWord
  xg_BadWord : PySem.W.exmOne K (.ref c_BadWord) (.ref c_GroupFault) = some true
  ki_BadWord_BadTurn : PySem.W.kitOne K (.ref c_BadWord) (.ref c_BadTurn) = some false
  ki_BadWord_BadTable : PySem.W.kitOne K (.ref c_BadWord) (.ref c_BadTable) = some false
  ki_BadWord_BadWord : PySem.W.kitOne K (.ref c_BadWord) (.ref c_BadWord) = some true
  ki_BadWord_BadPaper : PySem.W.kitOne K (.ref c_BadWord) (.ref c_BadPaper) = some false
  ki_BadWord_NoWay : PySem.W.kitOne K (.ref c_BadWord) (.ref c_NoWay) = some false
  ki_BadWord_TooLarge : PySem.W.kitOne K (.ref c_BadWord) (.ref c_TooLarge) = some false
  ki_BadWord_BadDeed : PySem.W.kitOne K (.ref c_BadWord) (.ref c_BadDeed) = some false
  ki_BadWord_V : PySem.W.kitOne K (.ref c_BadWord) (.type "ValueError") = some true
  xc_BadPaper : ExcC K c_BadPaper
  xg_BadPaper : PySem.W.exmOne K (.ref c_BadPaper) (.ref c_GroupFault) = some true
  ki_BadPaper_BadTurn : PySem.W.kitOne K (.ref c_BadPaper) (.ref c_BadTurn) = some false
  ki_BadPaper_BadTable : PySem.W.kitOne K (.ref c_BadPaper) (.ref c_BadTable) = some false
  ki_BadPaper_BadWord : PySem.W.kitOne K (.ref c_BadPaper) (.ref c_BadWord) = some false
  ki_BadPaper_BadPaper : PySem.W.kitOne K (.ref c_BadPaper) (.ref c_BadPaper) = some true
  ki_BadPaper_NoWay : PySem.W.kitOne K (.ref c_BadPaper) (.ref c_NoWay) = some false
  ki_BadPaper_TooLarge : PySem.W.kitOne K (.ref c_BadPaper) (.ref c_TooLarge) = some false
  ki_BadPaper_BadDeed : PySem.W.kitOne K (.ref c_BadPaper) (.ref c_BadDeed) = some false
  ki_BadPaper_V : PySem.W.kitOne K (.ref c_BadPaper) (.type "ValueError") = some true
  xc_NoWay : ExcC K c_NoWay
  xg_NoWay : PySem.W.exmOne K (.ref c_NoWay) (.ref c_GroupFault) = some true
  ki_NoWay_BadTurn : PySem.W.kitOne K (.ref c_NoWay) (.ref c_BadTurn) = some false
  ki_NoWay_BadTable : PySem.W.kitOne K (.ref c_NoWay) (.ref c_BadTable) = some false
  ki_NoWay_BadWord : PySem.W.kitOne K (.ref c_NoWay) (.ref c_BadWord) = some false
  ki_NoWay_BadPaper : PySem.W.kitOne K (.ref c_NoWay) (.ref c_BadPaper) = some false
  ki_NoWay_NoWay : PySem.W.kitOne K (.ref c_NoWay) (.ref c_NoWay) = some true
  ki_NoWay_TooLarge : PySem.W.kitOne K (.ref c_NoWay) (.ref c_TooLarge) = some false
  ki_NoWay_BadDeed : PySem.W.kitOne K (.ref c_NoWay) (.ref c_BadDeed) = some false
  ki_NoWay_V : PySem.W.kitOne K (.ref c_NoWay) (.type "ValueError") = some true
  xc_TooLarge : ExcC K c_TooLarge
  xg_TooLarge : PySem.W.exmOne K (.ref c_TooLarge) (.ref c_GroupFault) = some true
  ki_TooLarge_BadTurn : PySem.W.kitOne K (.ref c_TooLarge) (.ref c_BadTurn) = some false
  ki_TooLarge_BadTable : PySem.W.kitOne K (.ref c_TooLarge) (.ref c_BadTable) = some false
  ki_TooLarge_BadWord : PySem.W.kitOne K (.ref c_TooLarge) (.ref c_BadWord) = some false
  ki_TooLarge_BadPaper : PySem.W.kitOne K (.ref c_TooLarge) (.ref c_BadPaper) = some false
  ki_TooLarge_NoWay : PySem.W.kitOne K (.ref c_TooLarge) (.ref c_NoWay) = some false
  ki_TooLarge_TooLarge : PySem.W.kitOne K (.ref c_TooLarge) (.ref c_TooLarge) = some true
  ki_TooLarge_BadDeed : PySem.W.kitOne K (.ref c_TooLarge) (.ref c_BadDeed) = some false
  ki_TooLarge_V : PySem.W.kitOne K (.ref c_TooLarge) (.type "ValueError") = some true
  xc_BadDeed : ExcC K c_BadDeed
  xg_BadDeed : PySem.W.exmOne K (.ref c_BadDeed) (.ref c_GroupFault) = some true
  ki_BadDeed_BadTurn : PySem.W.kitOne K (.ref c_BadDeed) (.ref c_BadTurn) = some false
  ki_BadDeed_BadTable : PySem.W.kitOne K (.ref c_BadDeed) (.ref c_BadTable) = some false
  ki_BadDeed_BadWord : PySem.W.kitOne K (.ref c_BadDeed) (.ref c_BadWord) = some false
  ki_BadDeed_BadPaper : PySem.W.kitOne K (.ref c_BadDeed) (.ref c_BadPaper) = some false
  ki_BadDeed_NoWay : PySem.W.kitOne K (.ref c_BadDeed) (.ref c_NoWay) = some false
  ki_BadDeed_TooLarge : PySem.W.kitOne K (.ref c_BadDeed) (.ref c_TooLarge) = some false
  ki_BadDeed_BadDeed : PySem.W.kitOne K (.ref c_BadDeed) (.ref c_BadDeed) = some true
  ki_BadDeed_V : PySem.W.kitOne K (.ref c_BadDeed) (.type "ValueError") = some true
  z_ValueError : mg "ValueError" = none
  z_abs : mg "abs" = none
  z_any : mg "any" = none
  z_enumerate : mg "enumerate" = none
  z_int : mg "int" = none
  z_isinstance : mg "isinstance" = none
  z_len : mg "len" = none
  z_list : mg "list" = none
  z_range : mg "range" = none
  z_reversed : mg "reversed" = none
  z_sorted : mg "sorted" = none
  z_tuple : mg "tuple" = none
  tc_law : Addr
  tP_law : Addr
  tc_Table___init__ : Addr
  tP_Table___init__ : Addr
  cd_Table___init__ : fd_Table___init__.code = .ref tc_Table___init__
  tc_is_turn : Addr
  tP_is_turn : Addr
  cd_is_turn : fd_is_turn.code = .ref tc_is_turn
  nd : ([tP_law, tP_Table___init__, tP_is_turn] : List Addr).Nodup
section
variable {P : Program} {w : World} {K : PySem.W.Frag} {mg : Str → Option Value} {base : Heap}
def nm (hy : Hy P K mg) : Nm := { fld := fun j => FL.getD j "?", cls := fun j => match j with | 7 => hy.c_BadDeed | 4 => hy.c_BadPaper | 2 => hy.c_BadTable | 1 => hy.c_BadTurn | 3 => hy.c_BadWord | 8 => hy.c_Desk | 0 => hy.c_GroupFault | 5 => hy.c_NoWay | 9 => hy.c_Table | 6 => hy.c_TooLarge | _ => 0, tabs := [(hy.tP_law, "law.<locals>.<lambda>", lp_law), (hy.tP_Table___init__, "Table.__init__.<locals>.<lambda>", lp_Table___init__), (hy.tP_is_turn, "is_turn.<locals>.<lambda>", lp_is_turn)], xf := fun j => match j with | 4 => "part" | 3 => "place" | _ => "" }
theorem fi (hy : Hy P K mg) (k : Nat) (h : k < FL.length) : ∀ j, (nm hy).fld j = FL.getD k "?" → j = k := fld_inj (by decide) (by decide) h
theorem fo (hy : Hy P K mg) (m : Str) (h : m ∉ FL) (hq : m ≠ "?") : ∀ j, (nm hy).fld j ≠ m := fld_no h hq
structure Tbs (hy : Hy P K mg) (base : Heap) : Prop where
  x_x : True
  t_law : LamX.TabB base mg hy.tc_law hy.tP_law
  t_Table___init__ : LamX.TabB base mg hy.tc_Table___init__ hy.tP_Table___init__
  t_is_turn : LamX.TabB base mg hy.tc_is_turn hy.tP_is_turn
theorem Tbs.m_law {hy : Hy P K mg} (tb : Tbs hy base) : (hy.tP_law, ("law.<locals>.<lambda>" : Str), lp_law) ∈ (nm hy).tabs := List.mem_cons_self
theorem Tbs.u_law {hy : Hy P K mg} (tb : Tbs hy base) : ∀ p ∈ (nm hy).tabs, p.1 = hy.tP_law → p.2 = (("law.<locals>.<lambda>" : Str), lp_law) := tab_one (T := (nm hy).tabs) hy.nd tb.m_law
theorem Tbs.m_Table___init__ {hy : Hy P K mg} (tb : Tbs hy base) : (hy.tP_Table___init__, ("Table.__init__.<locals>.<lambda>" : Str), lp_Table___init__) ∈ (nm hy).tabs := (List.mem_cons_of_mem _ List.mem_cons_self)
theorem Tbs.u_Table___init__ {hy : Hy P K mg} (tb : Tbs hy base) : ∀ p ∈ (nm hy).tabs, p.1 = hy.tP_Table___init__ → p.2 = (("Table.__init__.<locals>.<lambda>" : Str), lp_Table___init__) := tab_one (T := (nm hy).tabs) hy.nd tb.m_Table___init__
theorem Tbs.m_is_turn {hy : Hy P K mg} (tb : Tbs hy base) : (hy.tP_is_turn, ("is_turn.<locals>.<lambda>" : Str), lp_is_turn) ∈ (nm hy).tabs := (List.mem_cons_of_mem _ (List.mem_cons_of_mem _ List.mem_cons_self))
theorem Tbs.u_is_turn {hy : Hy P K mg} (tb : Tbs hy base) : ∀ p ∈ (nm hy).tabs, p.1 = hy.tP_is_turn → p.2 = (("is_turn.<locals>.<lambda>" : Str), lp_is_turn) := tab_one (T := (nm hy).tabs) hy.nd tb.m_is_turn
theorem g0__law_roll (hy : Hy P K mg) (tb : Tbs hy base) : JF P w K mg base 1 hy.f__law_roll hy.fd__law_roll ["dice", "many"] (nm hy) (cDef 2 3 b_roll) :=
   jf_def (k := 0) hy.F__law_roll sc__law_roll fun cdv A outer s H E hr => (jb_cons (js_if (jt_of (jw_or (jt_cmp (opd_eq hr.units) (je_ix (hu_of hr) (je_var 0 (pv 0)) je_int (fun _ _ => rfl)) je_int (by rfl)) (jw_or1 (jt_of (jw_and (jt_cmp (opd_eq hr.units) (je_ix (hu_of hr) (je_var 0 (pv 0)) je_int (fun _ _ => rfl)) je_int (by rfl)) (jw_and1 (jt_cmp opd_gt (je_ix (hu_of hr) (je_var 0 (pv 0)) je_int (fun _ _ => rfl)) je_int (by rfl)))))))) (jb_cons (js_set (i := 2) sc__law_roll.nd rfl (by first | exact .inl rfl | exact .inr rfl) (je_op opd_mod (je_ty ty_int (by rfl) hy.z_int (by rfl) (ja_cons (je_ix (hu_of hr) (je_var 0 (pv 0)) je_int (fun _ _ => rfl)) ja_nil)) (je_var 1 (pv 1)))) (jb_cons (js_asg (je_op opd_div (je_ix (hu_of hr) (je_var 0 (pv 0)) je_int (fun _ _ => rfl)) (je_var 1 (pv 1))) (jg_sub (hu_of hr) (je_var 0 (pv 0)) je_int)) (jb_one (js_ret (je_var 2 (pv 2)))))) jb_nil) (jb_cons (js_asg je_int (jg_sub (hu_of hr) (je_var 0 (pv 0)) je_int)) (jb_cons (js_asg (je_op opd_mod (je_ty ty_int (by rfl) hy.z_int (by rfl) (ja_cons (je_op opd_add (je_op opd_add (je_op opd_mul (je_ix (hu_of hr) (je_var 0 (pv 0)) je_int (fun _ _ => rfl)) je_int) (je_op opd_mul (je_ix (hu_of hr) (je_var 0 (pv 0)) je_int (fun _ _ => rfl)) je_int)) je_int) ja_nil)) je_int) (jg_sub (hu_of hr) (je_var 0 (pv 0)) je_int)) (jb_cons (js_asg (je_op opd_add (je_ix (hu_of hr) (je_var 0 (pv 0)) je_int (fun _ _ => rfl)) je_int) (jg_sub (hu_of hr) (je_var 0 (pv 0)) je_int)) (jb_one (js_ret (je_op opd_mod (je_ty ty_int (by rfl) hy.z_int (by rfl) (ja_cons (je_op opd_add (je_op opd_div (je_ix (hu_of hr) (je_var 0 (pv 0)) je_int (fun _ _ => rfl)) je_int) (je_ix (hu_of hr) (je_var 0 (pv 0)) je_int (fun _ _ => rfl))) ja_nil)) (je_var 1 (pv 1)))))))))
abbrev F__law_roll : CF := fRoll
theorem g__law_roll (hy : Hy P K mg) (tb : Tbs hy base) : JF P w K mg base 1 hy.f__law_roll hy.fd__law_roll ["dice", "many"] (nm hy) F__law_roll := jf_roll (g0__law_roll hy tb) roll_ok
def b_Table_few : CS := (sSeq (sPar 1 2 (cCons (cDisp1 false (cFld 9 5 (cVar 0)) (cC (.bl true))) (cCons (cLst cNil) cNil))) (sSeq (sFor (ciR1 (cCons (cFld 9 0 (cVar 0)) cNil)) (gNm 3) (sIf (cTst (cOp fNotInA (cVar 3) (cVar 1))) (sSeq (sExpr (cMt fAppend (cVar 2) (cCons (cVar 3) cNil))) (sSeq (sAsg (cLst (cCons (cFld 9 5 (cVar 0)) cNil)) (gNm 4)) (sSeq (sAsg (cDisp1 false (cFld 9 5 (cVar 0)) (cC (.bl true))) (gNm 1)) (sWhile (cTst (cOp fNe (cVar 4) (cLst cNil))) (sSeq (sAsg (cMt0 fPop (cVar 4)) (gNm 5)) (sFor (ciSeq (cVar 2)) (gNm 6) (sSeq (sAsg (cOp fIx (cOp fIx (cFld 9 4 (cVar 0)) (cVar 5)) (cVar 6)) (gNm 7)) (sIf (cTst (cOp fNotInA (cVar 7) (cVar 1))) (sSeq (sAsg (cC (.bl true)) (gSb (cVar 1) (cVar 7))) (sExpr (cMt fAppend (cVar 4) (cCons (cVar 7) cNil)))) sNil)))))))) sNil)) (sRet (cVar 2))))
theorem g0_Table_few (hy : Hy P K mg) (tb : Tbs hy base) : JF P w K mg base 1 hy.f_Table_few hy.fd_Table_few ["self"] (nm hy) (cDef 1 8 b_Table_few) :=
   jf_def (k := 0) hy.F_Table_few sc_Table_few fun cdv A outer s H E hr => (jb_cons (js_par (i := 1) (j := 2) rfl sc_Table_few.nd rfl rfl (by decide) rfl rfl (ja_cons (je_disp1 false (hu_of hr) (je_fld (c := 9) (k := 5) hy.C_Table hy.A_Table_one rfl (fi hy 5 (by decide)) (je_var 0 (pv 0))) je_bl) (ja_cons (je_lst ja_nil) ja_nil)) (by first | rfl | decide +kernel | with_unfolding_all rfl)) (jb_cons (js_for (passes_of rfl) rfl (ji_range1 (by rfl) hy.z_range (ja_cons (je_fld (c := 9) (k := 0) hy.C_Table hy.A_Table_many rfl (fi hy 0 (by decide)) (je_var 0 (pv 0))) ja_nil)) (jg_name (pg_name (i := 3) sc_Table_few.nd rfl (by first | exact .inl rfl | exact .inr rfl))) (jb_one (js_if (jt_cmp (opd_notInA (hu65 hr)) (je_var 3 (pv 3)) (je_var 1 (pv 1)) (by rfl)) (jb_cons (js_expr (je_mt PySem.F.plainAttrs_list PySem.F.slot_list_append PySem.F.type_list_append mtd_append (je_var 2 (pv 2)) (ja_cons (je_var 3 (pv 3)) ja_nil))) (jb_cons (js_set (i := 4) sc_Table_few.nd rfl (by first | exact .inl rfl | exact .inr rfl) (je_lst (ja_cons (je_fld (c := 9) (k := 5) hy.C_Table hy.A_Table_one rfl (fi hy 5 (by decide)) (je_var 0 (pv 0))) ja_nil))) (jb_cons (js_set (i := 1) sc_Table_few.nd rfl (by first | exact .inl rfl | exact .inr rfl) (je_disp1 false (hu_of hr) (je_fld (c := 9) (k := 5) hy.C_Table hy.A_Table_one rfl (fi hy 5 (by decide)) (je_var 0 (pv 0))) je_bl)) (jb_one (js_while (passes_of rfl) (jt_cmp (opd_ne hr.units) (je_var 4 (pv 4)) (je_lst ja_nil) (by rfl)) (jb_cons (js_set (i := 5) sc_Table_few.nd rfl (by first | exact .inl rfl | exact .inr rfl) (je_mt0 PySem.F.plainAttrs_list PySem.F.slot_list_pop PySem.F.type_list_pop mtd_pop (je_var 4 (pv 4)))) (jb_one (js_for (passes_of rfl) rfl (ji_seq (je_var 2 (pv 2))) (jg_name (pg_name (i := 6) sc_Table_few.nd rfl (by first | exact .inl rfl | exact .inr rfl))) (jb_cons (js_set (i := 7) sc_Table_few.nd rfl (by first | exact .inl rfl | exact .inr rfl) (je_ix (hu_of hr) (je_ix (hu_of hr) (je_fld (c := 9) (k := 4) hy.C_Table hy.A_Table_rows rfl (fi hy 4 (by decide)) (je_var 0 (pv 0))) (je_var 5 (pv 5)) (fun _ _ => rfl)) (je_var 6 (pv 6)) (fun _ _ => rfl))) (jb_one (js_if (jt_cmp (opd_notInA (hu65 hr)) (je_var 7 (pv 7)) (je_var 1 (pv 1)) (by rfl)) (jb_cons (js_asg je_bl (jg_sub (hu_of hr) (je_var 1 (pv 1)) (je_var 7 (pv 7)))) (jb_one (js_expr (je_mt PySem.F.plainAttrs_list PySem.F.slot_list_append PySem.F.type_list_append mtd_append (je_var 4 (pv 4)) (ja_cons (je_var 7 (pv 7)) ja_nil))))) jb_nil))))))))))) jb_nil))) (jb_one (js_ret (je_var 2 (pv 2))))))
abbrev F_Table_few : CF := (cDef 1 8 b_Table_few)
theorem g_Table_few (hy : Hy P K mg) (tb : Tbs hy base) : JF P w K mg base 1 hy.f_Table_few hy.fd_Table_few ["self"] (nm hy) F_Table_few := g0_Table_few hy tb
def b_Table___init__ : CS := (sSeq (sAsg (cFn (f1 gLenA) (cCons (cVar 1) cNil)) (gNm 5)) (sSeq (sIf (ctOr (cTst (cOp fEq (cVar 5) (cC (.int 0)))) (ctOr (cTst (cOp (fB2 igt) (cVar 5) (cC (.int 60)))) (cTst (cQst true (ciSeq (cVar 1)) (gNm 7) ctYes (cOp fNe (cFn (f1 gLenA) (cCons (cVar 7) cNil)) (cVar 5)) [7])))) (sRaise 2) sNil) (sSeq (sIf (cTst (cQst true (ciSeq (cVar 1)) (gNm 7) ctYes (cOp fNe (cFn (f1 gSrtB) (cCons (cVar 7) cNil)) (cLstR (crg1 (cVar 5)))) [7])) (sRaise 2) sNil) (sSeq (sFldS 9 4 (cVar 0) (cFn (f1 gTuple) (cCons (cLc (ciSeq (cVar 1)) (gNm 7) ctYes (cFn (f1 gTupleF) (cCons (cVar 7) cNil)) [7]) cNil))) (sSeq (sFldS 9 0 (cVar 0) (cVar 5)) (sSeq (sAsg (cLc (ciR1 (cCons (cVar 5) cNil)) (gNm 8) (cTst (cOp fEq (cOp fIx (cFld 9 4 (cVar 0)) (cVar 8)) (cTupR (crg1 (cVar 5))))) (cVar 8) [8]) (gNm 6)) (sSeq (sIf (ctOr (cTst (cOp fEq (cVar 6) (cLst cNil))) (cTst (cQst true (ciR1 (cCons (cVar 5) cNil)) (gNm 8) ctYes (cOp fNe (cOp fIx (cOp fIx (cFld 9 4 (cVar 0)) (cVar 8)) (cOp fIx (cVar 6) (cC (.int 0)))) (cVar 8)) [8]))) (sRaise 2) sNil) (sSeq (sFldS 9 5 (cVar 0) (cOp fIx (cVar 6) (cC (.int 0)))) (sFor (ciSeq (cMeth0 9 F_Table_few (cVar 0))) (gNm 2) (sFor (ciR1 (cCons (cVar 5) cNil)) (gNm 3) (sFor (ciR1 (cCons (cVar 5) cNil)) (gNm 4) (sIf (cTst (cOp fNe (cOp fIx (cOp fIx (cFld 9 4 (cVar 0)) (cOp fIx (cOp fIx (cFld 9 4 (cVar 0)) (cVar 3)) (cVar 2))) (cVar 4)) (cOp fIx (cOp fIx (cFld 9 4 (cVar 0)) (cVar 3)) (cOp fIx (cOp fIx (cFld 9 4 (cVar 0)) (cVar 2)) (cVar 4))))) (sRaise 2) sNil))))))))))))
theorem g0_Table___init__ (hy : Hy P K mg) (tb : Tbs hy base) : JF P w K mg base 3 hy.f_Table___init__ hy.fd_Table___init__ ["self", "rows"] (nm hy) (cDef 2 9 b_Table___init__) :=
  have g_Table_few := g_Table_few (P := P) (w := w) (base := base) hy tb; jf_defc (k := 2) hy.F_Table___init__ sc_Table___init__ hy.cd_Table___init__ fun A outer s H E hr => (jb_cons (js_set (i := 5) sc_Table___init__.nd rfl (by first | exact .inl rfl | exact .inr rfl) (je_blt blt_lenA (by rfl) hy.z_len (by rfl) (ja_cons (je_var 1 (pv 1)) ja_nil))) (jb_cons (js_if (jt_of (jw_or (jt_cmp (opd_eq hr.units) (je_var 5 (pv 5)) je_int (by rfl)) (jw_or (jt_cmp opd_gt (je_var 5 (pv 5)) (je_gint (by rfl) hy.K_MOST) (by rfl)) (jw_or1 (jt_val (je_gany (E' := E0) (k := 1) (own := [("row", 7)]) (by rfl) hy.z_any (GxD.mk (k := 1) (hr.mono (by decide)) sc_Table___init__.nd ⟨_, _, tb.t_Table___init__, rfl, ⟨_, tb.m_Table___init__, rfl⟩, fun e he q => by first | (rw [tb.u_Table___init__ e he q]; done) | (rw [tb.u_Table___init__ e he q]; rfl)⟩ (by decide +kernel) (ji_seq (je_var 1 (pv 1))) (blkOk_by (N := ["self", "rows", "c", "a", "b", "many", "one", "row", "k"]) (sc := defScope s_Table___init__) (own := [("row", 7)]) (by decide +kernel)) (fun _ _ _ _ _ _ hrG => (jgw_name (pg_name (i := 7) sc_Table___init__.nd rfl (by first | exact .inl rfl | exact .inr rfl)))) (fun _ _ _ _ _ _ hrG => jts_nil) (fun _ _ _ _ _ _ hrG => (je_cmp (opd_ne hrG.units) (je_blt blt_lenA (by rfl) hy.z_len (by rfl) (ja_cons (je_var 7 (pv 7)) ja_nil)) (je_var 5 (pv 5)) (by rfl))) (fun _ => rfl)))))))) (jb_one (js_raise rfl (takes_of rfl rfl rfl rfl) (pmk_own PySem.F.excBase_ValueError hy.x_BadTable hy.g_BadTable hy.k_BadTable (raises_own hy.s_BadTable hy.t_BadTable) (by rfl)) rfl)) jb_nil) (jb_cons (js_if (jt_val (je_gany (E' := E0) (k := 1) (own := [("row", 7)]) (by rfl) hy.z_any (GxD.mk (k := 1) (hr.mono (by decide)) sc_Table___init__.nd ⟨_, _, tb.t_Table___init__, rfl, ⟨_, tb.m_Table___init__, rfl⟩, fun e he q => by first | (rw [tb.u_Table___init__ e he q]; done) | (rw [tb.u_Table___init__ e he q]; rfl)⟩ (by decide +kernel) (ji_seq (je_var 1 (pv 1))) (blkOk_by (N := ["self", "rows", "c", "a", "b", "many", "one", "row", "k"]) (sc := defScope s_Table___init__) (own := [("row", 7)]) (by decide +kernel)) (fun _ _ _ _ _ _ hrG => (jgw_name (pg_name (i := 7) sc_Table___init__.nd rfl (by first | exact .inl rfl | exact .inr rfl)))) (fun _ _ _ _ _ _ hrG => jts_nil) (fun _ _ _ _ _ _ hrG => (je_cmp (opd_ne hrG.units) (je_blt (blt_sortedB rfl) (by rfl) hy.z_sorted (by rfl) (ja_cons (je_var 7 (pv 7)) ja_nil)) (je_listR rfl (by rfl) hy.z_list (jr_1 (by rfl) hy.z_range (je_var 5 (pv 5)))) (by rfl))) (fun _ => rfl)))) (jb_one (js_raise rfl (takes_of rfl rfl rfl rfl) (pmk_own PySem.F.excBase_ValueError hy.x_BadTable hy.g_BadTable hy.k_BadTable (raises_own hy.s_BadTable hy.t_BadTable) (by rfl)) rfl)) jb_nil) (jb_cons (js_fld (c := 9) (k := 4) hy.C_Table hy.A_Table_rows rfl (fi hy 4 (by decide)) (je_var 0 (pv 0)) (je_ty ty_tuple (by rfl) hy.z_tuple (by rfl) (ja_cons (je_lc (E' := E0) (own := [("row", 7)]) rfl sc_Table___init__.nd (ji_seq (je_var 1 (pv 1))) (blkOk_by (N := ["self", "rows", "c", "a", "b", "many", "one", "row", "k"]) (sc := defScope s_Table___init__) (own := [("row", 7)]) (by decide +kernel)) (fun _ _ _ _ _ => (jgw_name (pg_name (i := 7) sc_Table___init__.nd rfl (by first | exact .inl rfl | exact .inr rfl)))) (fun _ _ _ _ _ => jts_nil) (fun _ _ _ _ _ => (je_ty ty_tupleF (by rfl) hy.z_tuple (by rfl) (ja_cons (je_var 7 (pv 7)) ja_nil)))) ja_nil))) (jb_cons (js_fld (c := 9) (k := 0) hy.C_Table hy.A_Table_many rfl (fi hy 0 (by decide)) (je_var 0 (pv 0)) (je_var 5 (pv 5))) (jb_cons (by first | exact js_setLc (E' := E0) (own := [("k", 8)]) (i := 6) rfl sc_Table___init__.nd rfl rfl (sw_true rfl rfl rfl (by decide +kernel)) (ji_range1 (by rfl) hy.z_range (ja_cons (je_var 5 (pv 5)) ja_nil)) (blkOk_by (N := ["self", "rows", "c", "a", "b", "many", "one", "row", "k"]) (sc := defScope s_Table___init__) (own := [("k", 8)]) (by decide +kernel)) (fun _ _ _ _ _ => (jgw_name (pg_name (i := 8) sc_Table___init__.nd rfl (by first | exact .inl rfl | exact .inr rfl)))) (fun _ _ _ _ _ => (jts_one (jt_cmp (opd_eq hr.units) (je_ix (hu_of hr) (je_fld (c := 9) (k := 4) hy.C_Table hy.A_Table_rows rfl (fi hy 4 (by decide)) (je_var 0 (pv 0))) (je_var 8 (pv 8)) (fun _ _ => rfl)) (je_tupR rfl (by rfl) hy.z_tuple (jr_1 (by rfl) hy.z_range (je_var 5 (pv 5)))) (by rfl)))) (fun _ _ _ _ _ => (je_var 8 (pv 8))) | exact js_set (i := 6) sc_Table___init__.nd rfl (by first | exact .inl rfl | exact .inr rfl) (je_lc (E' := E0) (own := [("k", 8)]) rfl sc_Table___init__.nd (ji_range1 (by rfl) hy.z_range (ja_cons (je_var 5 (pv 5)) ja_nil)) (blkOk_by (N := ["self", "rows", "c", "a", "b", "many", "one", "row", "k"]) (sc := defScope s_Table___init__) (own := [("k", 8)]) (by decide +kernel)) (fun _ _ _ _ _ => (jgw_name (pg_name (i := 8) sc_Table___init__.nd rfl (by first | exact .inl rfl | exact .inr rfl)))) (fun _ _ _ _ _ => (jts_one (jt_cmp (opd_eq hr.units) (je_ix (hu_of hr) (je_fld (c := 9) (k := 4) hy.C_Table hy.A_Table_rows rfl (fi hy 4 (by decide)) (je_var 0 (pv 0))) (je_var 8 (pv 8)) (fun _ _ => rfl)) (je_tupR rfl (by rfl) hy.z_tuple (jr_1 (by rfl) hy.z_range (je_var 5 (pv 5)))) (by rfl)))) (fun _ _ _ _ _ => (je_var 8 (pv 8))))) (jb_cons (js_if (jt_of (jw_or (jt_cmp (opd_eq hr.units) (je_var 6 (pv 6)) (je_lst ja_nil) (by rfl)) (jw_or1 (jt_val (je_gany (E' := E0) (k := 1) (own := [("k", 8)]) (by rfl) hy.z_any (GxD.mk (k := 1) (hr.mono (by decide)) sc_Table___init__.nd ⟨_, _, tb.t_Table___init__, rfl, ⟨_, tb.m_Table___init__, rfl⟩, fun e he q => by first | (rw [tb.u_Table___init__ e he q]; done) | (rw [tb.u_Table___init__ e he q]; rfl)⟩ (by decide +kernel) (ji_range1 (by rfl) hy.z_range (ja_cons (je_var 5 (pv 5)) ja_nil)) (blkOk_by (N := ["self", "rows", "c", "a", "b", "many", "one", "row", "k"]) (sc := defScope s_Table___init__) (own := [("k", 8)]) (by decide +kernel)) (fun _ _ _ _ _ _ hrG => (jgw_name (pg_name (i := 8) sc_Table___init__.nd rfl (by first | exact .inl rfl | exact .inr rfl)))) (fun _ _ _ _ _ _ hrG => jts_nil) (fun _ _ _ _ _ _ hrG => (je_cmp (opd_ne hrG.units) (je_ix (hu_of hrG) (je_ix (hu_of hrG) (je_fld (c := 9) (k := 4) hy.C_Table hy.A_Table_rows rfl (fi hy 4 (by decide)) (je_var 0 (pv 0))) (je_var 8 (pv 8)) (fun _ _ => rfl)) (je_ix (hu_of hrG) (je_var 6 (pv 6)) je_int (fun _ _ => rfl)) (fun _ _ => rfl)) (je_var 8 (pv 8)) (by rfl))) (fun _ => rfl))))))) (jb_one (js_raise rfl (takes_of rfl rfl rfl rfl) (pmk_own PySem.F.excBase_ValueError hy.x_BadTable hy.g_BadTable hy.k_BadTable (raises_own hy.s_BadTable hy.t_BadTable) (by rfl)) rfl)) jb_nil) (jb_cons (js_fld (c := 9) (k := 5) hy.C_Table hy.A_Table_one rfl (fi hy 5 (by decide)) (je_var 0 (pv 0)) (je_ix (hu_of hr) (je_var 6 (pv 6)) je_int (fun _ _ => rfl))) (jb_one (js_for (passes_of rfl) rfl (ji_seq (je_meth0 (c := 9) hy.C_Table hy.M_Table_few (fo hy "few" (by decide) (by decide)) g_Table_few (hr.mono (by decide)) hy.b_Table_few (passes_call (takes_of rfl rfl rfl rfl) (fun _ _ _ _ h => h)) (je_var 0 (pv 0)))) (jg_name (pg_name (i := 2) sc_Table___init__.nd rfl (by first | exact .inl rfl | exact .inr rfl))) (jb_one (js_for (passes_of rfl) rfl (ji_range1 (by rfl) hy.z_range (ja_cons (je_var 5 (pv 5)) ja_nil)) (jg_name (pg_name (i := 3) sc_Table___init__.nd rfl (by first | exact .inl rfl | exact .inr rfl))) (jb_one (js_for (passes_of rfl) rfl (ji_range1 (by rfl) hy.z_range (ja_cons (je_var 5 (pv 5)) ja_nil)) (jg_name (pg_name (i := 4) sc_Table___init__.nd rfl (by first | exact .inl rfl | exact .inr rfl))) (jb_one (js_if (jt_cmp (opd_ne hr.units) (je_ix (hu_of hr) (je_ix (hu_of hr) (je_fld (c := 9) (k := 4) hy.C_Table hy.A_Table_rows rfl (fi hy 4 (by decide)) (je_var 0 (pv 0))) (je_ix (hu_of hr) (je_ix (hu_of hr) (je_fld (c := 9) (k := 4) hy.C_Table hy.A_Table_rows rfl (fi hy 4 (by decide)) (je_var 0 (pv 0))) (je_var 3 (pv 3)) (fun _ _ => rfl)) (je_var 2 (pv 2)) (fun _ _ => rfl)) (fun _ _ => rfl)) (je_var 4 (pv 4)) (fun _ _ => rfl)) (je_ix (hu_of hr) (je_ix (hu_of hr) (je_fld (c := 9) (k := 4) hy.C_Table hy.A_Table_rows rfl (fi hy 4 (by decide)) (je_var 0 (pv 0))) (je_var 3 (pv 3)) (fun _ _ => rfl)) (je_ix (hu_of hr) (je_ix (hu_of hr) (je_fld (c := 9) (k := 4) hy.C_Table hy.A_Table_rows rfl (fi hy 4 (by decide)) (je_var 0 (pv 0))) (je_var 2 (pv 2)) (fun _ _ => rfl)) (je_var 4 (pv 4)) (fun _ _ => rfl)) (fun _ _ => rfl)) (by rfl)) (jb_one (js_raise rfl (takes_of rfl rfl rfl rfl) (pmk_own PySem.F.excBase_ValueError hy.x_BadTable hy.g_BadTable hy.k_BadTable (raises_own hy.s_BadTable hy.t_BadTable) (by rfl)) rfl)) jb_nil))))))))))))))))
abbrev F_Table___init__ : CF := (cDef 2 9 b_Table___init__)
theorem g_Table___init__ (hy : Hy P K mg) (tb : Tbs hy base) : JF P w K mg base 3 hy.f_Table___init__ hy.fd_Table___init__ ["self", "rows"] (nm hy) F_Table___init__ := g0_Table___init__ hy tb
theorem g0__law_dice (hy : Hy P K mg) (tb : Tbs hy base) : JF P w K mg base 1 hy.f__law_dice hy.fd__law_dice ["cell"] (nm hy) (cDef 1 1 b_dice) :=
   jf_def (k := 0) hy.F__law_dice sc__law_dice fun cdv A outer s H E hr => (jb_cons (js_if (jt_chain opd_lt opd_lt (je_op opd_sub je_int je_int) (je_var 0 (pv 0)) je_int) (jb_one (js_ret (je_lst (ja_cons (je_blt blt_abs (by rfl) hy.z_abs (by rfl) (ja_cons (je_var 0 (pv 0)) ja_nil)) (ja_cons je_int (ja_cons je_int ja_nil)))))) jb_nil) (jb_one (js_ret (je_lst (ja_cons (je_var 0 (pv 0)) (ja_cons (je_op opd_add je_int (je_op opd_mod (je_ty ty_int (by rfl) hy.z_int (by rfl) (ja_cons (je_var 0 (pv 0)) ja_nil)) je_int)) (ja_cons (je_ty ty_int (by rfl) hy.z_int (by rfl) (ja_cons (je_cmp opd_ge (je_var 0 (pv 0)) (je_op opd_pow je_int je_int) (by rfl)) ja_nil)) ja_nil)))))))
abbrev F__law_dice : CF := fDice
theorem g__law_dice (hy : Hy P K mg) (tb : Tbs hy base) : JF P w K mg base 1 hy.f__law_dice hy.fd__law_dice ["cell"] (nm hy) F__law_dice := jf_dice (g0__law_dice hy tb) dice_ok
theorem g__law_rounds (hy : Hy P K mg) (tb : Tbs hy base) : FnOk P w K mg base (L2.CX P w) 2 hy.f__law_rounds hy.fd__law_rounds ["script", "most"] (spRnd K (nm hy)) :=
  have g__law_dice := g__law_dice (P := P) (w := w) (base := base) hy tb
  hy.F__law_rounds.okX sc__law_rounds (fun vs H Q E h => by obtain ⟨_, _, _, rfl, _⟩ := h; rfl) fun cdv A outer s H vs Q E hr h =>
    ⟨_, rnd_body (N := nm hy) (E := E) (c := b_rnd) sc__law_rounds.nd rfl (.inl rfl) (pv 0) (pv 1) (jb_cons (js_if (jt_cmp (opd_eq hr.units) (je_var 2 (pv 2)) (je_lst ja_nil) (by rfl)) (jb_one (js_set (i := 2) sc__law_rounds.nd rfl (by first | exact .inl rfl | exact .inr rfl) (je_lst (ja_cons je_int ja_nil)))) jb_nil) (jb_one (js_ret (je_lc (E' := E0) (own := [("cell", 3)]) rfl sc__law_rounds.nd (ji_seq (je_var 2 (pv 2))) (blkOk_by (N := ["script", "most", "cells", "cell"]) (sc := defScope s__law_rounds) (own := [("cell", 3)]) (by decide +kernel)) (fun _ _ _ _ _ => (jgw_name (pg_name (i := 3) sc__law_rounds.nd rfl (by first | exact .inl rfl | exact .inr rfl)))) (fun _ _ _ _ _ => jts_nil) (fun _ _ _ _ _ => (je_call g__law_dice (hr.mono (by decide)) (by rfl) hy.m__law_dice hy.F__law_dice.kp hy.b__law_dice passL (ja_cons (je_var 3 (pv 3)) ja_nil))))))) rnd_ok, tRnd_of h (by decide)⟩
def b_Desk___init__ : CS := (sSeq (sIf (ctNot (cTst (cChain (fB2 ile) (fB2 ile) (cC (.int 1)) (cVar 1) (cC (.int 8))))) (sRaise 7) sNil) (sSeq (sFldS 8 0 (cVar 0) (cVar 1)) (sSeq (sFldS 8 1 (cVar 0) (cTup cNil)) (sSeq (sFldS 8 2 (cVar 0) (cLst cNil)) (sFldS 8 3 (cVar 0) (cLst cNil))))))
theorem g0_Desk___init__ (hy : Hy P K mg) (tb : Tbs hy base) : JF P w K mg base 1 hy.f_Desk___init__ hy.fd_Desk___init__ ["self", "many"] (nm hy) (cDef 2 2 b_Desk___init__) :=
   jf_def (k := 0) hy.F_Desk___init__ sc_Desk___init__ fun cdv A outer s H E hr => (jb_cons (js_if (jt_not (jt_chain opd_le opd_le je_int (je_var 1 (pv 1)) je_int)) (jb_one (js_raise rfl (takes_of rfl rfl rfl rfl) (pmk_own PySem.F.excBase_ValueError hy.x_BadDeed hy.g_BadDeed hy.k_BadDeed (raises_own hy.s_BadDeed hy.t_BadDeed) (by rfl)) rfl)) jb_nil) (jb_cons (js_fld (c := 8) (k := 0) hy.C_Desk hy.A_Desk_many rfl (fi hy 0 (by decide)) (je_var 0 (pv 0)) (je_var 1 (pv 1))) (jb_cons (js_fld (c := 8) (k := 1) hy.C_Desk hy.A_Desk_row rfl (fi hy 1 (by decide)) (je_var 0 (pv 0)) (je_tup ja_nil)) (jb_cons (js_fld (c := 8) (k := 2) hy.C_Desk hy.A_Desk_deeds rfl (fi hy 2 (by decide)) (je_var 0 (pv 0)) (je_lst ja_nil)) (jb_one (js_fld (c := 8) (k := 3) hy.C_Desk hy.A_Desk_undone rfl (fi hy 3 (by decide)) (je_var 0 (pv 0)) (je_lst ja_nil)))))))
abbrev F_Desk___init__ : CF := (cDef 2 2 b_Desk___init__)
theorem g_Desk___init__ (hy : Hy P K mg) (tb : Tbs hy base) : JF P w K mg base 1 hy.f_Desk___init__ hy.fd_Desk___init__ ["self", "many"] (nm hy) F_Desk___init__ := g0_Desk___init__ hy tb
def b_is_turn : CS := (sSeq (sIf (ctOr (ctNot (cTst (cIsiA true (cVar 0)))) (cTst (cQst true (ciSeq (cVar 0)) (gNm 1) ctYes (cNot (cIsiA false (cVar 1))) [1]))) (sRet (cC (.bl false))) sNil) (sRet (cOp fEq (cFn (f1 gSrtB) (cCons (cVar 0) cNil)) (cLstR (crg1 (cFn (f1 gLenA) (cCons (cVar 0) cNil)))))))
theorem g0_is_turn (hy : Hy P K mg) (tb : Tbs hy base) : JF P w K mg base 2 hy.f_is_turn hy.fd_is_turn ["thing"] (nm hy) (cDef 1 2 b_is_turn) :=
   jf_defc (k := 1) hy.F_is_turn sc_is_turn hy.cd_is_turn fun A outer s H E hr => (jb_cons (js_if (jt_of (jw_or (jt_not (jt_val (je_isiA true (by rfl) hy.z_isinstance (je_var 0 (pv 0)) (by rfl) hy.z_tuple (by rfl) (by decide) (by decide)))) (jw_or1 (jt_val (je_gany (E' := E0) (k := 0) (own := [("one", 1)]) (by rfl) hy.z_any (GxD.mk (k := 0) (hr.mono (by decide)) sc_is_turn.nd ⟨_, _, tb.t_is_turn, rfl, ⟨_, tb.m_is_turn, rfl⟩, fun e he q => by first | (rw [tb.u_is_turn e he q]; done) | (rw [tb.u_is_turn e he q]; rfl)⟩ (by decide +kernel) (ji_seq (je_var 0 (pv 0))) (blkOk_by (N := ["thing", "one"]) (sc := defScope s_is_turn) (own := [("one", 1)]) (by decide +kernel)) (fun _ _ _ _ _ _ hrG => (jgw_name (pg_name (i := 1) sc_is_turn.nd rfl (by first | exact .inl rfl | exact .inr rfl)))) (fun _ _ _ _ _ _ hrG => jts_nil) (fun _ _ _ _ _ _ hrG => (je_not (je_isiA false (by rfl) hy.z_isinstance (je_var 1 (pv 1)) (by rfl) hy.z_int (by rfl) (by decide) (by decide)))) (fun _ => rfl))))))) (jb_one (js_ret je_bl)) jb_nil) (jb_one (js_ret (je_cmp (opd_eq hr.units) (je_blt (blt_sortedB rfl) (by rfl) hy.z_sorted (by rfl) (ja_cons (je_var 0 (pv 0)) ja_nil)) (je_listR rfl (by rfl) hy.z_list (jr_1 (by rfl) hy.z_range (je_blt blt_lenA (by rfl) hy.z_len (by rfl) (ja_cons (je_var 0 (pv 0)) ja_nil)))) (by rfl)))))
abbrev F_is_turn : CF := (cDef 1 2 b_is_turn)
theorem g_is_turn (hy : Hy P K mg) (tb : Tbs hy base) : JF P w K mg base 2 hy.f_is_turn hy.fd_is_turn ["thing"] (nm hy) F_is_turn := g0_is_turn hy tb
def b_check_turn : CS := (sIf (ctOr (ctNot (cTst (cCall F_is_turn (cCons (cVar 0) cNil)))) (cTst (cOp fNe (cFn (f1 gLenA) (cCons (cVar 0) cNil)) (cVar 1)))) (sRaise 1) sNil)
theorem g0_check_turn (hy : Hy P K mg) (tb : Tbs hy base) : JF P w K mg base 3 hy.f_check_turn hy.fd_check_turn ["thing", "many"] (nm hy) (cDef 2 2 b_check_turn) :=
  have g_is_turn := g_is_turn (P := P) (w := w) (base := base) hy tb; jf_def (k := 2) hy.F_check_turn sc_check_turn fun cdv A outer s H E hr => (jb_one (js_if (jt_of (jw_or (jt_not (jt_val (je_call g_is_turn (hr.mono (by decide)) (by rfl) hy.m_is_turn hy.F_is_turn.kp hy.b_is_turn (passes_call (takes_of rfl rfl rfl rfl) (fun _ _ _ _ h => h)) (ja_cons (je_var 0 (pv 0)) ja_nil)))) (jw_or1 (jt_cmp (opd_ne hr.units) (je_blt blt_lenA (by rfl) hy.z_len (by rfl) (ja_cons (je_var 0 (pv 0)) ja_nil)) (je_var 1 (pv 1)) (by rfl))))) (jb_one (js_raise rfl (takes_of rfl rfl rfl rfl) (pmk_own PySem.F.excBase_ValueError hy.x_BadTurn hy.g_BadTurn hy.k_BadTurn (raises_own hy.s_BadTurn hy.t_BadTurn) (by rfl)) rfl)) jb_nil))
abbrev F_check_turn : CF := (cDef 2 2 b_check_turn)
theorem g_check_turn (hy : Hy P K mg) (tb : Tbs hy base) : JF P w K mg base 3 hy.f_check_turn hy.fd_check_turn ["thing", "many"] (nm hy) F_check_turn := g0_check_turn hy tb
def b_all_turns : CS := (sSeq (sIf (cTst (cOp (fB2 igt) (cVar 0) (cC (.int 7)))) (sRaise 6) sNil) (sSeq (sAsg (cLst (cCons (cTup cNil) cNil)) (gNm 1)) (sSeq (sFor (ciR1 (cCons (cVar 0) cNil)) (gNm 2) (sAsg (cLc2 (ciSeq (cVar 1)) (gNm 3) ctYes (ciR1 (cCons (cVar 0) cNil)) (gNm 4) (cTst (cOp fNotInA (cVar 4) (cVar 3))) (cOp fAdd (cVar 3) (cTup (cCons (cVar 4) cNil))) [3, 4] [4]) (gNm 1))) (sRet (cFn (f1 gTuple) (cCons (cVar 1) cNil))))))
theorem g0_all_turns (hy : Hy P K mg) (tb : Tbs hy base) : JF P w K mg base 1 hy.f_all_turns hy.fd_all_turns ["many"] (nm hy) (cDef 1 5 b_all_turns) :=
   jf_def (k := 0) hy.F_all_turns sc_all_turns fun cdv A outer s H E hr => (jb_cons (js_if (jt_cmp opd_gt (je_var 0 (pv 0)) je_int (by rfl)) (jb_one (js_raise rfl (takes_of rfl rfl rfl rfl) (pmk_own PySem.F.excBase_ValueError hy.x_TooLarge hy.g_TooLarge hy.k_TooLarge (raises_own hy.s_TooLarge hy.t_TooLarge) (by rfl)) rfl)) jb_nil) (jb_cons (js_set (i := 1) sc_all_turns.nd rfl (by first | exact .inl rfl | exact .inr rfl) (je_lst (ja_cons (je_tup ja_nil) ja_nil))) (jb_cons (js_for (passes_of rfl) rfl (ji_range1 (by rfl) hy.z_range (ja_cons (je_var 0 (pv 0)) ja_nil)) (jg_name (pg_name (i := 2) sc_all_turns.nd rfl (by first | exact .inl rfl | exact .inr rfl))) (jb_one (by first | exact js_setLc2 (E' := E0) (own := [("row", 3), ("place", 4)]) (vs1 := [4]) (i := 1) rfl sc_all_turns.nd rfl rfl (sw_true rfl rfl rfl (by decide +kernel)) (ji_seq (je_var 1 (pv 1))) (blkOk_by (N := ["many", "rows", "k", "row", "place"]) (sc := defScope s_all_turns) (own := [("row", 3), ("place", 4)]) (by decide +kernel)) (by decide) (fun _ _ _ _ _ => (jgw_name (pg_name (i := 3) sc_all_turns.nd rfl (by first | exact .inl rfl | exact .inr rfl)))) (fun _ _ _ _ _ => jts_nil) (fun _ _ _ _ _ => (ji_range1 (by rfl) hy.z_range (ja_cons (je_var 0 (pv 0)) ja_nil))) (fun _ _ _ _ _ => (jgw_name (pg_name (i := 4) sc_all_turns.nd rfl (by first | exact .inl rfl | exact .inr rfl)))) (fun _ _ _ _ _ => (jts_one (jt_cmp (opd_notInA (hu65 hr)) (je_var 4 (pv 4)) (je_var 3 (pv 3)) (by rfl)))) (fun _ _ _ _ _ => (je_op opd_add (je_var 3 (pv 3)) (je_tup (ja_cons (je_var 4 (pv 4)) ja_nil)))) | exact js_set (i := 1) sc_all_turns.nd rfl (by first | exact .inl rfl | exact .inr rfl) (je_lc2 (E' := E0) (own := [("row", 3), ("place", 4)]) (vs1 := [4]) rfl sc_all_turns.nd (ji_seq (je_var 1 (pv 1))) (blkOk_by (N := ["many", "rows", "k", "row", "place"]) (sc := defScope s_all_turns) (own := [("row", 3), ("place", 4)]) (by decide +kernel)) (by decide) (fun _ _ _ _ _ => (jgw_name (pg_name (i := 3) sc_all_turns.nd rfl (by first | exact .inl rfl | exact .inr rfl)))) (fun _ _ _ _ _ => jts_nil) (fun _ _ _ _ _ => (ji_range1 (by rfl) hy.z_range (ja_cons (je_var 0 (pv 0)) ja_nil))) (fun _ _ _ _ _ => (jgw_name (pg_name (i := 4) sc_all_turns.nd rfl (by first | exact .inl rfl | exact .inr rfl)))) (fun _ _ _ _ _ => (jts_one (jt_cmp (opd_notInA (hu65 hr)) (je_var 4 (pv 4)) (je_var 3 (pv 3)) (by rfl)))) (fun _ _ _ _ _ => (je_op opd_add (je_var 3 (pv 3)) (je_tup (ja_cons (je_var 4 (pv 4)) ja_nil)))))))) (jb_one (js_ret (je_ty ty_tuple (by rfl) hy.z_tuple (by rfl) (ja_cons (je_var 1 (pv 1)) ja_nil)))))))
abbrev F_all_turns : CF := (cDef 1 5 b_all_turns)
theorem g_all_turns (hy : Hy P K mg) (tb : Tbs hy base) : JF P w K mg base 1 hy.f_all_turns hy.fd_all_turns ["many"] (nm hy) F_all_turns := g0_all_turns hy tb
def b_Desk_note : CS := (sSeq (sIf (cTst (cOp fEq (cVar 1) (cFld 8 1 (cVar 0)))) (sRaise 7) sNil) (sSeq (sExpr (cMt fAppend (cFld 8 2 (cVar 0)) (cCons (cTup (cCons (cFld 8 1 (cVar 0)) (cCons (cVar 1) cNil))) cNil))) (sSeq (sFldS 8 3 (cVar 0) (cLst cNil)) (sFldS 8 1 (cVar 0) (cVar 1)))))
theorem g0_Desk_note (hy : Hy P K mg) (tb : Tbs hy base) : JF P w K mg base 1 hy.f_Desk_note hy.fd_Desk_note ["self", "row"] (nm hy) (cDef 2 2 b_Desk_note) :=
   jf_def (k := 0) hy.F_Desk_note sc_Desk_note fun cdv A outer s H E hr => (jb_cons (js_if (jt_cmp (opd_eq hr.units) (je_var 1 (pv 1)) (je_fld (c := 8) (k := 1) hy.C_Desk hy.A_Desk_row rfl (fi hy 1 (by decide)) (je_var 0 (pv 0))) (by rfl)) (jb_one (js_raise rfl (takes_of rfl rfl rfl rfl) (pmk_own PySem.F.excBase_ValueError hy.x_BadDeed hy.g_BadDeed hy.k_BadDeed (raises_own hy.s_BadDeed hy.t_BadDeed) (by rfl)) rfl)) jb_nil) (jb_cons (js_expr (je_mt PySem.F.plainAttrs_list PySem.F.slot_list_append PySem.F.type_list_append mtd_append (je_fld (c := 8) (k := 2) hy.C_Desk hy.A_Desk_deeds rfl (fi hy 2 (by decide)) (je_var 0 (pv 0))) (ja_cons (je_tup (ja_cons (je_fld (c := 8) (k := 1) hy.C_Desk hy.A_Desk_row rfl (fi hy 1 (by decide)) (je_var 0 (pv 0))) (ja_cons (je_var 1 (pv 1)) ja_nil))) ja_nil))) (jb_cons (js_fld (c := 8) (k := 3) hy.C_Desk hy.A_Desk_undone rfl (fi hy 3 (by decide)) (je_var 0 (pv 0)) (je_lst ja_nil)) (jb_one (js_fld (c := 8) (k := 1) hy.C_Desk hy.A_Desk_row rfl (fi hy 1 (by decide)) (je_var 0 (pv 0)) (je_var 1 (pv 1)))))))
abbrev F_Desk_note : CF := (cDef 2 2 b_Desk_note)
theorem g_Desk_note (hy : Hy P K mg) (tb : Tbs hy base) : JF P w K mg base 1 hy.f_Desk_note hy.fd_Desk_note ["self", "row"] (nm hy) F_Desk_note := g0_Desk_note hy tb
def b_Desk_take : CS := (sSeq (sIf (ctNot (cTst (cChain (fB2 ile) (fB2 ilt) (cC (.int 0)) (cVar 1) (cFn (f1 gLenA) (cCons (cFld 8 1 (cVar 0)) cNil))))) (sRaise 7) sNil) (sExpr (cMeth 8 F_Desk_note (cVar 0) (cCons (cOp fAdd (cSl (cFld 8 1 (cVar 0)) coN (coS (cVar 1))) (cSl (cFld 8 1 (cVar 0)) (coS (cOp fAdd (cVar 1) (cC (.int 1)))) coN)) cNil))))
theorem g0_Desk_take (hy : Hy P K mg) (tb : Tbs hy base) : JF P w K mg base 2 hy.f_Desk_take hy.fd_Desk_take ["self", "k"] (nm hy) (cDef 2 2 b_Desk_take) :=
  have g_Desk_note := g_Desk_note (P := P) (w := w) (base := base) hy tb; jf_def (k := 1) hy.F_Desk_take sc_Desk_take fun cdv A outer s H E hr => (jb_cons (js_if (jt_not (jt_chain opd_le opd_lt je_int (je_var 1 (pv 1)) (je_blt blt_lenA (by rfl) hy.z_len (by rfl) (ja_cons (je_fld (c := 8) (k := 1) hy.C_Desk hy.A_Desk_row rfl (fi hy 1 (by decide)) (je_var 0 (pv 0))) ja_nil)))) (jb_one (js_raise rfl (takes_of rfl rfl rfl rfl) (pmk_own PySem.F.excBase_ValueError hy.x_BadDeed hy.g_BadDeed hy.k_BadDeed (raises_own hy.s_BadDeed hy.t_BadDeed) (by rfl)) rfl)) jb_nil) (jb_one (js_expr (je_meth (c := 8) hy.C_Desk hy.M_Desk_note (fo hy "note" (by decide) (by decide)) g_Desk_note (hr.mono (by decide)) hy.b_Desk_note (passes_call (takes_of rfl rfl rfl rfl) (fun _ _ _ _ h => h)) (je_var 0 (pv 0)) (ja_cons (je_op opd_add (je_slice (je_fld (c := 8) (k := 1) hy.C_Desk hy.A_Desk_row rfl (fi hy 1 (by decide)) (je_var 0 (pv 0))) jo_none (jo_some (je_var 1 (pv 1)))) (je_slice (je_fld (c := 8) (k := 1) hy.C_Desk hy.A_Desk_row rfl (fi hy 1 (by decide)) (je_var 0 (pv 0))) (jo_some (je_op opd_add (je_var 1 (pv 1)) je_int)) jo_none)) ja_nil)))))
abbrev F_Desk_take : CF := (cDef 2 2 b_Desk_take)
theorem g_Desk_take (hy : Hy P K mg) (tb : Tbs hy base) : JF P w K mg base 2 hy.f_Desk_take hy.fd_Desk_take ["self", "k"] (nm hy) F_Desk_take := g0_Desk_take hy tb
def b_read : CS := (sSeq (sFor (ciEnumS (cCons (cVar 0) cNil)) (gTp 2 (gsCons (gNm 1) (gsCons (gNm 2) gsNil))) (sIf (cTst (cOp fNotInS (cTx0 Txt.lower (cVar 2)) (cC (.str "abcdefgh")))) (sRaiseX 3 (cVar 1)) sNil)) (sRet (cFn (f1 gTuple) (cCons (cLc (ciStr (cVar 0)) (gNm 2) ctYes (cTup (cCons (cIdxS (cC (.str "abcdefgh")) (cTx0 Txt.lower (cVar 2))) (cCons (cIf (cTst (cOp fEq (cTx0 Txt.lower (cVar 2)) (cVar 2))) (cC (.int 1)) (cNeg (cC (.int 1)))) cNil))) [2]) cNil))))
theorem g0_read (hy : Hy P K mg) (tb : Tbs hy base) : JF P w K mg base 3 hy.f_read hy.fd_read ["text"] (nm hy) (cDef 1 3 b_read) :=
   jf_def (k := 2) hy.F_read sc_read fun cdv A outer s H E hr => (jb_cons (js_for (passes_of rfl) rfl (ji_enumS (by rfl) hy.z_enumerate (ja_cons (je_var 0 (pv 0)) ja_nil)) (jg_tup rfl (jgs_cons (jg_name (pg_name (i := 1) sc_read.nd rfl (by first | exact .inl rfl | exact .inr rfl))) (jgs_cons (jg_name (pg_name (i := 2) sc_read.nd rfl (by first | exact .inl rfl | exact .inr rfl))) jgs_nil))) (jb_one (js_if (jt_cmp opd_notInS (je_lower (je_var 2 (pv 2))) (je_gstr (by rfl) hy.S_LETTERS) (by rfl)) (jb_one (js_raiseU rfl (takes_of rfl rfl rfl rfl) hy.X_BadWord (hr.mono (by decide)) (by rfl) hy.g_BadWord (je_var 1 (pv 1)) rfl rfl)) jb_nil))) (jb_one (js_ret (je_ty ty_tuple (by rfl) hy.z_tuple (by rfl) (ja_cons (je_lc (E' := E0) (own := [("sign", 2)]) rfl sc_read.nd (ji_str (je_var 0 (pv 0))) (blkOk_by (N := ["text", "k", "sign"]) (sc := defScope s_read) (own := [("sign", 2)]) (by decide +kernel)) (fun _ _ _ _ _ => (jgw_name (pg_name (i := 2) sc_read.nd rfl (by first | exact .inl rfl | exact .inr rfl)))) (fun _ _ _ _ _ => jts_nil) (fun _ _ _ _ _ => (je_tup (ja_cons (je_idxS rfl takes_never (je_gstr (by rfl) hy.S_LETTERS) (je_lower (je_var 2 (pv 2)))) (ja_cons (je_if (jt_cmp (opd_eq hr.units) (je_lower (je_var 2 (pv 2))) (je_var 2 (pv 2)) (by rfl)) je_int (je_neg je_int)) ja_nil))))) ja_nil)))))
abbrev F_read : CF := (cDef 1 3 b_read)
theorem g_read (hy : Hy P K mg) (tb : Tbs hy base) : JF P w K mg base 3 hy.f_read hy.fd_read ["text"] (nm hy) F_read := g0_read hy tb
def b_of_rank : CS := (sSeq (sAsg (cLst cNil) (gNm 2)) (sSeq (sFor (ciR2 (cCons (cC (.int 1)) (cCons (cOp fAdd (cVar 1) (cC (.int 1))) cNil))) (gNm 3) (sSeq (sExpr (cMt fAppend (cVar 2) (cCons (cOp fMod (cVar 0) (cVar 3)) cNil))) (sAug 0 (fI2c divOk idiv) (cVar 3)))) (sSeq (sIf (cTst (cOp fNe (cVar 0) (cC (.int 0)))) (sRaise 5) sNil) (sSeq (sPar 4 5 (cCons (cLst cNil) (cCons (cLstR (crg1 (cVar 1))) cNil))) (sSeq (sFor (ciRev (cVar 2)) (gNm 6) (sExpr (cMt fAppend (cVar 4) (cCons (cMt fPopAt (cVar 5) (cCons (cVar 6) cNil)) cNil)))) (sRet (cFn (f1 gTuple) (cCons (cVar 4) cNil))))))))
theorem g0_of_rank (hy : Hy P K mg) (tb : Tbs hy base) : JF P w K mg base 1 hy.f_of_rank hy.fd_of_rank ["number", "many"] (nm hy) (cDef 2 7 b_of_rank) :=
   jf_def (k := 0) hy.F_of_rank sc_of_rank fun cdv A outer s H E hr => (jb_cons (js_set (i := 2) sc_of_rank.nd rfl (by first | exact .inl rfl | exact .inr rfl) (je_lst ja_nil)) (jb_cons (js_for (passes_of rfl) rfl (ji_range2 (by rfl) hy.z_range (ja_cons je_int (ja_cons (je_op opd_add (je_var 1 (pv 1)) je_int) ja_nil))) (jg_name (pg_name (i := 3) sc_of_rank.nd rfl (by first | exact .inl rfl | exact .inr rfl))) (jb_cons (js_expr (je_mt PySem.F.plainAttrs_list PySem.F.slot_list_append PySem.F.type_list_append mtd_append (je_var 2 (pv 2)) (ja_cons (je_op opd_mod (je_var 0 (pv 0)) (je_var 3 (pv 3))) ja_nil))) (jb_one (js_aug (i := 0) sc_of_rank.nd rfl (by first | exact .inl rfl | exact .inr rfl) (je_var 3 (pv 3)) opd_idiv)))) (jb_cons (js_if (jt_cmp (opd_ne hr.units) (je_var 0 (pv 0)) je_int (by rfl)) (jb_one (js_raise rfl (takes_of rfl rfl rfl rfl) (pmk_own PySem.F.excBase_ValueError hy.x_NoWay hy.g_NoWay hy.k_NoWay (raises_own hy.s_NoWay hy.t_NoWay) (by rfl)) rfl)) jb_nil) (jb_cons (js_par (i := 4) (j := 5) rfl sc_of_rank.nd rfl rfl (by decide) rfl rfl (ja_cons (je_lst ja_nil) (ja_cons (je_listR rfl (by rfl) hy.z_list (jr_1 (by rfl) hy.z_range (je_var 1 (pv 1)))) ja_nil)) (by first | rfl | decide +kernel | with_unfolding_all rfl)) (jb_cons (js_for (passes_of rfl) rfl (ji_rev (by rfl) hy.z_reversed (je_var 2 (pv 2))) (jg_name (pg_name (i := 6) sc_of_rank.nd rfl (by first | exact .inl rfl | exact .inr rfl))) (jb_one (js_expr (je_mt PySem.F.plainAttrs_list PySem.F.slot_list_append PySem.F.type_list_append mtd_append (je_var 4 (pv 4)) (ja_cons (je_mt PySem.F.plainAttrs_list PySem.F.slot_list_pop PySem.F.type_list_pop mtd_popAt (je_var 5 (pv 5)) (ja_cons (je_var 6 (pv 6)) ja_nil)) ja_nil))))) (jb_one (js_ret (je_ty ty_tuple (by rfl) hy.z_tuple (by rfl) (ja_cons (je_var 4 (pv 4)) ja_nil)))))))))
abbrev F_of_rank : CF := (cDef 2 7 b_of_rank)
theorem g_of_rank (hy : Hy P K mg) (tb : Tbs hy base) : JF P w K mg base 1 hy.f_of_rank hy.fd_of_rank ["number", "many"] (nm hy) F_of_rank := g0_of_rank hy tb
def b_still : CS := (sRet (cTupR (crg1 (cVar 0))))
theorem g0_still (hy : Hy P K mg) (tb : Tbs hy base) : JF P w K mg base 1 hy.f_still hy.fd_still ["many"] (nm hy) (cDef 1 1 b_still) :=
   jf_def (k := 0) hy.F_still sc_still fun cdv A outer s H E hr => (jb_one (js_ret (je_tupR rfl (by rfl) hy.z_tuple (jr_1 (by rfl) hy.z_range (je_var 0 (pv 0))))))
abbrev F_still : CF := (cDef 1 1 b_still)
theorem g_still (hy : Hy P K mg) (tb : Tbs hy base) : JF P w K mg base 1 hy.f_still hy.fd_still ["many"] (nm hy) F_still := g0_still hy tb
def b_after : CS := (sRet (cFn (f1 gTuple) (cCons (cLc (ciSeq (cVar 0)) (gNm 2) ctYes (cOp fIx (cVar 1) (cVar 2)) [2]) cNil)))
theorem g0_after (hy : Hy P K mg) (tb : Tbs hy base) : JF P w K mg base 1 hy.f_after hy.fd_after ["one", "other"] (nm hy) (cDef 2 3 b_after) :=
   jf_def (k := 0) hy.F_after sc_after fun cdv A outer s H E hr => (jb_one (js_ret (je_ty ty_tuple (by rfl) hy.z_tuple (by rfl) (ja_cons (je_lc (E' := E0) (own := [("place", 2)]) rfl sc_after.nd (ji_seq (je_var 0 (pv 0))) (blkOk_by (N := ["one", "other", "place"]) (sc := defScope s_after) (own := [("place", 2)]) (by decide +kernel)) (fun _ _ _ _ _ => (jgw_name (pg_name (i := 2) sc_after.nd rfl (by first | exact .inl rfl | exact .inr rfl)))) (fun _ _ _ _ _ => jts_nil) (fun _ _ _ _ _ => (je_ix (hu_of hr) (je_var 1 (pv 1)) (je_var 2 (pv 2)) (fun _ _ => rfl)))) ja_nil))))
abbrev F_after : CF := (cDef 2 3 b_after)
theorem g_after (hy : Hy P K mg) (tb : Tbs hy base) : JF P w K mg base 1 hy.f_after hy.fd_after ["one", "other"] (nm hy) F_after := g0_after hy tb
def b_look_paper : CS := (sSeq (sAsg (cCall F_still (cCons (cFn (f1 gLenA) (cCons (cVar 0) cNil)) cNil)) (gNm 2)) (sSeq (sFor (ciRev (cVar 1)) (gNm 3) (sAsg (cCall F_after (cCons (cVar 2) (cCons (cVar 3) cNil))) (gNm 2))) (sIf (cTst (cOp fNe (cVar 2) (cVar 0))) (sRaiseX 4 (cFn (f1 gLenA) (cCons (cVar 1) cNil))) sNil)))
theorem g0_look_paper (hy : Hy P K mg) (tb : Tbs hy base) : JF P w K mg base 4 hy.f_look_paper hy.fd_look_paper ["turn", "paper"] (nm hy) (cDef 2 4 b_look_paper) :=
  have g_after := g_after (P := P) (w := w) (base := base) hy tb; have g_still := g_still (P := P) (w := w) (base := base) hy tb; jf_def (k := 3) hy.F_look_paper sc_look_paper fun cdv A outer s H E hr => (jb_cons (js_set (i := 2) sc_look_paper.nd rfl (by first | exact .inl rfl | exact .inr rfl) (je_call g_still (hr.mono (by decide)) (by rfl) hy.m_still hy.F_still.kp hy.b_still (passes_call (takes_of rfl rfl rfl rfl) (fun _ _ _ _ h => h)) (ja_cons (je_blt blt_lenA (by rfl) hy.z_len (by rfl) (ja_cons (je_var 0 (pv 0)) ja_nil)) ja_nil))) (jb_cons (js_for (passes_of rfl) rfl (ji_rev (by rfl) hy.z_reversed (je_var 1 (pv 1))) (jg_name (pg_name (i := 3) sc_look_paper.nd rfl (by first | exact .inl rfl | exact .inr rfl))) (jb_one (js_set (i := 2) sc_look_paper.nd rfl (by first | exact .inl rfl | exact .inr rfl) (je_call g_after (hr.mono (by decide)) (by rfl) hy.m_after hy.F_after.kp hy.b_after (passes_call (takes_of rfl rfl rfl rfl) (fun _ _ _ _ h => h)) (ja_cons (je_var 2 (pv 2)) (ja_cons (je_var 3 (pv 3)) ja_nil)))))) (jb_one (js_if (jt_cmp (opd_ne hr.units) (je_var 2 (pv 2)) (je_var 0 (pv 0)) (by rfl)) (jb_one (js_raiseU rfl (takes_of rfl rfl rfl rfl) hy.X_BadPaper (hr.mono (by decide)) (by rfl) hy.g_BadPaper (je_blt blt_lenA (by rfl) hy.z_len (by rfl) (ja_cons (je_var 1 (pv 1)) ja_nil)) rfl rfl)) jb_nil))))
abbrev F_look_paper : CF := (cDef 2 4 b_look_paper)
theorem g_look_paper (hy : Hy P K mg) (tb : Tbs hy base) : JF P w K mg base 4 hy.f_look_paper hy.fd_look_paper ["turn", "paper"] (nm hy) F_look_paper := g0_look_paper hy tb

def K_1 : CK := fun σ η => (sWh 2 3 (cCons (cFn (f1 gLenA) (cCons (cVar 2) cNil)) cNil) (cOp fIx (cVar 2) (cVar 3)) (cOp fAdd (cLc (ciR1 (cCons (cC (.int 7)) cNil)) (gNm 6) ctYes (cOp fEq (cVar 6) (cVar 3)) [6]) (cLst (cCons (cC (.bl true)) cNil))) [((cCall F_check_turn (cCons (cTup (cCons (cVar 5) (cCons (cVar 5) cNil))) (cCons (cC (.int 2)) cNil))), 1), ((cMake 9 F_Table___init__ (cCons (cLst (cCons (cLst (cCons (cVar 5) cNil)) cNil)) cNil)), 2), ((cCall F_read (cCons (cOp fAdd (cOp fRepS (cC (.str "a")) (cOp fMod (cVar 5) (cC (.int 9)))) (cC (.str "z"))) cNil)), 3), ((cCall F_look_paper (cCons (cTup (cCons (cC (.int 1)) (cCons (cC (.int 0)) cNil))) (cCons (cTup cNil) cNil))), 4), ((cCall F_of_rank (cCons (cVar 5) (cCons (cC (.int 1)) cNil))), 5), ((cCall F_all_turns (cCons (cOp fAdd (cC (.int 7)) (cVar 5)) cNil)), 6), ((cMeth 8 F_Desk_take (cVar 4) (cCons (cVar 5) cNil)), 7)]) σ η (kT 7)
def K_0 : CK := fun σ η => (sAsg (cTup (cCons (cOp fAdd (cC (.int 1)) (cCall F__law_roll (cCons (cVar 1) (cCons (cC (.int 900)) cNil)))) (cCons (cMake 8 F_Desk___init__ (cCons (cC (.int 3)) cNil)) cNil))) (gTp 2 (gsCons (gNm 5) (gsCons (gNm 4) gsNil)))) σ η { kT 7 with nx := K_1 }
def K_0' (k : CK) : CK := fun σ η => (sAsg (cTup (cCons (cOp fAdd (cC (.int 1)) (cCall F__law_roll (cCons (cVar 1) (cCons (cC (.int 900)) cNil)))) (cCons (cMake 8 F_Desk___init__ (cCons (cC (.int 3)) cNil)) cNil))) (gTp 2 (gsCons (gNm 5) (gsCons (gNm 4) gsNil)))) σ η { kT 7 with nx := k }
def tst (v : Nat) : Bool := K_1 [none, some (.ref 0), none, none, some (.ref 1), some (.int (Int.ofNat (1 + v))), none] ⟨4, [(3, .lst []), (2, .lst []), (1, .ins 8 [(0, .int 3), (1, .tup []), (2, .ref 2), (3, .ref 3)]), (0, .dice)]⟩
theorem c_0 : (List.range' 0 50).all tst = true := by decide +kernel
theorem c_1 : (List.range' 50 50).all tst = true := by decide +kernel
theorem c_2 : (List.range' 100 50).all tst = true := by decide +kernel
theorem c_3 : (List.range' 150 50).all tst = true := by decide +kernel
theorem c_4 : (List.range' 200 50).all tst = true := by decide +kernel
theorem c_5 : (List.range' 250 50).all tst = true := by decide +kernel
theorem c_6 : (List.range' 300 50).all tst = true := by decide +kernel
theorem c_7 : (List.range' 350 50).all tst = true := by decide +kernel
theorem c_8 : (List.range' 400 50).all tst = true := by decide +kernel
theorem c_9 : (List.range' 450 50).all tst = true := by decide +kernel
theorem c_10 : (List.range' 500 50).all tst = true := by decide +kernel
theorem c_11 : (List.range' 550 50).all tst = true := by decide +kernel
theorem c_12 : (List.range' 600 50).all tst = true := by decide +kernel
theorem c_13 : (List.range' 650 50).all tst = true := by decide +kernel
theorem c_14 : (List.range' 700 50).all tst = true := by decide +kernel
theorem c_15 : (List.range' 750 50).all tst = true := by decide +kernel
theorem c_16 : (List.range' 800 50).all tst = true := by decide +kernel
theorem c_17 : (List.range' 850 50).all tst = true := by decide +kernel
theorem tst_all {v : Nat} (hv : v < 900) : tst v = true := by
  have key : ∀ a, (List.range' a 50).all tst = true → a ≤ v → v < a + 50 → tst v = true := fun a h h1 h2 => List.all_eq_true.mp h v (List.mem_range'_1.mpr ⟨h1, h2⟩)
  by_cases h0 : v < 50
  · exact key _ c_0 (by omega) (by omega)
  by_cases h1 : v < 100
  · exact key _ c_1 (by omega) (by omega)
  by_cases h2 : v < 150
  · exact key _ c_2 (by omega) (by omega)
  by_cases h3 : v < 200
  · exact key _ c_3 (by omega) (by omega)
  by_cases h4 : v < 250
  · exact key _ c_4 (by omega) (by omega)
  by_cases h5 : v < 300
  · exact key _ c_5 (by omega) (by omega)
  by_cases h6 : v < 350
  · exact key _ c_6 (by omega) (by omega)
  by_cases h7 : v < 400
  · exact key _ c_7 (by omega) (by omega)
  by_cases h8 : v < 450
  · exact key _ c_8 (by omega) (by omega)
  by_cases h9 : v < 500
  · exact key _ c_9 (by omega) (by omega)
  by_cases h10 : v < 550
  · exact key _ c_10 (by omega) (by omega)
  by_cases h11 : v < 600
  · exact key _ c_11 (by omega) (by omega)
  by_cases h12 : v < 650
  · exact key _ c_12 (by omega) (by omega)
  by_cases h13 : v < 700
  · exact key _ c_13 (by omega) (by omega)
  by_cases h14 : v < 750
  · exact key _ c_14 (by omega) (by omega)
  by_cases h15 : v < 800
  · exact key _ c_15 (by omega) (by omega)
  by_cases h16 : v < 850
  · exact key _ c_16 (by omega) (by omega)
  by_cases h17 : v < 900
  · exact key _ c_17 (by omega) (by omega)
  omega
theorem allN_of : ∀ {n : Nat} {f : Nat → Bool}, (∀ i, i < n → f i = true) → allN n f = true
  | 0, _, _ => rfl
  | n + 1, f, h => by
    unfold allN
    rw [h n (Nat.lt_succ_self n)]
    exact allN_of fun i hi => h i (Nat.lt_succ_of_lt hi)
theorem s0_roll : K_0 ((List.replicate 7 none).set 1 (some (.ref 0))) ⟨1, [(0, .dice)]⟩ = allN 900 (fun v => tst v) := by
  have : ∀ k : CK, (K_0' k) ((List.replicate 7 none).set 1 (some (.ref 0))) ⟨1, [(0, .dice)]⟩ = allN 900 fun v => k [none, some (.ref 0), none, none, some (.ref 1), some (.int (Int.ofNat (1 + v))), none] ⟨4, [(3, .lst []), (2, .lst []), (1, .ins 8 [(0, .int 3), (1, .tup []), (2, .ref 2), (3, .ref 3)]), (0, .dice)]⟩ := fun k => rfl
  exact this K_1
theorem hgen : K_0 ((List.replicate 7 none).set 1 (some (.ref 0))) ⟨1, [(0, .dice)]⟩ = true := by
  rw [s0_roll]
  exact allN_of fun v hv => tst_all hv
theorem g_law (hy : Hy P K mg) (tb : Tbs hy base) {fa : Addr} {oc kV dc pm ct : Value} {od an : Option Addr} {sl : Array (Option Value)} (lk : K.lookup fa = some ⟨oc, od, .func (PySem.W.fnOf "law" "law" (defArgs s_law) (defBody s_law) (defScope s_law) .none kV dc pm an (.ref hy.tc_law) ct), sl⟩)
    (hcd : PySem.W.codeIn K (.ref hy.tc_law) "law" = true) : FnOk P w K mg base (L2.CX P w) 9 fa (PySem.W.fnOf "law" "law" (defArgs s_law) (defBody s_law) (defScope s_law) .none kV dc pm an (.ref hy.tc_law) ct) ["script"] (spLaw K (nm hy)) :=
  have g_Desk___init__ := g_Desk___init__ (P := P) (w := w) (base := base) hy tb; have g_Desk_take := g_Desk_take (P := P) (w := w) (base := base) hy tb; have g_Table___init__ := g_Table___init__ (P := P) (w := w) (base := base) hy tb; have g__law_roll := g__law_roll (P := P) (w := w) (base := base) hy tb; have g__law_rounds := g__law_rounds (P := P) (w := w) (base := base) hy tb; have g_all_turns := g_all_turns (P := P) (w := w) (base := base) hy tb; have g_check_turn := g_check_turn (P := P) (w := w) (base := base) hy tb; have g_look_paper := g_look_paper (P := P) (w := w) (base := base) hy tb; have g_of_rank := g_of_rank (P := P) (w := w) (base := base) hy tb; have g_read := g_read (P := P) (w := w) (base := base) hy tb; fn_of (k := 8) lk hcd sc_law (fun vs H Q E h => by obtain ⟨_, _, rfl, _⟩ := h; rfl) fun A outer s H vs Q E hr h =>
    ⟨tLaw K (nm hy) 7, law_loop (n := 3) g__law_rounds (hr.mono (by decide)) (by rfl) hy.m__law_rounds hy.F__law_rounds.kp hy.b__law_rounds (passes_call (takes_of rfl rfl rfl rfl) (fun _ _ _ _ h => h)) (pv 0) pe_int (by decide) (passes_of rfl) rfl
      (jg_name (pg_name (i := 1) sc_law.nd rfl (by first | exact .inl rfl | exact .inr rfl))) (show JK _ _ _ 7 _ K_0 from jk_cons (js_asg (je_tup (ja_cons (je_op opd_add je_int (je_call g__law_roll (hr.mono (by decide)) (by rfl) hy.m__law_roll hy.F__law_roll.kp hy.b__law_roll (passes_call (takes_of rfl rfl rfl rfl) (fun _ _ _ _ h => h)) (ja_cons (je_var 1 (pv 1)) (ja_cons je_int ja_nil)))) (ja_cons (je_make (c := 8) hy.Mk_Desk g_Desk___init__ (hr.mono (by decide)) (by rfl) hy.g_Desk hy.b_Desk___init__ (passes_call (takes_of rfl rfl rfl rfl) (fun _ _ _ _ h => h)) (ja_cons je_int ja_nil)) ja_nil))) (jg_tup rfl (jgs_cons (jg_name (pg_name (i := 5) sc_law.nd rfl (by first | exact .inl rfl | exact .inr rfl))) (jgs_cons (jg_name (pg_name (i := 4) sc_law.nd rfl (by first | exact .inl rfl | exact .inr rfl))) jgs_nil)))) (show JK _ _ _ 7 _ K_1 from jk_of (jb_whats (Ss := [⟨_, _, _, _⟩, ⟨_, _, _, _⟩, ⟨_, _, _, _⟩, ⟨_, _, _, _⟩, ⟨_, _, _, _⟩, ⟨_, _, _, _⟩, ⟨_, _, _, _⟩]) (l := [((cCall F_check_turn (cCons (cTup (cCons (cVar 5) (cCons (cVar 5) cNil))) (cCons (cC (.int 2)) cNil))), 1), ((cMake 9 F_Table___init__ (cCons (cLst (cCons (cLst (cCons (cVar 5) cNil)) cNil)) cNil)), 2), ((cCall F_read (cCons (cOp fAdd (cOp fRepS (cC (.str "a")) (cOp fMod (cVar 5) (cC (.int 9)))) (cC (.str "z"))) cNil)), 3), ((cCall F_look_paper (cCons (cTup (cCons (cC (.int 1)) (cCons (cC (.int 0)) cNil))) (cCons (cTup cNil) cNil))), 4), ((cCall F_of_rank (cCons (cVar 5) (cCons (cC (.int 1)) cNil))), 5), ((cCall F_all_turns (cCons (cOp fAdd (cC (.int 7)) (cVar 5)) cNil)), 6), ((cMeth 8 F_Desk_take (cVar 4) (cCons (cVar 5) cNil)), 7)]) (iw := 2) (ik := 3) (k0 := 6) (us1 := [.ref hy.c_BadTurn, .ref hy.c_BadTable, .ref hy.c_BadWord, .ref hy.c_BadPaper]) (us2 := [.ref hy.c_NoWay, .ref hy.c_TooLarge, .ref hy.c_BadDeed, .type "ValueError"]) (c := .ref hy.c_GroupFault) ⟨tb.t_law, rfl, tb.m_law, fun e he q => congrArg Prod.fst (tb.u_law e he q), rfl, rfl⟩ sc_law.nd (passes_of rfl) rfl hr.units rfl rfl rfl rfl rfl (by decide) rfl hy.z_range (.cons ⟨rfl, (LamX.lamS_by (sc := defScope s_law) (by decide +kernel)), rfl⟩ (sit_mk (LamX.lamS_by (sc := defScope s_law) (by decide +kernel)) (fun _ _ _ _ _ => rfl) (fun A outer s H E f c' hr9 => show JE _ (nm hy) E _ (cCall F_check_turn (cCons (cTup (cCons (cVar 5) (cCons (cVar 5) cNil))) (cCons (cC (.int 2)) cNil))) from (je_call g_check_turn (hr9.mono (by decide)) (by rfl) hy.m_check_turn hy.F_check_turn.kp hy.b_check_turn (passes_call (takes_of rfl rfl rfl rfl) (fun _ _ _ _ h => h)) (ja_cons (je_tup (ja_cons (je_var 5 (pv 5)) (ja_cons (je_var 5 (pv 5)) ja_nil))) (ja_cons je_int ja_nil))))) ⟨hy.xc_BadTurn, hy.xg_BadTurn, [true, false, false, false], [false, false, false, true], (.cons hy.ki_BadTurn_BadTurn (.cons hy.ki_BadTurn_BadTable (.cons hy.ki_BadTurn_BadWord (.cons hy.ki_BadTurn_BadPaper .nil)))), (.cons hy.ki_BadTurn_NoWay (.cons hy.ki_BadTurn_TooLarge (.cons hy.ki_BadTurn_BadDeed (.cons hy.ki_BadTurn_V .nil)))), by decide, rfl⟩ (.cons ⟨rfl, (LamX.lamS_by (sc := defScope s_law) (by decide +kernel)), rfl⟩ (sit_mk (LamX.lamS_by (sc := defScope s_law) (by decide +kernel)) (fun _ _ _ _ _ => rfl) (fun A outer s H E f c' hr9 => show JE _ (nm hy) E _ (cMake 9 F_Table___init__ (cCons (cLst (cCons (cLst (cCons (cVar 5) cNil)) cNil)) cNil)) from (je_make (c := 9) hy.Mk_Table g_Table___init__ (hr9.mono (by decide)) (by rfl) hy.g_Table hy.b_Table___init__ (passes_call (takes_of rfl rfl rfl rfl) (fun _ _ _ _ h => h)) (ja_cons (je_lst (ja_cons (je_lst (ja_cons (je_var 5 (pv 5)) ja_nil)) ja_nil)) ja_nil)))) ⟨hy.xc_BadTable, hy.xg_BadTable, [false, true, false, false], [false, false, false, true], (.cons hy.ki_BadTable_BadTurn (.cons hy.ki_BadTable_BadTable (.cons hy.ki_BadTable_BadWord (.cons hy.ki_BadTable_BadPaper .nil)))), (.cons hy.ki_BadTable_NoWay (.cons hy.ki_BadTable_TooLarge (.cons hy.ki_BadTable_BadDeed (.cons hy.ki_BadTable_V .nil)))), by decide, rfl⟩ (.cons ⟨rfl, (LamX.lamS_by (sc := defScope s_law) (by decide +kernel)), rfl⟩ (sit_mk (LamX.lamS_by (sc := defScope s_law) (by decide +kernel)) (fun _ _ _ _ _ => rfl) (fun A outer s H E f c' hr9 => show JE _ (nm hy) E _ (cCall F_read (cCons (cOp fAdd (cOp fRepS (cC (.str "a")) (cOp fMod (cVar 5) (cC (.int 9)))) (cC (.str "z"))) cNil)) from (je_call g_read (hr9.mono (by decide)) (by rfl) hy.m_read hy.F_read.kp hy.b_read (passes_call (takes_of rfl rfl rfl rfl) (fun _ _ _ _ h => h)) (ja_cons (je_op opd_add (je_op opd_repS je_str (je_op opd_mod (je_var 5 (pv 5)) je_int)) je_str) ja_nil)))) ⟨hy.xc_BadWord, hy.xg_BadWord, [false, false, true, false], [false, false, false, true], (.cons hy.ki_BadWord_BadTurn (.cons hy.ki_BadWord_BadTable (.cons hy.ki_BadWord_BadWord (.cons hy.ki_BadWord_BadPaper .nil)))), (.cons hy.ki_BadWord_NoWay (.cons hy.ki_BadWord_TooLarge (.cons hy.ki_BadWord_BadDeed (.cons hy.ki_BadWord_V .nil)))), by decide, rfl⟩ (.cons ⟨rfl, (LamX.lamS_by (sc := defScope s_law) (by decide +kernel)), rfl⟩ (sit_mk (LamX.lamS_by (sc := defScope s_law) (by decide +kernel)) (fun _ _ _ _ _ => rfl) (fun A outer s H E f c' hr9 => show JE _ (nm hy) E _ (cCall F_look_paper (cCons (cTup (cCons (cC (.int 1)) (cCons (cC (.int 0)) cNil))) (cCons (cTup cNil) cNil))) from (je_call g_look_paper (hr9.mono (by decide)) (by rfl) hy.m_look_paper hy.F_look_paper.kp hy.b_look_paper (passes_call (takes_of rfl rfl rfl rfl) (fun _ _ _ _ h => h)) (ja_cons (je_tup (ja_cons je_int (ja_cons je_int ja_nil))) (ja_cons (je_tup ja_nil) ja_nil))))) ⟨hy.xc_BadPaper, hy.xg_BadPaper, [false, false, false, true], [false, false, false, true], (.cons hy.ki_BadPaper_BadTurn (.cons hy.ki_BadPaper_BadTable (.cons hy.ki_BadPaper_BadWord (.cons hy.ki_BadPaper_BadPaper .nil)))), (.cons hy.ki_BadPaper_NoWay (.cons hy.ki_BadPaper_TooLarge (.cons hy.ki_BadPaper_BadDeed (.cons hy.ki_BadPaper_V .nil)))), by decide, rfl⟩ (.cons ⟨rfl, (LamX.lamS_by (sc := defScope s_law) (by decide +kernel)), rfl⟩ (sit_mk (LamX.lamS_by (sc := defScope s_law) (by decide +kernel)) (fun _ _ _ _ _ => rfl) (fun A outer s H E f c' hr9 => show JE _ (nm hy) E _ (cCall F_of_rank (cCons (cVar 5) (cCons (cC (.int 1)) cNil))) from (je_call g_of_rank (hr9.mono (by decide)) (by rfl) hy.m_of_rank hy.F_of_rank.kp hy.b_of_rank (passes_call (takes_of rfl rfl rfl rfl) (fun _ _ _ _ h => h)) (ja_cons (je_var 5 (pv 5)) (ja_cons je_int ja_nil))))) ⟨hy.xc_NoWay, hy.xg_NoWay, [false, false, false, false], [true, false, false, true], (.cons hy.ki_NoWay_BadTurn (.cons hy.ki_NoWay_BadTable (.cons hy.ki_NoWay_BadWord (.cons hy.ki_NoWay_BadPaper .nil)))), (.cons hy.ki_NoWay_NoWay (.cons hy.ki_NoWay_TooLarge (.cons hy.ki_NoWay_BadDeed (.cons hy.ki_NoWay_V .nil)))), by decide, rfl⟩ (.cons ⟨rfl, (LamX.lamS_by (sc := defScope s_law) (by decide +kernel)), rfl⟩ (sit_mk (LamX.lamS_by (sc := defScope s_law) (by decide +kernel)) (fun _ _ _ _ _ => rfl) (fun A outer s H E f c' hr9 => show JE _ (nm hy) E _ (cCall F_all_turns (cCons (cOp fAdd (cC (.int 7)) (cVar 5)) cNil)) from (je_call g_all_turns (hr9.mono (by decide)) (by rfl) hy.m_all_turns hy.F_all_turns.kp hy.b_all_turns (passes_call (takes_of rfl rfl rfl rfl) (fun _ _ _ _ h => h)) (ja_cons (je_op opd_add je_int (je_var 5 (pv 5))) ja_nil)))) ⟨hy.xc_TooLarge, hy.xg_TooLarge, [false, false, false, false], [false, true, false, true], (.cons hy.ki_TooLarge_BadTurn (.cons hy.ki_TooLarge_BadTable (.cons hy.ki_TooLarge_BadWord (.cons hy.ki_TooLarge_BadPaper .nil)))), (.cons hy.ki_TooLarge_NoWay (.cons hy.ki_TooLarge_TooLarge (.cons hy.ki_TooLarge_BadDeed (.cons hy.ki_TooLarge_V .nil)))), by decide, rfl⟩ (.cons ⟨rfl, (LamX.lamS_by (sc := defScope s_law) (by decide +kernel)), rfl⟩ (sit_mk (LamX.lamS_by (sc := defScope s_law) (by decide +kernel)) (fun _ _ _ _ _ => rfl) (fun A outer s H E f c' hr9 => show JE _ (nm hy) E _ (cMeth 8 F_Desk_take (cVar 4) (cCons (cVar 5) cNil)) from (je_meth (c := 8) hy.C_Desk hy.M_Desk_take (fo hy "take" (by decide) (by decide)) g_Desk_take (hr9.mono (by decide)) hy.b_Desk_take (passes_call (takes_of rfl rfl rfl rfl) (fun _ _ _ _ h => h)) (je_var 4 (pv 4)) (ja_cons (je_var 5 (pv 5)) ja_nil)))) ⟨hy.xc_BadDeed, hy.xg_BadDeed, [false, false, false, false], [false, false, true, true], (.cons hy.ki_BadDeed_BadTurn (.cons hy.ki_BadDeed_BadTable (.cons hy.ki_BadDeed_BadWord (.cons hy.ki_BadDeed_BadPaper .nil)))), (.cons hy.ki_BadDeed_NoWay (.cons hy.ki_BadDeed_TooLarge (.cons hy.ki_BadDeed_BadDeed (.cons hy.ki_BadDeed_V .nil)))), by decide, rfl⟩ .nil))))))) (by decide)
        (fun pn => ja_cons (je_blt blt_lenA (by rfl) hy.z_len (by rfl) (ja_cons (je_var 2 (pv 2)) ja_nil)) ja_nil) (fun pn => (je_ix (hu_of hr) (je_var 2 (pv 2)) (je_var 3 (pv 3)) (fun _ _ => rfl))) (fun pn => (je_op opd_add (je_lc (E' := E0) (own := [("j", 6)]) rfl sc_law.nd (ji_range1 (by rfl) hy.z_range (ja_cons je_int ja_nil)) (blkOk_by (N := ["script", "dice", "whats", "k", "desk", "many", "j"]) (sc := defScope s_law) (own := [("j", 6)]) (by decide +kernel)) (fun _ _ _ _ _ => (jgw_name (pg_name (i := 6) sc_law.nd rfl (by first | exact .inl rfl | exact .inr rfl)))) (fun _ _ _ _ _ => jts_nil) (fun _ _ _ _ _ => (je_cmp (opd_eq hr.units) (je_var 6 (pv 6)) (je_var 3 (pv 3)) (by rfl)))) (je_lst (ja_cons je_bl ja_nil)))) (fun pn => (jb_one (js_ret je_bl))) hy.F__law_told (by rfl) hy.m__law_told hy.b__law_told sc__law_told rfl (.inl rfl) (fun cdv => gives_isi (ie := 1) (is := 2) rfl hy.g_GroupFault (by decide) (fun _ => rfl) sc__law_told.nd rfl rfl (by decide) rfl rfl (by decide) (by decide) (fun Z D a0 d h1 h2 h3 hc => (isi_own h1 h2 h3 hc rfl hy.z_isinstance rfl rfl rfl hy.g_BadTurn (isi_own h1 h2 h3 hc rfl hy.z_isinstance rfl rfl rfl hy.g_BadTable (isi_own h1 h2 h3 hc rfl hy.z_isinstance rfl rfl rfl hy.g_BadWord (isi_own h1 h2 h3 hc rfl hy.z_isinstance rfl rfl rfl hy.g_BadPaper isi_nil))))) (fun Z D a0 d h1 h2 h3 hc => (isi_own h1 h2 h3 hc rfl hy.z_isinstance rfl rfl rfl hy.g_NoWay (isi_own h1 h2 h3 hc rfl hy.z_isinstance rfl rfl rfl hy.g_TooLarge (isi_own h1 h2 h3 hc rfl hy.z_isinstance rfl rfl rfl hy.g_BadDeed (isi_val h1 h2 h3 hc rfl hy.z_isinstance rfl rfl rfl hy.z_ValueError isi_nil)))))) (hr.mono (by decide)) rfl rfl rfl rfl (fun _ => rfl) (by decide) (by decide) (by decide)))) hgen, tLaw_of h (by decide)⟩
end
theorem all_mk {l : PySem.W.OpenLaw} {w : World} {K : PySem.W.Frag} {h : Heap} {mg : Str → Option Value} {fa : Addr} (X : K.In h) (G : h.Ns mainGlobals mg) (hfa : mg "law" = some (.ref fa))
    {c_BadDeed : Addr}
    {c_BadPaper : Addr}
    {c_BadTable : Addr}
    {c_BadTurn : Addr}
    {c_BadWord : Addr}
    {c_Desk : Addr}
    {c_GroupFault : Addr}
    {c_NoWay : Addr}
    {c_Table : Addr}
    {c_TooLarge : Addr}
    {fi_BadPaper cda_BadPaper cc_BadPaper : Addr} {oc_BadPaper kV_BadPaper dc_BadPaper pm_BadPaper ct_BadPaper ccl_BadPaper cl_BadPaper : Value} {od_BadPaper an_BadPaper cdd_BadPaper cld_BadPaper : Option Addr} {osl_BadPaper ccs_BadPaper csl_BadPaper : Array (Option Value)} {vs_BadPaper : Array Value} {file_BadPaper : Str} {tf_BadPaper : Tok}
    {fi_BadWord cda_BadWord cc_BadWord : Addr} {oc_BadWord kV_BadWord dc_BadWord pm_BadWord ct_BadWord ccl_BadWord cl_BadWord : Value} {od_BadWord an_BadWord cdd_BadWord cld_BadWord : Option Addr} {osl_BadWord ccs_BadWord csl_BadWord : Array (Option Value)} {vs_BadWord : Array Value} {file_BadWord : Str} {tf_BadWord : Tok}
    {f_law : Addr} {od_law an_law : Option Addr} {sl_law : Array (Option Value)} {oc_law kV_law dc_law pm_law ct_law : Value}
    {f__law_rounds : Addr} {od__law_rounds an__law_rounds : Option Addr} {sl__law_rounds : Array (Option Value)} {oc__law_rounds kV__law_rounds dc__law_rounds pm__law_rounds cd__law_rounds ct__law_rounds : Value}
    {f__law_dice : Addr} {od__law_dice an__law_dice : Option Addr} {sl__law_dice : Array (Option Value)} {oc__law_dice kV__law_dice dc__law_dice pm__law_dice cd__law_dice ct__law_dice : Value}
    {f__law_roll : Addr} {od__law_roll an__law_roll : Option Addr} {sl__law_roll : Array (Option Value)} {oc__law_roll kV__law_roll dc__law_roll pm__law_roll cd__law_roll ct__law_roll : Value}
    {f__law_told : Addr} {od__law_told an__law_told : Option Addr} {sl__law_told : Array (Option Value)} {oc__law_told kV__law_told dc__law_told pm__law_told cd__law_told ct__law_told : Value}
    {f_Desk___init__ : Addr} {od_Desk___init__ an_Desk___init__ : Option Addr} {sl_Desk___init__ : Array (Option Value)} {oc_Desk___init__ kV_Desk___init__ dc_Desk___init__ pm_Desk___init__ cd_Desk___init__ ct_Desk___init__ : Value}
    {f_Desk_take : Addr} {od_Desk_take an_Desk_take : Option Addr} {sl_Desk_take : Array (Option Value)} {oc_Desk_take kV_Desk_take dc_Desk_take pm_Desk_take cd_Desk_take ct_Desk_take : Value}
    {f_Table___init__ : Addr} {od_Table___init__ an_Table___init__ : Option Addr} {sl_Table___init__ : Array (Option Value)} {oc_Table___init__ kV_Table___init__ dc_Table___init__ pm_Table___init__ ct_Table___init__ : Value}
    {f_all_turns : Addr} {od_all_turns an_all_turns : Option Addr} {sl_all_turns : Array (Option Value)} {oc_all_turns kV_all_turns dc_all_turns pm_all_turns cd_all_turns ct_all_turns : Value}
    {f_check_turn : Addr} {od_check_turn an_check_turn : Option Addr} {sl_check_turn : Array (Option Value)} {oc_check_turn kV_check_turn dc_check_turn pm_check_turn cd_check_turn ct_check_turn : Value}
    {f_look_paper : Addr} {od_look_paper an_look_paper : Option Addr} {sl_look_paper : Array (Option Value)} {oc_look_paper kV_look_paper dc_look_paper pm_look_paper cd_look_paper ct_look_paper : Value}
    {f_of_rank : Addr} {od_of_rank an_of_rank : Option Addr} {sl_of_rank : Array (Option Value)} {oc_of_rank kV_of_rank dc_of_rank pm_of_rank cd_of_rank ct_of_rank : Value}
    {f_read : Addr} {od_read an_read : Option Addr} {sl_read : Array (Option Value)} {oc_read kV_read dc_read pm_read cd_read ct_read : Value}
    {f_Desk_note : Addr} {od_Desk_note an_Desk_note : Option Addr} {sl_Desk_note : Array (Option Value)} {oc_Desk_note kV_Desk_note dc_Desk_note pm_Desk_note cd_Desk_note ct_Desk_note : Value}
    {f_Table_few : Addr} {od_Table_few an_Table_few : Option Addr} {sl_Table_few : Array (Option Value)} {oc_Table_few kV_Table_few dc_Table_few pm_Table_few cd_Table_few ct_Table_few : Value}
    {f_is_turn : Addr} {od_is_turn an_is_turn : Option Addr} {sl_is_turn : Array (Option Value)} {oc_is_turn kV_is_turn dc_is_turn pm_is_turn ct_is_turn : Value}
    {f_after : Addr} {od_after an_after : Option Addr} {sl_after : Array (Option Value)} {oc_after kV_after dc_after pm_after cd_after ct_after : Value}
    {f_still : Addr} {od_still an_still : Option Addr} {sl_still : Array (Option Value)} {oc_still kV_still dc_still pm_still cd_still ct_still : Value}
    {tk_LETTERS : Tok}
    {tk_MOST : Tok}
    {tc_law tP_law : Addr} {te_law : Value} {td_law : Option Addr} {tv_law : Array Value} {tsl_law : Array (Option Value)}
    {tc_Table___init__ tP_Table___init__ : Addr} {te_Table___init__ : Value} {td_Table___init__ : Option Addr} {tv_Table___init__ : Array Value} {tsl_Table___init__ : Array (Option Value)}
    {tc_is_turn tP_is_turn : Addr} {te_is_turn : Value} {td_is_turn : Option Addr} {tv_is_turn : Array Value} {tsl_is_turn : Array (Option Value)}
    (a_BadDeed : PySem.W.nsIn K mainGlobals "BadDeed" = some (some (.ref c_BadDeed)))
    (x_BadDeed : PySem.W.excIn K c_BadDeed [.type "ValueError", .type "Exception", .type "BaseException", .type "object"] "ValueError.__new__" = true)
    (k_BadDeed : PySem.W.keepIn K (.ref c_BadDeed) = true)
    (s_BadDeed : PySem.W.subIn K (.ref c_BadDeed) (.type "BaseException") = some true)
    (t_BadDeed : PySem.W.typeIn K (.ref c_BadDeed) = some (.type "type"))
    (a_BadPaper : PySem.W.nsIn K mainGlobals "BadPaper" = some (some (.ref c_BadPaper)))
    (a_BadTable : PySem.W.nsIn K mainGlobals "BadTable" = some (some (.ref c_BadTable)))
    (x_BadTable : PySem.W.excIn K c_BadTable [.type "ValueError", .type "Exception", .type "BaseException", .type "object"] "ValueError.__new__" = true)
    (k_BadTable : PySem.W.keepIn K (.ref c_BadTable) = true)
    (s_BadTable : PySem.W.subIn K (.ref c_BadTable) (.type "BaseException") = some true)
    (t_BadTable : PySem.W.typeIn K (.ref c_BadTable) = some (.type "type"))
    (a_BadTurn : PySem.W.nsIn K mainGlobals "BadTurn" = some (some (.ref c_BadTurn)))
    (x_BadTurn : PySem.W.excIn K c_BadTurn [.type "ValueError", .type "Exception", .type "BaseException", .type "object"] "ValueError.__new__" = true)
    (k_BadTurn : PySem.W.keepIn K (.ref c_BadTurn) = true)
    (s_BadTurn : PySem.W.subIn K (.ref c_BadTurn) (.type "BaseException") = some true)
    (t_BadTurn : PySem.W.typeIn K (.ref c_BadTurn) = some (.type "type"))
    (a_BadWord : PySem.W.nsIn K mainGlobals "BadWord" = some (some (.ref c_BadWord)))
    (a_Desk : PySem.W.nsIn K mainGlobals "Desk" = some (some (.ref c_Desk)))
    (v1_Desk : PySem.W.plainGet K c_Desk Str.empty = true)
    (v2_Desk : PySem.W.hasDictIn K c_Desk = true)
    (v3_Desk : PySem.W.plainOver K c_Desk = true)
    (v4_Desk : PySem.W.findIn K (.ref c_Desk) "__setattr__" = some (some (.builtin "object.__setattr__")))
    (v5_Desk : PySem.W.makesIn K c_Desk = true)
    (v6_Desk : PySem.W.keepIn K (.ref c_Desk) = true)
    (v7_Desk_many : PySem.W.findIn K (.ref c_Desk) "many" = some none)
    (v7_Desk_row : PySem.W.findIn K (.ref c_Desk) "row" = some none)
    (v7_Desk_deeds : PySem.W.findIn K (.ref c_Desk) "deeds" = some none)
    (v7_Desk_undone : PySem.W.findIn K (.ref c_Desk) "undone" = some none)
    (a_GroupFault : PySem.W.nsIn K mainGlobals "GroupFault" = some (some (.ref c_GroupFault)))
    (a_NoWay : PySem.W.nsIn K mainGlobals "NoWay" = some (some (.ref c_NoWay)))
    (x_NoWay : PySem.W.excIn K c_NoWay [.type "ValueError", .type "Exception", .type "BaseException", .type "object"] "ValueError.__new__" = true)
    (k_NoWay : PySem.W.keepIn K (.ref c_NoWay) = true)
    (s_NoWay : PySem.W.subIn K (.ref c_NoWay) (.type "BaseException") = some true)
    (t_NoWay : PySem.W.typeIn K (.ref c_NoWay) = some (.type "type"))
    (a_Table : PySem.W.nsIn K mainGlobals "Table" = some (some (.ref c_Table)))
    (v1_Table : PySem.W.plainGet K c_Table Str.empty = true)
    (v2_Table : PySem.W.hasDictIn K c_Table = true)
    (v3_Table : PySem.W.plainOver K c_Table = true)
    (v4_Table : PySem.W.findIn K (.ref c_Table) "__setattr__" = some (some (.builtin "object.__setattr__")))
    (v5_Table : PySem.W.makesIn K c_Table = true)
    (v6_Table : PySem.W.keepIn K (.ref c_Table) = true)
    (v7_Table_many : PySem.W.findIn K (.ref c_Table) "many" = some none)
    (v7_Table_rows : PySem.W.findIn K (.ref c_Table) "rows" = some none)
    (v7_Table_one : PySem.W.findIn K (.ref c_Table) "one" = some none)
    (a_TooLarge : PySem.W.nsIn K mainGlobals "TooLarge" = some (some (.ref c_TooLarge)))
    (x_TooLarge : PySem.W.excIn K c_TooLarge [.type "ValueError", .type "Exception", .type "BaseException", .type "object"] "ValueError.__new__" = true)
    (k_TooLarge : PySem.W.keepIn K (.ref c_TooLarge) = true)
    (s_TooLarge : PySem.W.subIn K (.ref c_TooLarge) (.type "BaseException") = some true)
    (t_TooLarge : PySem.W.typeIn K (.ref c_TooLarge) = some (.type "type"))
    (z_super : PySem.W.nsIn K mainGlobals "super" = some none)
    (o1_BadPaper : oexB K c_BadPaper = true)
    (o2_BadPaper : xfB K c_BadPaper = true)
    (o3_BadPaper : PySem.W.findIn K (.ref c_BadPaper) "part" = some none)
    (o4_BadPaper : PySem.W.findIn K (.ref c_BadPaper) "__setattr__" = some (some (.builtin "object.__setattr__")))
    (o5_BadPaper : supB K c_BadPaper = true)
    (a_i_BadPaper : PySem.W.findIn K (.ref c_BadPaper) "__init__" = some (some (.ref fi_BadPaper)))
    (o7_BadPaper : PySem.W.typeIn K (.ref fi_BadPaper) = some (.type "function"))
    (o8_BadPaper : PySem.W.keepIn K (.ref c_BadPaper) = true)
    (o9_BadPaper : PySem.W.subIn K (.ref c_BadPaper) (.type "BaseException") = some true)
    (p1_BadPaper : PySem.W.typeIn K (.ref c_BadPaper) = some (.type "type"))
    (l_i_BadPaper : K.lookup fi_BadPaper = some ⟨oc_BadPaper, od_BadPaper, .func (PySem.W.ksFn "__init__" "BadPaper.__init__" (defArgs (clsS (topS 6) 0)) (bodyX "self" "part" "part" "bad paper" 0 ⟨19, 8, 19, 13⟩ ⟨19, 8, 19, 15⟩ ⟨19, 8, 19, 24⟩ ⟨19, 8, 19, 37⟩ ⟨19, 8, 19, 37⟩ ⟨19, 25, 19, 36⟩ ⟨20, 8, 20, 12⟩ ⟨20, 8, 20, 17⟩ ⟨20, 20, 20, 24⟩ ⟨20, 8, 20, 24⟩) (defScope (clsS (topS 6) 0)) .none kV_BadPaper dc_BadPaper pm_BadPaper an_BadPaper (.ref cda_BadPaper) ct_BadPaper cc_BadPaper), osl_BadPaper⟩)
    (p2_BadPaper : PySem.W.codeIn K (.ref cda_BadPaper) "BadPaper.__init__" = true)
    (l_c_BadPaper : K.lookup cda_BadPaper = some ⟨ccl_BadPaper, cdd_BadPaper, .fields vs_BadPaper, ccs_BadPaper⟩)
    (t2_BadPaper : vs_BadPaper[2]? = some (.str file_BadPaper tf_BadPaper))
    (p3_BadPaper : ((l.prog.main.file : Str) == file_BadPaper) = true)
    (p4_BadPaper : (l.prog.main.scope.names.lookup ("super" : Str)).isSome = false)
    (l_k_BadPaper : K.lookup cc_BadPaper = some ⟨cl_BadPaper, cld_BadPaper, .cell (some (.ref c_BadPaper)), csl_BadPaper⟩)
    (o1_BadWord : oexB K c_BadWord = true)
    (o2_BadWord : xfB K c_BadWord = true)
    (o3_BadWord : PySem.W.findIn K (.ref c_BadWord) "place" = some none)
    (o4_BadWord : PySem.W.findIn K (.ref c_BadWord) "__setattr__" = some (some (.builtin "object.__setattr__")))
    (o5_BadWord : supB K c_BadWord = true)
    (a_i_BadWord : PySem.W.findIn K (.ref c_BadWord) "__init__" = some (some (.ref fi_BadWord)))
    (o7_BadWord : PySem.W.typeIn K (.ref fi_BadWord) = some (.type "function"))
    (o8_BadWord : PySem.W.keepIn K (.ref c_BadWord) = true)
    (o9_BadWord : PySem.W.subIn K (.ref c_BadWord) (.type "BaseException") = some true)
    (p1_BadWord : PySem.W.typeIn K (.ref c_BadWord) = some (.type "type"))
    (l_i_BadWord : K.lookup fi_BadWord = some ⟨oc_BadWord, od_BadWord, .func (PySem.W.ksFn "__init__" "BadWord.__init__" (defArgs (clsS (topS 5) 0)) (bodyX "self" "place" "place" "bad word" 0 ⟨14, 8, 14, 13⟩ ⟨14, 8, 14, 15⟩ ⟨14, 8, 14, 24⟩ ⟨14, 8, 14, 36⟩ ⟨14, 8, 14, 36⟩ ⟨14, 25, 14, 35⟩ ⟨15, 8, 15, 12⟩ ⟨15, 8, 15, 18⟩ ⟨15, 21, 15, 26⟩ ⟨15, 8, 15, 26⟩) (defScope (clsS (topS 5) 0)) .none kV_BadWord dc_BadWord pm_BadWord an_BadWord (.ref cda_BadWord) ct_BadWord cc_BadWord), osl_BadWord⟩)
    (p2_BadWord : PySem.W.codeIn K (.ref cda_BadWord) "BadWord.__init__" = true)
    (l_c_BadWord : K.lookup cda_BadWord = some ⟨ccl_BadWord, cdd_BadWord, .fields vs_BadWord, ccs_BadWord⟩)
    (t2_BadWord : vs_BadWord[2]? = some (.str file_BadWord tf_BadWord))
    (p3_BadWord : ((l.prog.main.file : Str) == file_BadWord) = true)
    (p4_BadWord : (l.prog.main.scope.names.lookup ("super" : Str)).isSome = false)
    (l_k_BadWord : K.lookup cc_BadWord = some ⟨cl_BadWord, cld_BadWord, .cell (some (.ref c_BadWord)), csl_BadWord⟩)
    (a_law : PySem.W.nsIn K mainGlobals "law" = some (some (.ref f_law)))
    (l_law : K.lookup f_law = some ⟨oc_law, od_law, .func (PySem.W.fnOf "law" "law" (defArgs s_law) (defBody s_law) (defScope s_law) .none kV_law dc_law pm_law an_law (.ref tc_law) ct_law), sl_law⟩)
    (d_law : PySem.W.codeIn K (.ref tc_law) "law" = true)
    (k_law : PySem.W.keepIn K (.ref f_law) = true)
    (a__law_rounds : PySem.W.nsIn K mainGlobals "_law_rounds" = some (some (.ref f__law_rounds)))
    (l__law_rounds : K.lookup f__law_rounds = some ⟨oc__law_rounds, od__law_rounds, .func (PySem.W.fnOf "_law_rounds" "_law_rounds" (defArgs s__law_rounds) (defBody s__law_rounds) (defScope s__law_rounds) .none kV__law_rounds dc__law_rounds pm__law_rounds an__law_rounds (cd__law_rounds) ct__law_rounds), sl__law_rounds⟩)
    (d__law_rounds : PySem.W.codeIn K (cd__law_rounds) "_law_rounds" = true)
    (k__law_rounds : PySem.W.keepIn K (.ref f__law_rounds) = true)
    (a__law_dice : PySem.W.nsIn K mainGlobals "_law_dice" = some (some (.ref f__law_dice)))
    (l__law_dice : K.lookup f__law_dice = some ⟨oc__law_dice, od__law_dice, .func (PySem.W.fnOf "_law_dice" "_law_dice" (defArgs s__law_dice) (defBody s__law_dice) (defScope s__law_dice) .none kV__law_dice dc__law_dice pm__law_dice an__law_dice (cd__law_dice) ct__law_dice), sl__law_dice⟩)
    (d__law_dice : PySem.W.codeIn K (cd__law_dice) "_law_dice" = true)
    (k__law_dice : PySem.W.keepIn K (.ref f__law_dice) = true)
    (a__law_roll : PySem.W.nsIn K mainGlobals "_law_roll" = some (some (.ref f__law_roll)))
    (l__law_roll : K.lookup f__law_roll = some ⟨oc__law_roll, od__law_roll, .func (PySem.W.fnOf "_law_roll" "_law_roll" (defArgs s__law_roll) (defBody s__law_roll) (defScope s__law_roll) .none kV__law_roll dc__law_roll pm__law_roll an__law_roll (cd__law_roll) ct__law_roll), sl__law_roll⟩)
    (d__law_roll : PySem.W.codeIn K (cd__law_roll) "_law_roll" = true)
    (k__law_roll : PySem.W.keepIn K (.ref f__law_roll) = true)
    (a__law_told : PySem.W.nsIn K mainGlobals "_law_told" = some (some (.ref f__law_told)))
    (l__law_told : K.lookup f__law_told = some ⟨oc__law_told, od__law_told, .func (PySem.W.fnOf "_law_told" "_law_told" (defArgs s__law_told) (defBody s__law_told) (defScope s__law_told) .none kV__law_told dc__law_told pm__law_told an__law_told (cd__law_told) ct__law_told), sl__law_told⟩)
    (d__law_told : PySem.W.codeIn K (cd__law_told) "_law_told" = true)
    (k__law_told : PySem.W.keepIn K (.ref f__law_told) = true)
    (a_Desk___init__ : PySem.W.findIn K (.ref c_Desk) "__init__" = some (some (.ref f_Desk___init__)))
    (w_Desk___init__ : PySem.W.isFn K (.ref f_Desk___init__) = true)
    (l_Desk___init__ : K.lookup f_Desk___init__ = some ⟨oc_Desk___init__, od_Desk___init__, .func (PySem.W.fnOf "__init__" "Desk.__init__" (defArgs s_Desk___init__) (defBody s_Desk___init__) (defScope s_Desk___init__) .none kV_Desk___init__ dc_Desk___init__ pm_Desk___init__ an_Desk___init__ (cd_Desk___init__) ct_Desk___init__), sl_Desk___init__⟩)
    (d_Desk___init__ : PySem.W.codeIn K (cd_Desk___init__) "Desk.__init__" = true)
    (k_Desk___init__ : PySem.W.keepIn K (.ref f_Desk___init__) = true)
    (a_Desk_take : PySem.W.findIn K (.ref c_Desk) "take" = some (some (.ref f_Desk_take)))
    (w_Desk_take : PySem.W.isFn K (.ref f_Desk_take) = true)
    (l_Desk_take : K.lookup f_Desk_take = some ⟨oc_Desk_take, od_Desk_take, .func (PySem.W.fnOf "take" "Desk.take" (defArgs s_Desk_take) (defBody s_Desk_take) (defScope s_Desk_take) .none kV_Desk_take dc_Desk_take pm_Desk_take an_Desk_take (cd_Desk_take) ct_Desk_take), sl_Desk_take⟩)
    (d_Desk_take : PySem.W.codeIn K (cd_Desk_take) "Desk.take" = true)
    (k_Desk_take : PySem.W.keepIn K (.ref f_Desk_take) = true)
    (a_Table___init__ : PySem.W.findIn K (.ref c_Table) "__init__" = some (some (.ref f_Table___init__)))
    (w_Table___init__ : PySem.W.isFn K (.ref f_Table___init__) = true)
    (l_Table___init__ : K.lookup f_Table___init__ = some ⟨oc_Table___init__, od_Table___init__, .func (PySem.W.fnOf "__init__" "Table.__init__" (defArgs s_Table___init__) (defBody s_Table___init__) (defScope s_Table___init__) .none kV_Table___init__ dc_Table___init__ pm_Table___init__ an_Table___init__ (.ref tc_Table___init__) ct_Table___init__), sl_Table___init__⟩)
    (d_Table___init__ : PySem.W.codeIn K (.ref tc_Table___init__) "Table.__init__" = true)
    (k_Table___init__ : PySem.W.keepIn K (.ref f_Table___init__) = true)
    (a_all_turns : PySem.W.nsIn K mainGlobals "all_turns" = some (some (.ref f_all_turns)))
    (l_all_turns : K.lookup f_all_turns = some ⟨oc_all_turns, od_all_turns, .func (PySem.W.fnOf "all_turns" "all_turns" (defArgs s_all_turns) (defBody s_all_turns) (defScope s_all_turns) .none kV_all_turns dc_all_turns pm_all_turns an_all_turns (cd_all_turns) ct_all_turns), sl_all_turns⟩)
    (d_all_turns : PySem.W.codeIn K (cd_all_turns) "all_turns" = true)
    (k_all_turns : PySem.W.keepIn K (.ref f_all_turns) = true)
    (a_check_turn : PySem.W.nsIn K mainGlobals "check_turn" = some (some (.ref f_check_turn)))
    (l_check_turn : K.lookup f_check_turn = some ⟨oc_check_turn, od_check_turn, .func (PySem.W.fnOf "check_turn" "check_turn" (defArgs s_check_turn) (defBody s_check_turn) (defScope s_check_turn) .none kV_check_turn dc_check_turn pm_check_turn an_check_turn (cd_check_turn) ct_check_turn), sl_check_turn⟩)
    (d_check_turn : PySem.W.codeIn K (cd_check_turn) "check_turn" = true)
    (k_check_turn : PySem.W.keepIn K (.ref f_check_turn) = true)
    (a_look_paper : PySem.W.nsIn K mainGlobals "look_paper" = some (some (.ref f_look_paper)))
    (l_look_paper : K.lookup f_look_paper = some ⟨oc_look_paper, od_look_paper, .func (PySem.W.fnOf "look_paper" "look_paper" (defArgs s_look_paper) (defBody s_look_paper) (defScope s_look_paper) .none kV_look_paper dc_look_paper pm_look_paper an_look_paper (cd_look_paper) ct_look_paper), sl_look_paper⟩)
    (d_look_paper : PySem.W.codeIn K (cd_look_paper) "look_paper" = true)
    (k_look_paper : PySem.W.keepIn K (.ref f_look_paper) = true)
    (a_of_rank : PySem.W.nsIn K mainGlobals "of_rank" = some (some (.ref f_of_rank)))
    (l_of_rank : K.lookup f_of_rank = some ⟨oc_of_rank, od_of_rank, .func (PySem.W.fnOf "of_rank" "of_rank" (defArgs s_of_rank) (defBody s_of_rank) (defScope s_of_rank) .none kV_of_rank dc_of_rank pm_of_rank an_of_rank (cd_of_rank) ct_of_rank), sl_of_rank⟩)
    (d_of_rank : PySem.W.codeIn K (cd_of_rank) "of_rank" = true)
    (k_of_rank : PySem.W.keepIn K (.ref f_of_rank) = true)
    (a_read : PySem.W.nsIn K mainGlobals "read" = some (some (.ref f_read)))
    (l_read : K.lookup f_read = some ⟨oc_read, od_read, .func (PySem.W.fnOf "read" "read" (defArgs s_read) (defBody s_read) (defScope s_read) .none kV_read dc_read pm_read an_read (cd_read) ct_read), sl_read⟩)
    (d_read : PySem.W.codeIn K (cd_read) "read" = true)
    (k_read : PySem.W.keepIn K (.ref f_read) = true)
    (a_Desk_note : PySem.W.findIn K (.ref c_Desk) "note" = some (some (.ref f_Desk_note)))
    (w_Desk_note : PySem.W.isFn K (.ref f_Desk_note) = true)
    (l_Desk_note : K.lookup f_Desk_note = some ⟨oc_Desk_note, od_Desk_note, .func (PySem.W.fnOf "note" "Desk.note" (defArgs s_Desk_note) (defBody s_Desk_note) (defScope s_Desk_note) .none kV_Desk_note dc_Desk_note pm_Desk_note an_Desk_note (cd_Desk_note) ct_Desk_note), sl_Desk_note⟩)
    (d_Desk_note : PySem.W.codeIn K (cd_Desk_note) "Desk.note" = true)
    (k_Desk_note : PySem.W.keepIn K (.ref f_Desk_note) = true)
    (a_Table_few : PySem.W.findIn K (.ref c_Table) "few" = some (some (.ref f_Table_few)))
    (w_Table_few : PySem.W.isFn K (.ref f_Table_few) = true)
    (l_Table_few : K.lookup f_Table_few = some ⟨oc_Table_few, od_Table_few, .func (PySem.W.fnOf "few" "Table.few" (defArgs s_Table_few) (defBody s_Table_few) (defScope s_Table_few) .none kV_Table_few dc_Table_few pm_Table_few an_Table_few (cd_Table_few) ct_Table_few), sl_Table_few⟩)
    (d_Table_few : PySem.W.codeIn K (cd_Table_few) "Table.few" = true)
    (k_Table_few : PySem.W.keepIn K (.ref f_Table_few) = true)
    (a_is_turn : PySem.W.nsIn K mainGlobals "is_turn" = some (some (.ref f_is_turn)))
    (l_is_turn : K.lookup f_is_turn = some ⟨oc_is_turn, od_is_turn, .func (PySem.W.fnOf "is_turn" "is_turn" (defArgs s_is_turn) (defBody s_is_turn) (defScope s_is_turn) .none kV_is_turn dc_is_turn pm_is_turn an_is_turn (.ref tc_is_turn) ct_is_turn), sl_is_turn⟩)
    (d_is_turn : PySem.W.codeIn K (.ref tc_is_turn) "is_turn" = true)
    (k_is_turn : PySem.W.keepIn K (.ref f_is_turn) = true)
    (a_after : PySem.W.nsIn K mainGlobals "after" = some (some (.ref f_after)))
    (l_after : K.lookup f_after = some ⟨oc_after, od_after, .func (PySem.W.fnOf "after" "after" (defArgs s_after) (defBody s_after) (defScope s_after) .none kV_after dc_after pm_after an_after (cd_after) ct_after), sl_after⟩)
    (d_after : PySem.W.codeIn K (cd_after) "after" = true)
    (k_after : PySem.W.keepIn K (.ref f_after) = true)
    (a_still : PySem.W.nsIn K mainGlobals "still" = some (some (.ref f_still)))
    (l_still : K.lookup f_still = some ⟨oc_still, od_still, .func (PySem.W.fnOf "still" "still" (defArgs s_still) (defBody s_still) (defScope s_still) .none kV_still dc_still pm_still an_still (cd_still) ct_still), sl_still⟩)
    (d_still : PySem.W.codeIn K (cd_still) "still" = true)
    (k_still : PySem.W.keepIn K (.ref f_still) = true)
    (a_LETTERS : PySem.W.nsIn K mainGlobals "LETTERS" = some (some (.str "abcdefgh" tk_LETTERS)))
    (a_MOST : PySem.W.nsIn K mainGlobals "MOST" = some (some (.int 60 tk_MOST)))
    (exg_BadTurn : PySem.W.findIn K (.ref c_BadTurn) "__getattribute__" = some (some (.builtin "BaseException.__getattribute__")))
    (exk_BadTurn : PySem.W.findIn K (.ref c_BadTurn) "__getattr__" = some none)
    (exs_BadTurn : PySem.W.subIn K (.ref c_BadTurn) (.type "BaseException") = some true)
    (exd_BadTurn : PySem.W.hasDictIn K c_BadTurn = true)
    (exa_BadTurn : PySem.W.findIn K (.ref c_BadTurn) "__class__" = some (some (.builtin "object.__class__")))
    (exm_BadTurn : PySem.W.mroIn K c_BadTurn (.type "object") = some true)
    (exx_BadTurn : PySem.W.exmOne K (.ref c_BadTurn) (.ref c_GroupFault) = some true)
    (exi_BadTurn_BadTurn : PySem.W.kitOne K (.ref c_BadTurn) (.ref c_BadTurn) = some true)
    (exi_BadTurn_BadTable : PySem.W.kitOne K (.ref c_BadTurn) (.ref c_BadTable) = some false)
    (exi_BadTurn_BadWord : PySem.W.kitOne K (.ref c_BadTurn) (.ref c_BadWord) = some false)
    (exi_BadTurn_BadPaper : PySem.W.kitOne K (.ref c_BadTurn) (.ref c_BadPaper) = some false)
    (exi_BadTurn_NoWay : PySem.W.kitOne K (.ref c_BadTurn) (.ref c_NoWay) = some false)
    (exi_BadTurn_TooLarge : PySem.W.kitOne K (.ref c_BadTurn) (.ref c_TooLarge) = some false)
    (exi_BadTurn_BadDeed : PySem.W.kitOne K (.ref c_BadTurn) (.ref c_BadDeed) = some false)
    (exi_BadTurn_V : PySem.W.kitOne K (.ref c_BadTurn) (.type "ValueError") = some true)
    (exg_BadTable : PySem.W.findIn K (.ref c_BadTable) "__getattribute__" = some (some (.builtin "BaseException.__getattribute__")))
    (exk_BadTable : PySem.W.findIn K (.ref c_BadTable) "__getattr__" = some none)
    (exs_BadTable : PySem.W.subIn K (.ref c_BadTable) (.type "BaseException") = some true)
    (exd_BadTable : PySem.W.hasDictIn K c_BadTable = true)
    (exa_BadTable : PySem.W.findIn K (.ref c_BadTable) "__class__" = some (some (.builtin "object.__class__")))
    (exm_BadTable : PySem.W.mroIn K c_BadTable (.type "object") = some true)
    (exx_BadTable : PySem.W.exmOne K (.ref c_BadTable) (.ref c_GroupFault) = some true)
    (exi_BadTable_BadTurn : PySem.W.kitOne K (.ref c_BadTable) (.ref c_BadTurn) = some false)
    (exi_BadTable_BadTable : PySem.W.kitOne K (.ref c_BadTable) (.ref c_BadTable) = some true)
    (exi_BadTable_BadWord : PySem.W.kitOne K (.ref c_BadTable) (.ref c_BadWord) = some false)
    (exi_BadTable_BadPaper : PySem.W.kitOne K (.ref c_BadTable) (.ref c_BadPaper) = some false)
    (exi_BadTable_NoWay : PySem.W.kitOne K (.ref c_BadTable) (.ref c_NoWay) = some false)
    (exi_BadTable_TooLarge : PySem.W.kitOne K (.ref c_BadTable) (.ref c_TooLarge) = some false)
    (exi_BadTable_BadDeed : PySem.W.kitOne K (.ref c_BadTable) (.ref c_BadDeed) = some false)
    (exi_BadTable_V : PySem.W.kitOne K (.ref c_BadTable) (.type "ValueError") = some true)
    (exg_BadWord : PySem.W.findIn K (.ref c_BadWord) "__getattribute__" = some (some (.builtin "BaseException.__getattribute__")))
    (exk_BadWord : PySem.W.findIn K (.ref c_BadWord) "__getattr__" = some none)
    (exs_BadWord : PySem.W.subIn K (.ref c_BadWord) (.type "BaseException") = some true)
    (exd_BadWord : PySem.W.hasDictIn K c_BadWord = true)
    (exa_BadWord : PySem.W.findIn K (.ref c_BadWord) "__class__" = some (some (.builtin "object.__class__")))
    (exm_BadWord : PySem.W.mroIn K c_BadWord (.type "object") = some true)
    (exx_BadWord : PySem.W.exmOne K (.ref c_BadWord) (.ref c_GroupFault) = some true)
    (exi_BadWord_BadTurn : PySem.W.kitOne K (.ref c_BadWord) (.ref c_BadTurn) = some false)
    (exi_BadWord_BadTable : PySem.W.kitOne K (.ref c_BadWord) (.ref c_BadTable) = some false)
    (exi_BadWord_BadWord : PySem.W.kitOne K (.ref c_BadWord) (.ref c_BadWord) = some true)
    (exi_BadWord_BadPaper : PySem.W.kitOne K (.ref c_BadWord) (.ref c_BadPaper) = some false)
    (exi_BadWord_NoWay : PySem.W.kitOne K (.ref c_BadWord) (.ref c_NoWay) = some false)
    (exi_BadWord_TooLarge : PySem.W.kitOne K (.ref c_BadWord) (.ref c_TooLarge) = some false)
    (exi_BadWord_BadDeed : PySem.W.kitOne K (.ref c_BadWord) (.ref c_BadDeed) = some false)
    (exi_BadWord_V : PySem.W.kitOne K (.ref c_BadWord) (.type "ValueError") = some true)
    (exg_BadPaper : PySem.W.findIn K (.ref c_BadPaper) "__getattribute__" = some (some (.builtin "BaseException.__getattribute__")))
    (exk_BadPaper : PySem.W.findIn K (.ref c_BadPaper) "__getattr__" = some none)
    (exs_BadPaper : PySem.W.subIn K (.ref c_BadPaper) (.type "BaseException") = some true)
    (exd_BadPaper : PySem.W.hasDictIn K c_BadPaper = true)
    (exa_BadPaper : PySem.W.findIn K (.ref c_BadPaper) "__class__" = some (some (.builtin "object.__class__")))
    (exm_BadPaper : PySem.W.mroIn K c_BadPaper (.type "object") = some true)
    (exx_BadPaper : PySem.W.exmOne K (.ref c_BadPaper) (.ref c_GroupFault) = some true)
    (exi_BadPaper_BadTurn : PySem.W.kitOne K (.ref c_BadPaper) (.ref c_BadTurn) = some false)
    (exi_BadPaper_BadTable : PySem.W.kitOne K (.ref c_BadPaper) (.ref c_BadTable) = some false)
    (exi_BadPaper_BadWord : PySem.W.kitOne K (.ref c_BadPaper) (.ref c_BadWord) = some false)
    (exi_BadPaper_BadPaper : PySem.W.kitOne K (.ref c_BadPaper) (.ref c_BadPaper) = some true)
    (exi_BadPaper_NoWay : PySem.W.kitOne K (.ref c_BadPaper) (.ref c_NoWay) = some false)
    (exi_BadPaper_TooLarge : PySem.W.kitOne K (.ref c_BadPaper) (.ref c_TooLarge) = some false)
    (exi_BadPaper_BadDeed : PySem.W.kitOne K (.ref c_BadPaper) (.ref c_BadDeed) = some false)
    (exi_BadPaper_V : PySem.W.kitOne K (.ref c_BadPaper) (.type "ValueError") = some true)
    (exg_NoWay : PySem.W.findIn K (.ref c_NoWay) "__getattribute__" = some (some (.builtin "BaseException.__getattribute__")))
    (exk_NoWay : PySem.W.findIn K (.ref c_NoWay) "__getattr__" = some none)
    (exs_NoWay : PySem.W.subIn K (.ref c_NoWay) (.type "BaseException") = some true)
    (exd_NoWay : PySem.W.hasDictIn K c_NoWay = true)
    (exa_NoWay : PySem.W.findIn K (.ref c_NoWay) "__class__" = some (some (.builtin "object.__class__")))
    (exm_NoWay : PySem.W.mroIn K c_NoWay (.type "object") = some true)
    (exx_NoWay : PySem.W.exmOne K (.ref c_NoWay) (.ref c_GroupFault) = some true)
    (exi_NoWay_BadTurn : PySem.W.kitOne K (.ref c_NoWay) (.ref c_BadTurn) = some false)
    (exi_NoWay_BadTable : PySem.W.kitOne K (.ref c_NoWay) (.ref c_BadTable) = some false)
    (exi_NoWay_BadWord : PySem.W.kitOne K (.ref c_NoWay) (.ref c_BadWord) = some false)
    (exi_NoWay_BadPaper : PySem.W.kitOne K (.ref c_NoWay) (.ref c_BadPaper) = some false)
    (exi_NoWay_NoWay : PySem.W.kitOne K (.ref c_NoWay) (.ref c_NoWay) = some true)
    (exi_NoWay_TooLarge : PySem.W.kitOne K (.ref c_NoWay) (.ref c_TooLarge) = some false)
    (exi_NoWay_BadDeed : PySem.W.kitOne K (.ref c_NoWay) (.ref c_BadDeed) = some false)
    (exi_NoWay_V : PySem.W.kitOne K (.ref c_NoWay) (.type "ValueError") = some true)
    (exg_TooLarge : PySem.W.findIn K (.ref c_TooLarge) "__getattribute__" = some (some (.builtin "BaseException.__getattribute__")))
    (exk_TooLarge : PySem.W.findIn K (.ref c_TooLarge) "__getattr__" = some none)
    (exs_TooLarge : PySem.W.subIn K (.ref c_TooLarge) (.type "BaseException") = some true)
    (exd_TooLarge : PySem.W.hasDictIn K c_TooLarge = true)
    (exa_TooLarge : PySem.W.findIn K (.ref c_TooLarge) "__class__" = some (some (.builtin "object.__class__")))
    (exm_TooLarge : PySem.W.mroIn K c_TooLarge (.type "object") = some true)
    (exx_TooLarge : PySem.W.exmOne K (.ref c_TooLarge) (.ref c_GroupFault) = some true)
    (exi_TooLarge_BadTurn : PySem.W.kitOne K (.ref c_TooLarge) (.ref c_BadTurn) = some false)
    (exi_TooLarge_BadTable : PySem.W.kitOne K (.ref c_TooLarge) (.ref c_BadTable) = some false)
    (exi_TooLarge_BadWord : PySem.W.kitOne K (.ref c_TooLarge) (.ref c_BadWord) = some false)
    (exi_TooLarge_BadPaper : PySem.W.kitOne K (.ref c_TooLarge) (.ref c_BadPaper) = some false)
    (exi_TooLarge_NoWay : PySem.W.kitOne K (.ref c_TooLarge) (.ref c_NoWay) = some false)
    (exi_TooLarge_TooLarge : PySem.W.kitOne K (.ref c_TooLarge) (.ref c_TooLarge) = some true)
    (exi_TooLarge_BadDeed : PySem.W.kitOne K (.ref c_TooLarge) (.ref c_BadDeed) = some false)
    (exi_TooLarge_V : PySem.W.kitOne K (.ref c_TooLarge) (.type "ValueError") = some true)
    (exg_BadDeed : PySem.W.findIn K (.ref c_BadDeed) "__getattribute__" = some (some (.builtin "BaseException.__getattribute__")))
    (exk_BadDeed : PySem.W.findIn K (.ref c_BadDeed) "__getattr__" = some none)
    (exs_BadDeed : PySem.W.subIn K (.ref c_BadDeed) (.type "BaseException") = some true)
    (exd_BadDeed : PySem.W.hasDictIn K c_BadDeed = true)
    (exa_BadDeed : PySem.W.findIn K (.ref c_BadDeed) "__class__" = some (some (.builtin "object.__class__")))
    (exm_BadDeed : PySem.W.mroIn K c_BadDeed (.type "object") = some true)
    (exx_BadDeed : PySem.W.exmOne K (.ref c_BadDeed) (.ref c_GroupFault) = some true)
    (exi_BadDeed_BadTurn : PySem.W.kitOne K (.ref c_BadDeed) (.ref c_BadTurn) = some false)
    (exi_BadDeed_BadTable : PySem.W.kitOne K (.ref c_BadDeed) (.ref c_BadTable) = some false)
    (exi_BadDeed_BadWord : PySem.W.kitOne K (.ref c_BadDeed) (.ref c_BadWord) = some false)
    (exi_BadDeed_BadPaper : PySem.W.kitOne K (.ref c_BadDeed) (.ref c_BadPaper) = some false)
    (exi_BadDeed_NoWay : PySem.W.kitOne K (.ref c_BadDeed) (.ref c_NoWay) = some false)
    (exi_BadDeed_TooLarge : PySem.W.kitOne K (.ref c_BadDeed) (.ref c_TooLarge) = some false)
    (exi_BadDeed_BadDeed : PySem.W.kitOne K (.ref c_BadDeed) (.ref c_BadDeed) = some true)
    (exi_BadDeed_V : PySem.W.kitOne K (.ref c_BadDeed) (.type "ValueError") = some true)
    (exn_all : PySem.W.specialIn K (.builtin "object.__class__") "__get__" = some (some (.builtin "getset_descriptor.__get__")))
    (ext_all : PySem.W.takesIn K (.builtin "object.__class__") = some true)
    (z_ValueError : PySem.W.nsIn K mainGlobals "ValueError" = some none)
    (z_abs : PySem.W.nsIn K mainGlobals "abs" = some none)
    (z_any : PySem.W.nsIn K mainGlobals "any" = some none)
    (z_enumerate : PySem.W.nsIn K mainGlobals "enumerate" = some none)
    (z_int : PySem.W.nsIn K mainGlobals "int" = some none)
    (z_isinstance : PySem.W.nsIn K mainGlobals "isinstance" = some none)
    (z_len : PySem.W.nsIn K mainGlobals "len" = some none)
    (z_list : PySem.W.nsIn K mainGlobals "list" = some none)
    (z_range : PySem.W.nsIn K mainGlobals "range" = some none)
    (z_reversed : PySem.W.nsIn K mainGlobals "reversed" = some none)
    (z_sorted : PySem.W.nsIn K mainGlobals "sorted" = some none)
    (z_tuple : PySem.W.nsIn K mainGlobals "tuple" = some none)
    (t1_law : K.lookup tc_law = some ⟨te_law, td_law, .fields tv_law, tsl_law⟩)
    (t2_law : tv_law[11]? = some (.ref tP_law))
    (t3_law : PySem.W.codeHdIn K tc_law tP_law = true)
    (t4_law : K.lookup tP_law = none)
    (r_law : h.get? tP_law = some { cls := .none, data := .fields #[] })
    (t1_Table___init__ : K.lookup tc_Table___init__ = some ⟨te_Table___init__, td_Table___init__, .fields tv_Table___init__, tsl_Table___init__⟩)
    (t2_Table___init__ : tv_Table___init__[11]? = some (.ref tP_Table___init__))
    (t3_Table___init__ : PySem.W.codeHdIn K tc_Table___init__ tP_Table___init__ = true)
    (t4_Table___init__ : K.lookup tP_Table___init__ = none)
    (r_Table___init__ : h.get? tP_Table___init__ = some { cls := .none, data := .fields #[] })
    (t1_is_turn : K.lookup tc_is_turn = some ⟨te_is_turn, td_is_turn, .fields tv_is_turn, tsl_is_turn⟩)
    (t2_is_turn : tv_is_turn[11]? = some (.ref tP_is_turn))
    (t3_is_turn : PySem.W.codeHdIn K tc_is_turn tP_is_turn = true)
    (t4_is_turn : K.lookup tP_is_turn = none)
    (r_is_turn : h.get? tP_is_turn = some { cls := .none, data := .fields #[] })
    (nd : ([tP_law, tP_Table___init__, tP_is_turn] : List Addr).Nodup) :
    LamX.LawAtS l w K (L2.CX l.prog w) 9 63 "script" mg fa h := by
  have e := hfa.symm.trans (PySem.W.mg_of X G a_law)
  cases e
  let hy : Hy l.prog K mg := { c_BadDeed := c_BadDeed, g_BadDeed := PySem.W.mg_of X G a_BadDeed, x_BadDeed := x_BadDeed, k_BadDeed := k_BadDeed, s_BadDeed := s_BadDeed, t_BadDeed := t_BadDeed, c_BadPaper := c_BadPaper, g_BadPaper := PySem.W.mg_of X G a_BadPaper, X_BadPaper := ownX_mk o1_BadPaper o2_BadPaper o3_BadPaper o4_BadPaper o5_BadPaper a_i_BadPaper o7_BadPaper o8_BadPaper o9_BadPaper p1_BadPaper l_i_BadPaper p2_BadPaper l_c_BadPaper t2_BadPaper p3_BadPaper p4_BadPaper l_k_BadPaper (PySem.W.mg_none_of X G z_super) (.all fun us hl => match us, hl with | [_, _], _ => rfl) ⟨rfl, rfl⟩ (by decide) ⟨rfl, rfl, rfl⟩ ⟨by decide +kernel, by decide +kernel, by decide +kernel, by decide +kernel⟩ (by decide +kernel) (by decide +kernel) ⟨by decide, by decide⟩, c_BadTable := c_BadTable, g_BadTable := PySem.W.mg_of X G a_BadTable, x_BadTable := x_BadTable, k_BadTable := k_BadTable, s_BadTable := s_BadTable, t_BadTable := t_BadTable, c_BadTurn := c_BadTurn, g_BadTurn := PySem.W.mg_of X G a_BadTurn, x_BadTurn := x_BadTurn, k_BadTurn := k_BadTurn, s_BadTurn := s_BadTurn, t_BadTurn := t_BadTurn, c_BadWord := c_BadWord, g_BadWord := PySem.W.mg_of X G a_BadWord, X_BadWord := ownX_mk o1_BadWord o2_BadWord o3_BadWord o4_BadWord o5_BadWord a_i_BadWord o7_BadWord o8_BadWord o9_BadWord p1_BadWord l_i_BadWord p2_BadWord l_c_BadWord t2_BadWord p3_BadWord p4_BadWord l_k_BadWord (PySem.W.mg_none_of X G z_super) (.all fun us hl => match us, hl with | [_, _], _ => rfl) ⟨rfl, rfl⟩ (by decide) ⟨rfl, rfl, rfl⟩ ⟨by decide +kernel, by decide +kernel, by decide +kernel, by decide +kernel⟩ (by decide +kernel) (by decide +kernel) ⟨by decide, by decide⟩, c_Desk := c_Desk, g_Desk := PySem.W.mg_of X G a_Desk, C_Desk := ⟨v1_Desk, v2_Desk, v3_Desk, v4_Desk⟩, A_Desk_many := v7_Desk_many, A_Desk_row := v7_Desk_row, A_Desk_deeds := v7_Desk_deeds, A_Desk_undone := v7_Desk_undone, c_GroupFault := c_GroupFault, g_GroupFault := PySem.W.mg_of X G a_GroupFault, c_NoWay := c_NoWay, g_NoWay := PySem.W.mg_of X G a_NoWay, x_NoWay := x_NoWay, k_NoWay := k_NoWay, s_NoWay := s_NoWay, t_NoWay := t_NoWay, c_Table := c_Table, g_Table := PySem.W.mg_of X G a_Table, C_Table := ⟨v1_Table, v2_Table, v3_Table, v4_Table⟩, A_Table_many := v7_Table_many, A_Table_rows := v7_Table_rows, A_Table_one := v7_Table_one, c_TooLarge := c_TooLarge, g_TooLarge := PySem.W.mg_of X G a_TooLarge, x_TooLarge := x_TooLarge, k_TooLarge := k_TooLarge, s_TooLarge := s_TooLarge, t_TooLarge := t_TooLarge, f__law_rounds := f__law_rounds, fd__law_rounds := _, F__law_rounds := fun_mk (st := s__law_rounds) l__law_rounds d__law_rounds k__law_rounds, b__law_rounds := (fun_mk (st := s__law_rounds) l__law_rounds d__law_rounds k__law_rounds).binds (ps := ["script", "most"]) fun _ _ _ _ _ _ us hl => (match us, hl with | [_, _], _ => rfl), m__law_rounds := PySem.W.mg_of X G a__law_rounds, f__law_dice := f__law_dice, fd__law_dice := _, F__law_dice := fun_mk (st := s__law_dice) l__law_dice d__law_dice k__law_dice, b__law_dice := (fun_mk (st := s__law_dice) l__law_dice d__law_dice k__law_dice).binds (ps := ["cell"]) fun _ _ _ _ _ _ us hl => (match us, hl with | [_], _ => rfl), m__law_dice := PySem.W.mg_of X G a__law_dice, f__law_roll := f__law_roll, fd__law_roll := _, F__law_roll := fun_mk (st := s__law_roll) l__law_roll d__law_roll k__law_roll, b__law_roll := (fun_mk (st := s__law_roll) l__law_roll d__law_roll k__law_roll).binds (ps := ["dice", "many"]) fun _ _ _ _ _ _ us hl => (match us, hl with | [_, _], _ => rfl), m__law_roll := PySem.W.mg_of X G a__law_roll, f__law_told := f__law_told, fd__law_told := _, F__law_told := fun_mk (st := s__law_told) l__law_told d__law_told k__law_told, b__law_told := (fun_mk (st := s__law_told) l__law_told d__law_told k__law_told).binds (ps := ["what"]) fun _ _ _ _ _ _ us hl => (match us, hl with | [_], _ => rfl), m__law_told := PySem.W.mg_of X G a__law_told, f_Desk___init__ := f_Desk___init__, fd_Desk___init__ := _, F_Desk___init__ := fun_mk (st := s_Desk___init__) l_Desk___init__ d_Desk___init__ k_Desk___init__, b_Desk___init__ := (fun_mk (st := s_Desk___init__) l_Desk___init__ d_Desk___init__ k_Desk___init__).binds (ps := ["self", "many"]) fun _ _ _ _ _ _ us hl => (match us, hl with | [_, _], _ => rfl), Mk_Desk := ⟨v5_Desk, a_Desk___init__, w_Desk___init__, v6_Desk⟩, f_Desk_take := f_Desk_take, fd_Desk_take := _, F_Desk_take := fun_mk (st := s_Desk_take) l_Desk_take d_Desk_take k_Desk_take, b_Desk_take := (fun_mk (st := s_Desk_take) l_Desk_take d_Desk_take k_Desk_take).binds (ps := ["self", "k"]) fun _ _ _ _ _ _ us hl => (match us, hl with | [_, _], _ => rfl), M_Desk_take := ⟨a_Desk_take, w_Desk_take, k_Desk_take⟩, f_Table___init__ := f_Table___init__, fd_Table___init__ := _, F_Table___init__ := fun_mk (st := s_Table___init__) l_Table___init__ d_Table___init__ k_Table___init__, b_Table___init__ := (fun_mk (st := s_Table___init__) l_Table___init__ d_Table___init__ k_Table___init__).binds (ps := ["self", "rows"]) fun _ _ _ _ _ _ us hl => (match us, hl with | [_, _], _ => rfl), Mk_Table := ⟨v5_Table, a_Table___init__, w_Table___init__, v6_Table⟩, f_all_turns := f_all_turns, fd_all_turns := _, F_all_turns := fun_mk (st := s_all_turns) l_all_turns d_all_turns k_all_turns, b_all_turns := (fun_mk (st := s_all_turns) l_all_turns d_all_turns k_all_turns).binds (ps := ["many"]) fun _ _ _ _ _ _ us hl => (match us, hl with | [_], _ => rfl), m_all_turns := PySem.W.mg_of X G a_all_turns, f_check_turn := f_check_turn, fd_check_turn := _, F_check_turn := fun_mk (st := s_check_turn) l_check_turn d_check_turn k_check_turn, b_check_turn := (fun_mk (st := s_check_turn) l_check_turn d_check_turn k_check_turn).binds (ps := ["thing", "many"]) fun _ _ _ _ _ _ us hl => (match us, hl with | [_, _], _ => rfl), m_check_turn := PySem.W.mg_of X G a_check_turn, f_look_paper := f_look_paper, fd_look_paper := _, F_look_paper := fun_mk (st := s_look_paper) l_look_paper d_look_paper k_look_paper, b_look_paper := (fun_mk (st := s_look_paper) l_look_paper d_look_paper k_look_paper).binds (ps := ["turn", "paper"]) fun _ _ _ _ _ _ us hl => (match us, hl with | [_, _], _ => rfl), m_look_paper := PySem.W.mg_of X G a_look_paper, f_of_rank := f_of_rank, fd_of_rank := _, F_of_rank := fun_mk (st := s_of_rank) l_of_rank d_of_rank k_of_rank, b_of_rank := (fun_mk (st := s_of_rank) l_of_rank d_of_rank k_of_rank).binds (ps := ["number", "many"]) fun _ _ _ _ _ _ us hl => (match us, hl with | [_, _], _ => rfl), m_of_rank := PySem.W.mg_of X G a_of_rank, f_read := f_read, fd_read := _, F_read := fun_mk (st := s_read) l_read d_read k_read, b_read := (fun_mk (st := s_read) l_read d_read k_read).binds (ps := ["text"]) fun _ _ _ _ _ _ us hl => (match us, hl with | [_], _ => rfl), m_read := PySem.W.mg_of X G a_read, f_Desk_note := f_Desk_note, fd_Desk_note := _, F_Desk_note := fun_mk (st := s_Desk_note) l_Desk_note d_Desk_note k_Desk_note, b_Desk_note := (fun_mk (st := s_Desk_note) l_Desk_note d_Desk_note k_Desk_note).binds (ps := ["self", "row"]) fun _ _ _ _ _ _ us hl => (match us, hl with | [_, _], _ => rfl), M_Desk_note := ⟨a_Desk_note, w_Desk_note, k_Desk_note⟩, f_Table_few := f_Table_few, fd_Table_few := _, F_Table_few := fun_mk (st := s_Table_few) l_Table_few d_Table_few k_Table_few, b_Table_few := (fun_mk (st := s_Table_few) l_Table_few d_Table_few k_Table_few).binds (ps := ["self"]) fun _ _ _ _ _ _ us hl => (match us, hl with | [_], _ => rfl), M_Table_few := ⟨a_Table_few, w_Table_few, k_Table_few⟩, f_is_turn := f_is_turn, fd_is_turn := _, F_is_turn := fun_mk (st := s_is_turn) l_is_turn d_is_turn k_is_turn, b_is_turn := (fun_mk (st := s_is_turn) l_is_turn d_is_turn k_is_turn).binds (ps := ["thing"]) fun _ _ _ _ _ _ us hl => (match us, hl with | [_], _ => rfl), m_is_turn := PySem.W.mg_of X G a_is_turn, f_after := f_after, fd_after := _, F_after := fun_mk (st := s_after) l_after d_after k_after, b_after := (fun_mk (st := s_after) l_after d_after k_after).binds (ps := ["one", "other"]) fun _ _ _ _ _ _ us hl => (match us, hl with | [_, _], _ => rfl), m_after := PySem.W.mg_of X G a_after, f_still := f_still, fd_still := _, F_still := fun_mk (st := s_still) l_still d_still k_still, b_still := (fun_mk (st := s_still) l_still d_still k_still).binds (ps := ["many"]) fun _ _ _ _ _ _ us hl => (match us, hl with | [_], _ => rfl), m_still := PySem.W.mg_of X G a_still, S_LETTERS := ⟨_, PySem.W.mg_of X G a_LETTERS⟩, K_MOST := ⟨_, PySem.W.mg_of X G a_MOST⟩, xc_BadTurn := ⟨exg_BadTurn, exk_BadTurn, exs_BadTurn, exd_BadTurn, exa_BadTurn, exn_all, ext_all, exm_BadTurn⟩, xg_BadTurn := exx_BadTurn, ki_BadTurn_BadTurn := exi_BadTurn_BadTurn, ki_BadTurn_BadTable := exi_BadTurn_BadTable, ki_BadTurn_BadWord := exi_BadTurn_BadWord, ki_BadTurn_BadPaper := exi_BadTurn_BadPaper, ki_BadTurn_NoWay := exi_BadTurn_NoWay, ki_BadTurn_TooLarge := exi_BadTurn_TooLarge, ki_BadTurn_BadDeed := exi_BadTurn_BadDeed, ki_BadTurn_V := exi_BadTurn_V, xc_BadTable := ⟨exg_BadTable, exk_BadTable, exs_BadTable, exd_BadTable, exa_BadTable, exn_all, ext_all, exm_BadTable⟩, xg_BadTable := exx_BadTable, ki_BadTable_BadTurn := exi_BadTable_BadTurn, ki_BadTable_BadTable := exi_BadTable_BadTable, ki_BadTable_BadWord := exi_BadTable_BadWord, ki_BadTable_BadPaper := exi_BadTable_BadPaper, ki_BadTable_NoWay := exi_BadTable_NoWay, ki_BadTable_TooLarge := exi_BadTable_TooLarge, ki_BadTable_BadDeed := exi_BadTable_BadDeed, ki_BadTable_V := exi_BadTable_V, xc_BadWord := ⟨exg_BadWord, exk_BadWord, exs_BadWord, exd_BadWord, exa_BadWord, exn_all, ext_all, exm_BadWord⟩, xg_BadWord := exx_BadWord, ki_BadWord_BadTurn := exi_BadWord_BadTurn, ki_BadWord_BadTable := exi_BadWord_BadTable, ki_BadWord_BadWord := exi_BadWord_BadWord, ki_BadWord_BadPaper := exi_BadWord_BadPaper, ki_BadWord_NoWay := exi_BadWord_NoWay, ki_BadWord_TooLarge := exi_BadWord_TooLarge, ki_BadWord_BadDeed := exi_BadWord_BadDeed, ki_BadWord_V := exi_BadWord_V, xc_BadPaper := ⟨exg_BadPaper, exk_BadPaper, exs_BadPaper, exd_BadPaper, exa_BadPaper, exn_all, ext_all, exm_BadPaper⟩, xg_BadPaper := exx_BadPaper, ki_BadPaper_BadTurn := exi_BadPaper_BadTurn, ki_BadPaper_BadTable := exi_BadPaper_BadTable, ki_BadPaper_BadWord := exi_BadPaper_BadWord, ki_BadPaper_BadPaper := exi_BadPaper_BadPaper, ki_BadPaper_NoWay := exi_BadPaper_NoWay, ki_BadPaper_TooLarge := exi_BadPaper_TooLarge, ki_BadPaper_BadDeed := exi_BadPaper_BadDeed, ki_BadPaper_V := exi_BadPaper_V, xc_NoWay := ⟨exg_NoWay, exk_NoWay, exs_NoWay, exd_NoWay, exa_NoWay, exn_all, ext_all, exm_NoWay⟩, xg_NoWay := exx_NoWay, ki_NoWay_BadTurn := exi_NoWay_BadTurn, ki_NoWay_BadTable := exi_NoWay_BadTable, ki_NoWay_BadWord := exi_NoWay_BadWord, ki_NoWay_BadPaper := exi_NoWay_BadPaper, ki_NoWay_NoWay := exi_NoWay_NoWay, ki_NoWay_TooLarge := exi_NoWay_TooLarge, ki_NoWay_BadDeed := exi_NoWay_BadDeed, ki_NoWay_V := exi_NoWay_V, xc_TooLarge := ⟨exg_TooLarge, exk_TooLarge, exs_TooLarge, exd_TooLarge, exa_TooLarge, exn_all, ext_all, exm_TooLarge⟩, xg_TooLarge := exx_TooLarge, ki_TooLarge_BadTurn := exi_TooLarge_BadTurn, ki_TooLarge_BadTable := exi_TooLarge_BadTable, ki_TooLarge_BadWord := exi_TooLarge_BadWord, ki_TooLarge_BadPaper := exi_TooLarge_BadPaper, ki_TooLarge_NoWay := exi_TooLarge_NoWay, ki_TooLarge_TooLarge := exi_TooLarge_TooLarge, ki_TooLarge_BadDeed := exi_TooLarge_BadDeed, ki_TooLarge_V := exi_TooLarge_V, xc_BadDeed := ⟨exg_BadDeed, exk_BadDeed, exs_BadDeed, exd_BadDeed, exa_BadDeed, exn_all, ext_all, exm_BadDeed⟩, xg_BadDeed := exx_BadDeed, ki_BadDeed_BadTurn := exi_BadDeed_BadTurn, ki_BadDeed_BadTable := exi_BadDeed_BadTable, ki_BadDeed_BadWord := exi_BadDeed_BadWord, ki_BadDeed_BadPaper := exi_BadDeed_BadPaper, ki_BadDeed_NoWay := exi_BadDeed_NoWay, ki_BadDeed_TooLarge := exi_BadDeed_TooLarge, ki_BadDeed_BadDeed := exi_BadDeed_BadDeed, ki_BadDeed_V := exi_BadDeed_V, z_ValueError := PySem.W.mg_none_of X G z_ValueError, z_abs := PySem.W.mg_none_of X G z_abs, z_any := PySem.W.mg_none_of X G z_any, z_enumerate := PySem.W.mg_none_of X G z_enumerate, z_int := PySem.W.mg_none_of X G z_int, z_isinstance := PySem.W.mg_none_of X G z_isinstance, z_len := PySem.W.mg_none_of X G z_len, z_list := PySem.W.mg_none_of X G z_list, z_range := PySem.W.mg_none_of X G z_range, z_reversed := PySem.W.mg_none_of X G z_reversed, z_sorted := PySem.W.mg_none_of X G z_sorted, z_tuple := PySem.W.mg_none_of X G z_tuple, tc_law := tc_law, tP_law := tP_law, tc_Table___init__ := tc_Table___init__, tP_Table___init__ := tP_Table___init__, cd_Table___init__ := rfl, tc_is_turn := tc_is_turn, tP_is_turn := tP_is_turn, cd_is_turn := rfl, nd := nd }
  exact ⟨_, [(tc_law, tP_law), (tc_Table___init__, tP_Table___init__), (tc_is_turn, tP_is_turn)], spLaw K (nm hy), (List.forall_mem_cons.mpr ⟨r_law, List.forall_mem_cons.mpr ⟨r_Table___init__, List.forall_mem_cons.mpr ⟨r_is_turn, fun _ h => nomatch h⟩⟩⟩), (List.forall_mem_cons.mpr ⟨t4_law, List.forall_mem_cons.mpr ⟨t4_Table___init__, List.forall_mem_cons.mpr ⟨t4_is_turn, fun _ h => nomatch h⟩⟩⟩), (List.forall_mem_cons.mpr ⟨(PySem.W.codeHd_of_K X t3_law), List.forall_mem_cons.mpr ⟨(PySem.W.codeHd_of_K X t3_Table___init__), List.forall_mem_cons.mpr ⟨(PySem.W.codeHd_of_K X t3_is_turn), fun _ h => nomatch h⟩⟩⟩), fun s v => .of_eq rfl, fun H a ns _ _ hT hS => ⟨a, ns, rfl, hS, (List.forall_mem_cons.mpr ⟨(TabP.nil (hT _ List.mem_cons_self)), List.forall_mem_cons.mpr ⟨(TabP.nil (hT _ (List.mem_cons_of_mem _ List.mem_cons_self))), List.forall_mem_cons.mpr ⟨(TabP.nil (hT _ (List.mem_cons_of_mem _ (List.mem_cons_of_mem _ List.mem_cons_self)))), fun _ h => nomatch h⟩⟩⟩), fun _ => rfl⟩, fun base _ _ TB => g_law hy ⟨trivial, TB _ List.mem_cons_self, TB _ (List.mem_cons_of_mem _ List.mem_cons_self), TB _ (List.mem_cons_of_mem _ (List.mem_cons_of_mem _ List.mem_cons_self))⟩ l_law d_law⟩
end L43
open PySem PySem.W PyProof.Rows
set_option maxHeartbeats 0 in
theorem PySem.Challenge.cw_grouphall_k43_refusals_apart_holds : PySem.Challenge.rw_grouphall_k43_refusals_apart.Holds := by
  w_on; o_law; x_head; (case hw => w_witness2)
  k_fill
  refine LamX.walk_ofTsE (l := PySem.Challenge.rw_grouphall_k43_refusals_apart) (n := 63) (k := 9) (x := "script") (CX := fun w => L2.CX PySem.Challenge.rw_grouphall_k43_refusals_apart.prog w) rfl (by decide) rfl ⟨rfl, by decide, by decide⟩ ?F (fun _ _ _ _ _ z => by obtain ⟨_, _, _, _, _, _, _, _, _, _, _, _, z⟩ := z; exact z)
  case F =>
    intro w mg fa h Y G hmg
    have KX := DL.nt_in (PySem.W.kIn_of Y) (by kernel_rfl)
    refine ⟨_, KX, ?_⟩
    refine' L43.all_mk KX G hmg ?a_BadDeed ?x_BadDeed ?k_BadDeed ?s_BadDeed ?t_BadDeed ?a_BadPaper ?a_BadTable ?x_BadTable ?k_BadTable ?s_BadTable ?t_BadTable ?a_BadTurn ?x_BadTurn ?k_BadTurn ?s_BadTurn ?t_BadTurn ?a_BadWord ?a_Desk ?v1_Desk ?v2_Desk ?v3_Desk ?v4_Desk ?v5_Desk ?v6_Desk ?v7_Desk_many ?v7_Desk_row ?v7_Desk_deeds ?v7_Desk_undone ?a_GroupFault ?a_NoWay ?x_NoWay ?k_NoWay ?s_NoWay ?t_NoWay ?a_Table ?v1_Table ?v2_Table ?v3_Table ?v4_Table ?v5_Table ?v6_Table ?v7_Table_many ?v7_Table_rows ?v7_Table_one ?a_TooLarge ?x_TooLarge ?k_TooLarge ?s_TooLarge ?t_TooLarge ?z_super ?o1_BadPaper ?o2_BadPaper ?o3_BadPaper ?o4_BadPaper ?o5_BadPaper ?a_i_BadPaper ?o7_BadPaper ?o8_BadPaper ?o9_BadPaper ?p1_BadPaper ?l_i_BadPaper ?p2_BadPaper ?l_c_BadPaper ?t2_BadPaper ?p3_BadPaper ?p4_BadPaper ?l_k_BadPaper ?o1_BadWord ?o2_BadWord ?o3_BadWord ?o4_BadWord ?o5_BadWord ?a_i_BadWord ?o7_BadWord ?o8_BadWord ?o9_BadWord ?p1_BadWord ?l_i_BadWord ?p2_BadWord ?l_c_BadWord ?t2_BadWord ?p3_BadWord ?p4_BadWord ?l_k_BadWord ?a_law ?l_law ?d_law ?k_law ?a__law_rounds ?l__law_rounds ?d__law_rounds ?k__law_rounds ?a__law_dice ?l__law_dice ?d__law_dice ?k__law_dice ?a__law_roll ?l__law_roll ?d__law_roll ?k__law_roll ?a__law_told ?l__law_told ?d__law_told ?k__law_told ?a_Desk___init__ ?w_Desk___init__ ?l_Desk___init__ ?d_Desk___init__ ?k_Desk___init__ ?a_Desk_take ?w_Desk_take ?l_Desk_take ?d_Desk_take ?k_Desk_take ?a_Table___init__ ?w_Table___init__ ?l_Table___init__ ?d_Table___init__ ?k_Table___init__ ?a_all_turns ?l_all_turns ?d_all_turns ?k_all_turns ?a_check_turn ?l_check_turn ?d_check_turn ?k_check_turn ?a_look_paper ?l_look_paper ?d_look_paper ?k_look_paper ?a_of_rank ?l_of_rank ?d_of_rank ?k_of_rank ?a_read ?l_read ?d_read ?k_read ?a_Desk_note ?w_Desk_note ?l_Desk_note ?d_Desk_note ?k_Desk_note ?a_Table_few ?w_Table_few ?l_Table_few ?d_Table_few ?k_Table_few ?a_is_turn ?l_is_turn ?d_is_turn ?k_is_turn ?a_after ?l_after ?d_after ?k_after ?a_still ?l_still ?d_still ?k_still ?a_LETTERS ?a_MOST ?exg_BadTurn ?exk_BadTurn ?exs_BadTurn ?exd_BadTurn ?exa_BadTurn ?exm_BadTurn ?exx_BadTurn ?exi_BadTurn_BadTurn ?exi_BadTurn_BadTable ?exi_BadTurn_BadWord ?exi_BadTurn_BadPaper ?exi_BadTurn_NoWay ?exi_BadTurn_TooLarge ?exi_BadTurn_BadDeed ?exi_BadTurn_V ?exg_BadTable ?exk_BadTable ?exs_BadTable ?exd_BadTable ?exa_BadTable ?exm_BadTable ?exx_BadTable ?exi_BadTable_BadTurn ?exi_BadTable_BadTable ?exi_BadTable_BadWord ?exi_BadTable_BadPaper ?exi_BadTable_NoWay ?exi_BadTable_TooLarge ?exi_BadTable_BadDeed ?exi_BadTable_V ?exg_BadWord ?exk_BadWord ?exs_BadWord ?exd_BadWord ?exa_BadWord ?exm_BadWord ?exx_BadWord ?exi_BadWord_BadTurn ?exi_BadWord_BadTable ?exi_BadWord_BadWord ?exi_BadWord_BadPaper ?exi_BadWord_NoWay ?exi_BadWord_TooLarge ?exi_BadWord_BadDeed ?exi_BadWord_V ?exg_BadPaper ?exk_BadPaper ?exs_BadPaper ?exd_BadPaper ?exa_BadPaper ?exm_BadPaper ?exx_BadPaper ?exi_BadPaper_BadTurn ?exi_BadPaper_BadTable ?exi_BadPaper_BadWord ?exi_BadPaper_BadPaper ?exi_BadPaper_NoWay ?exi_BadPaper_TooLarge ?exi_BadPaper_BadDeed ?exi_BadPaper_V ?exg_NoWay ?exk_NoWay ?exs_NoWay ?exd_NoWay ?exa_NoWay ?exm_NoWay ?exx_NoWay ?exi_NoWay_BadTurn ?exi_NoWay_BadTable ?exi_NoWay_BadWord ?exi_NoWay_BadPaper ?exi_NoWay_NoWay ?exi_NoWay_TooLarge ?exi_NoWay_BadDeed ?exi_NoWay_V ?exg_TooLarge ?exk_TooLarge ?exs_TooLarge ?exd_TooLarge ?exa_TooLarge ?exm_TooLarge ?exx_TooLarge ?exi_TooLarge_BadTurn ?exi_TooLarge_BadTable ?exi_TooLarge_BadWord ?exi_TooLarge_BadPaper ?exi_TooLarge_NoWay ?exi_TooLarge_TooLarge ?exi_TooLarge_BadDeed ?exi_TooLarge_V ?exg_BadDeed ?exk_BadDeed ?exs_BadDeed ?exd_BadDeed ?exa_BadDeed ?exm_BadDeed ?exx_BadDeed ?exi_BadDeed_BadTurn ?exi_BadDeed_BadTable ?exi_BadDeed_BadWord ?exi_BadDeed_BadPaper ?exi_BadDeed_NoWay ?exi_BadDeed_TooLarge ?exi_BadDeed_BadDeed ?exi_BadDeed_V ?exn_all ?ext_all ?z_ValueError ?z_abs ?z_any ?z_enumerate ?z_int ?z_isinstance ?z_len ?z_list ?z_range ?z_reversed ?z_sorted ?z_tuple ?t1_law ?t2_law ?t3_law ?t4_law ?r_law ?t1_Table___init__ ?t2_Table___init__ ?t3_Table___init__ ?t4_Table___init__ ?r_Table___init__ ?t1_is_turn ?t2_is_turn ?t3_is_turn ?t4_is_turn ?r_is_turn ?nd
    (case a_BadDeed => first | (refine DL.nt_ns ?_ ?_; k_is; kernel_rfl) | (refine DL.nt_find ?_ ?_; k_is; kernel_rfl)); (case x_BadDeed => kernel_rfl); (case k_BadDeed => kernel_rfl); (case s_BadDeed => kernel_rfl); (case t_BadDeed => kernel_rfl); (case a_BadPaper => first | (refine DL.nt_ns ?_ ?_; k_is; kernel_rfl) | (refine DL.nt_find ?_ ?_; k_is; kernel_rfl)); (case a_BadTable => first | (refine DL.nt_ns ?_ ?_; k_is; kernel_rfl) | (refine DL.nt_find ?_ ?_; k_is; kernel_rfl)); (case x_BadTable => kernel_rfl); (case k_BadTable => kernel_rfl); (case s_BadTable => kernel_rfl); (case t_BadTable => kernel_rfl); (case a_BadTurn => first | (refine DL.nt_ns ?_ ?_; k_is; kernel_rfl) | (refine DL.nt_find ?_ ?_; k_is; kernel_rfl)); (case x_BadTurn => kernel_rfl); (case k_BadTurn => kernel_rfl); (case s_BadTurn => kernel_rfl); (case t_BadTurn => kernel_rfl); (case a_BadWord => first | (refine DL.nt_ns ?_ ?_; k_is; kernel_rfl) | (refine DL.nt_find ?_ ?_; k_is; kernel_rfl)); (case a_Desk => first | (refine DL.nt_ns ?_ ?_; k_is; kernel_rfl) | (refine DL.nt_find ?_ ?_; k_is; kernel_rfl)); (case v1_Desk => kernel_rfl); (case v2_Desk => kernel_rfl); (case v3_Desk => kernel_rfl); (case v4_Desk => kernel_rfl); (case v5_Desk => kernel_rfl); (case v6_Desk => kernel_rfl); (case v7_Desk_many => kernel_rfl); (case v7_Desk_row => kernel_rfl); (case v7_Desk_deeds => kernel_rfl); (case v7_Desk_undone => kernel_rfl); (case a_GroupFault => first | (refine DL.nt_ns ?_ ?_; k_is; kernel_rfl) | (refine DL.nt_find ?_ ?_; k_is; kernel_rfl)); (case a_NoWay => first | (refine DL.nt_ns ?_ ?_; k_is; kernel_rfl) | (refine DL.nt_find ?_ ?_; k_is; kernel_rfl)); (case x_NoWay => kernel_rfl); (case k_NoWay => kernel_rfl); (case s_NoWay => kernel_rfl); (case t_NoWay => kernel_rfl); (case a_Table => first | (refine DL.nt_ns ?_ ?_; k_is; kernel_rfl) | (refine DL.nt_find ?_ ?_; k_is; kernel_rfl)); (case v1_Table => kernel_rfl); (case v2_Table => kernel_rfl); (case v3_Table => kernel_rfl); (case v4_Table => kernel_rfl); (case v5_Table => kernel_rfl); (case v6_Table => kernel_rfl); (case v7_Table_many => kernel_rfl); (case v7_Table_rows => kernel_rfl); (case v7_Table_one => kernel_rfl); (case a_TooLarge => first | (refine DL.nt_ns ?_ ?_; k_is; kernel_rfl) | (refine DL.nt_find ?_ ?_; k_is; kernel_rfl)); (case x_TooLarge => kernel_rfl); (case k_TooLarge => kernel_rfl); (case s_TooLarge => kernel_rfl); (case t_TooLarge => kernel_rfl); (case z_super => first | (refine DL.nt_ns ?_ ?_; k_is; kernel_rfl) | (refine DL.nt_find ?_ ?_; k_is; kernel_rfl)); (case o1_BadPaper => kernel_rfl); (case o2_BadPaper => kernel_rfl); (case o3_BadPaper => kernel_rfl); (case o4_BadPaper => kernel_rfl); (case o5_BadPaper => kernel_rfl); (case a_i_BadPaper => first | (refine DL.nt_ns ?_ ?_; k_is; kernel_rfl) | (refine DL.nt_find ?_ ?_; k_is; kernel_rfl)); (case o7_BadPaper => kernel_rfl); (case o8_BadPaper => kernel_rfl); (case o9_BadPaper => kernel_rfl); (case p1_BadPaper => kernel_rfl); (case l_i_BadPaper => refine DL.nt_lk ?_ ?_; k_is; kernel_rfl); (case p2_BadPaper => kernel_rfl); (case l_c_BadPaper => refine DL.nt_lk ?_ ?_; k_is; kernel_rfl); (case t2_BadPaper => exact rfl); (case p3_BadPaper => kernel_rfl); (case p4_BadPaper => kernel_rfl); (case l_k_BadPaper => refine DL.nt_lk ?_ ?_; k_is; kernel_rfl); (case o1_BadWord => kernel_rfl); (case o2_BadWord => kernel_rfl); (case o3_BadWord => kernel_rfl); (case o4_BadWord => kernel_rfl); (case o5_BadWord => kernel_rfl); (case a_i_BadWord => first | (refine DL.nt_ns ?_ ?_; k_is; kernel_rfl) | (refine DL.nt_find ?_ ?_; k_is; kernel_rfl)); (case o7_BadWord => kernel_rfl); (case o8_BadWord => kernel_rfl); (case o9_BadWord => kernel_rfl); (case p1_BadWord => kernel_rfl); (case l_i_BadWord => refine DL.nt_lk ?_ ?_; k_is; kernel_rfl); (case p2_BadWord => kernel_rfl); (case l_c_BadWord => refine DL.nt_lk ?_ ?_; k_is; kernel_rfl); (case t2_BadWord => exact rfl); (case p3_BadWord => kernel_rfl); (case p4_BadWord => kernel_rfl); (case l_k_BadWord => refine DL.nt_lk ?_ ?_; k_is; kernel_rfl); (case a_law => first | (refine DL.nt_ns ?_ ?_; k_is; kernel_rfl) | (refine DL.nt_find ?_ ?_; k_is; kernel_rfl)); (case l_law => refine DL.nt_lk ?_ ?_; k_is; kernel_rfl); (case d_law => kernel_rfl); (case k_law => kernel_rfl); (case a__law_rounds => first | (refine DL.nt_ns ?_ ?_; k_is; kernel_rfl) | (refine DL.nt_find ?_ ?_; k_is; kernel_rfl)); (case l__law_rounds => refine DL.nt_lk ?_ ?_; k_is; kernel_rfl); (case d__law_rounds => kernel_rfl); (case k__law_rounds => kernel_rfl); (case a__law_dice => first | (refine DL.nt_ns ?_ ?_; k_is; kernel_rfl) | (refine DL.nt_find ?_ ?_; k_is; kernel_rfl)); (case l__law_dice => refine DL.nt_lk ?_ ?_; k_is; kernel_rfl); (case d__law_dice => kernel_rfl); (case k__law_dice => kernel_rfl); (case a__law_roll => first | (refine DL.nt_ns ?_ ?_; k_is; kernel_rfl) | (refine DL.nt_find ?_ ?_; k_is; kernel_rfl)); (case l__law_roll => refine DL.nt_lk ?_ ?_; k_is; kernel_rfl); (case d__law_roll => kernel_rfl); (case k__law_roll => kernel_rfl); (case a__law_told => first | (refine DL.nt_ns ?_ ?_; k_is; kernel_rfl) | (refine DL.nt_find ?_ ?_; k_is; kernel_rfl)); (case l__law_told => refine DL.nt_lk ?_ ?_; k_is; kernel_rfl); (case d__law_told => kernel_rfl); (case k__law_told => kernel_rfl); (case a_Desk___init__ => first | (refine DL.nt_ns ?_ ?_; k_is; kernel_rfl) | (refine DL.nt_find ?_ ?_; k_is; kernel_rfl)); (case w_Desk___init__ => kernel_rfl); (case l_Desk___init__ => refine DL.nt_lk ?_ ?_; k_is; kernel_rfl); (case d_Desk___init__ => kernel_rfl); (case k_Desk___init__ => kernel_rfl); (case a_Desk_take => first | (refine DL.nt_ns ?_ ?_; k_is; kernel_rfl) | (refine DL.nt_find ?_ ?_; k_is; kernel_rfl)); (case w_Desk_take => kernel_rfl); (case l_Desk_take => refine DL.nt_lk ?_ ?_; k_is; kernel_rfl); (case d_Desk_take => kernel_rfl); (case k_Desk_take => kernel_rfl); (case a_Table___init__ => first | (refine DL.nt_ns ?_ ?_; k_is; kernel_rfl) | (refine DL.nt_find ?_ ?_; k_is; kernel_rfl)); (case w_Table___init__ => kernel_rfl); (case l_Table___init__ => refine DL.nt_lk ?_ ?_; k_is; kernel_rfl); (case d_Table___init__ => kernel_rfl); (case k_Table___init__ => kernel_rfl); (case a_all_turns => first | (refine DL.nt_ns ?_ ?_; k_is; kernel_rfl) | (refine DL.nt_find ?_ ?_; k_is; kernel_rfl)); (case l_all_turns => refine DL.nt_lk ?_ ?_; k_is; kernel_rfl); (case d_all_turns => kernel_rfl); (case k_all_turns => kernel_rfl); (case a_check_turn => first | (refine DL.nt_ns ?_ ?_; k_is; kernel_rfl) | (refine DL.nt_find ?_ ?_; k_is; kernel_rfl)); (case l_check_turn => refine DL.nt_lk ?_ ?_; k_is; kernel_rfl); (case d_check_turn => kernel_rfl); (case k_check_turn => kernel_rfl); (case a_look_paper => first | (refine DL.nt_ns ?_ ?_; k_is; kernel_rfl) | (refine DL.nt_find ?_ ?_; k_is; kernel_rfl)); (case l_look_paper => refine DL.nt_lk ?_ ?_; k_is; kernel_rfl); (case d_look_paper => kernel_rfl); (case k_look_paper => kernel_rfl); (case a_of_rank => first | (refine DL.nt_ns ?_ ?_; k_is; kernel_rfl) | (refine DL.nt_find ?_ ?_; k_is; kernel_rfl)); (case l_of_rank => refine DL.nt_lk ?_ ?_; k_is; kernel_rfl); (case d_of_rank => kernel_rfl); (case k_of_rank => kernel_rfl); (case a_read => first | (refine DL.nt_ns ?_ ?_; k_is; kernel_rfl) | (refine DL.nt_find ?_ ?_; k_is; kernel_rfl)); (case l_read => refine DL.nt_lk ?_ ?_; k_is; kernel_rfl); (case d_read => kernel_rfl); (case k_read => kernel_rfl); (case a_Desk_note => first | (refine DL.nt_ns ?_ ?_; k_is; kernel_rfl) | (refine DL.nt_find ?_ ?_; k_is; kernel_rfl)); (case w_Desk_note => kernel_rfl); (case l_Desk_note => refine DL.nt_lk ?_ ?_; k_is; kernel_rfl); (case d_Desk_note => kernel_rfl); (case k_Desk_note => kernel_rfl); (case a_Table_few => first | (refine DL.nt_ns ?_ ?_; k_is; kernel_rfl) | (refine DL.nt_find ?_ ?_; k_is; kernel_rfl)); (case w_Table_few => kernel_rfl); (case l_Table_few => refine DL.nt_lk ?_ ?_; k_is; kernel_rfl); (case d_Table_few => kernel_rfl); (case k_Table_few => kernel_rfl); (case a_is_turn => first | (refine DL.nt_ns ?_ ?_; k_is; kernel_rfl) | (refine DL.nt_find ?_ ?_; k_is; kernel_rfl)); (case l_is_turn => refine DL.nt_lk ?_ ?_; k_is; kernel_rfl); (case d_is_turn => kernel_rfl); (case k_is_turn => kernel_rfl); (case a_after => first | (refine DL.nt_ns ?_ ?_; k_is; kernel_rfl) | (refine DL.nt_find ?_ ?_; k_is; kernel_rfl)); (case l_after => refine DL.nt_lk ?_ ?_; k_is; kernel_rfl); (case d_after => kernel_rfl); (case k_after => kernel_rfl); (case a_still => first | (refine DL.nt_ns ?_ ?_; k_is; kernel_rfl) | (refine DL.nt_find ?_ ?_; k_is; kernel_rfl)); (case l_still => refine DL.nt_lk ?_ ?_; k_is; kernel_rfl); (case d_still => kernel_rfl); (case k_still => kernel_rfl); (case a_LETTERS => first | (refine DL.nt_ns ?_ ?_; k_is; kernel_rfl) | (refine DL.nt_find ?_ ?_; k_is; kernel_rfl)); (case a_MOST => first | (refine DL.nt_ns ?_ ?_; k_is; kernel_rfl) | (refine DL.nt_find ?_ ?_; k_is; kernel_rfl)); (case exg_BadTurn => kernel_rfl); (case exk_BadTurn => kernel_rfl); (case exs_BadTurn => kernel_rfl); (case exd_BadTurn => kernel_rfl); (case exa_BadTurn => kernel_rfl); (case exm_BadTurn => kernel_rfl); (case exx_BadTurn => kernel_rfl); (case exi_BadTurn_BadTurn => kernel_rfl); (case exi_BadTurn_BadTable => kernel_rfl); (case exi_BadTurn_BadWord => kernel_rfl); (case exi_BadTurn_BadPaper => kernel_rfl); (case exi_BadTurn_NoWay => kernel_rfl); (case exi_BadTurn_TooLarge => kernel_rfl); (case exi_BadTurn_BadDeed => kernel_rfl); (case exi_BadTurn_V => kernel_rfl); (case exg_BadTable => kernel_rfl); (case exk_BadTable => kernel_rfl); (case exs_BadTable => kernel_rfl); (case exd_BadTable => kernel_rfl); (case exa_BadTable => kernel_rfl); (case exm_BadTable => kernel_rfl); (case exx_BadTable => kernel_rfl); (case exi_BadTable_BadTurn => kernel_rfl); (case exi_BadTable_BadTable => kernel_rfl); (case exi_BadTable_BadWord => kernel_rfl); (case exi_BadTable_BadPaper => kernel_rfl); (case exi_BadTable_NoWay => kernel_rfl); (case exi_BadTable_TooLarge => kernel_rfl); (case exi_BadTable_BadDeed => kernel_rfl); (case exi_BadTable_V => kernel_rfl); (case exg_BadWord => kernel_rfl); (case exk_BadWord => kernel_rfl); (case exs_BadWord => kernel_rfl); (case exd_BadWord => kernel_rfl); (case exa_BadWord => kernel_rfl); (case exm_BadWord => kernel_rfl); (case exx_BadWord => kernel_rfl); (case exi_BadWord_BadTurn => kernel_rfl); (case exi_BadWord_BadTable => kernel_rfl); (case exi_BadWord_BadWord => kernel_rfl); (case exi_BadWord_BadPaper => kernel_rfl); (case exi_BadWord_NoWay => kernel_rfl); (case exi_BadWord_TooLarge => kernel_rfl); (case exi_BadWord_BadDeed => kernel_rfl); (case exi_BadWord_V => kernel_rfl); (case exg_BadPaper => kernel_rfl); (case exk_BadPaper => kernel_rfl); (case exs_BadPaper => kernel_rfl); (case exd_BadPaper => kernel_rfl); (case exa_BadPaper => kernel_rfl); (case exm_BadPaper => kernel_rfl); (case exx_BadPaper => kernel_rfl); (case exi_BadPaper_BadTurn => kernel_rfl); (case exi_BadPaper_BadTable => kernel_rfl); (case exi_BadPaper_BadWord => kernel_rfl); (case exi_BadPaper_BadPaper => kernel_rfl); (case exi_BadPaper_NoWay => kernel_rfl); (case exi_BadPaper_TooLarge => kernel_rfl); (case exi_BadPaper_BadDeed => kernel_rfl); (case exi_BadPaper_V => kernel_rfl); (case exg_NoWay => kernel_rfl); (case exk_NoWay => kernel_rfl); (case exs_NoWay => kernel_rfl); (case exd_NoWay => kernel_rfl); (case exa_NoWay => kernel_rfl); (case exm_NoWay => kernel_rfl); (case exx_NoWay => kernel_rfl); (case exi_NoWay_BadTurn => kernel_rfl); (case exi_NoWay_BadTable => kernel_rfl); (case exi_NoWay_BadWord => kernel_rfl); (case exi_NoWay_BadPaper => kernel_rfl); (case exi_NoWay_NoWay => kernel_rfl); (case exi_NoWay_TooLarge => kernel_rfl); (case exi_NoWay_BadDeed => kernel_rfl); (case exi_NoWay_V => kernel_rfl); (case exg_TooLarge => kernel_rfl); (case exk_TooLarge => kernel_rfl); (case exs_TooLarge => kernel_rfl); (case exd_TooLarge => kernel_rfl); (case exa_TooLarge => kernel_rfl); (case exm_TooLarge => kernel_rfl); (case exx_TooLarge => kernel_rfl); (case exi_TooLarge_BadTurn => kernel_rfl); (case exi_TooLarge_BadTable => kernel_rfl); (case exi_TooLarge_BadWord => kernel_rfl); (case exi_TooLarge_BadPaper => kernel_rfl); (case exi_TooLarge_NoWay => kernel_rfl); (case exi_TooLarge_TooLarge => kernel_rfl); (case exi_TooLarge_BadDeed => kernel_rfl); (case exi_TooLarge_V => kernel_rfl); (case exg_BadDeed => kernel_rfl); (case exk_BadDeed => kernel_rfl); (case exs_BadDeed => kernel_rfl); (case exd_BadDeed => kernel_rfl); (case exa_BadDeed => kernel_rfl); (case exm_BadDeed => kernel_rfl); (case exx_BadDeed => kernel_rfl); (case exi_BadDeed_BadTurn => kernel_rfl); (case exi_BadDeed_BadTable => kernel_rfl); (case exi_BadDeed_BadWord => kernel_rfl); (case exi_BadDeed_BadPaper => kernel_rfl); (case exi_BadDeed_NoWay => kernel_rfl); (case exi_BadDeed_TooLarge => kernel_rfl); (case exi_BadDeed_BadDeed => kernel_rfl); (case exi_BadDeed_V => kernel_rfl); (case exn_all => kernel_rfl); (case ext_all => kernel_rfl); (case z_ValueError => first | (refine DL.nt_ns ?_ ?_; k_is; kernel_rfl) | (refine DL.nt_find ?_ ?_; k_is; kernel_rfl)); (case z_abs => first | (refine DL.nt_ns ?_ ?_; k_is; kernel_rfl) | (refine DL.nt_find ?_ ?_; k_is; kernel_rfl)); (case z_any => first | (refine DL.nt_ns ?_ ?_; k_is; kernel_rfl) | (refine DL.nt_find ?_ ?_; k_is; kernel_rfl)); (case z_enumerate => first | (refine DL.nt_ns ?_ ?_; k_is; kernel_rfl) | (refine DL.nt_find ?_ ?_; k_is; kernel_rfl)); (case z_int => first | (refine DL.nt_ns ?_ ?_; k_is; kernel_rfl) | (refine DL.nt_find ?_ ?_; k_is; kernel_rfl)); (case z_isinstance => first | (refine DL.nt_ns ?_ ?_; k_is; kernel_rfl) | (refine DL.nt_find ?_ ?_; k_is; kernel_rfl)); (case z_len => first | (refine DL.nt_ns ?_ ?_; k_is; kernel_rfl) | (refine DL.nt_find ?_ ?_; k_is; kernel_rfl)); (case z_list => first | (refine DL.nt_ns ?_ ?_; k_is; kernel_rfl) | (refine DL.nt_find ?_ ?_; k_is; kernel_rfl)); (case z_range => first | (refine DL.nt_ns ?_ ?_; k_is; kernel_rfl) | (refine DL.nt_find ?_ ?_; k_is; kernel_rfl)); (case z_reversed => first | (refine DL.nt_ns ?_ ?_; k_is; kernel_rfl) | (refine DL.nt_find ?_ ?_; k_is; kernel_rfl)); (case z_sorted => first | (refine DL.nt_ns ?_ ?_; k_is; kernel_rfl) | (refine DL.nt_find ?_ ?_; k_is; kernel_rfl)); (case z_tuple => first | (refine DL.nt_ns ?_ ?_; k_is; kernel_rfl) | (refine DL.nt_find ?_ ?_; k_is; kernel_rfl)); (case t1_law => refine DL.nt_lk ?_ ?_; k_is; kernel_rfl); (case t2_law => exact rfl); (case t3_law => kernel_rfl); (case t4_law => kernel_rfl); (case r_law => refine DL.nt_tab (PySem.W.kIn_of Y) ?_; k_is); (case t1_Table___init__ => refine DL.nt_lk ?_ ?_; k_is; kernel_rfl); (case t2_Table___init__ => exact rfl); (case t3_Table___init__ => kernel_rfl); (case t4_Table___init__ => kernel_rfl); (case r_Table___init__ => refine DL.nt_tab (PySem.W.kIn_of Y) ?_; k_is); (case t1_is_turn => refine DL.nt_lk ?_ ?_; k_is; kernel_rfl); (case t2_is_turn => exact rfl); (case t3_is_turn => kernel_rfl); (case t4_is_turn => kernel_rfl); (case r_is_turn => refine DL.nt_tab (PySem.W.kIn_of Y) ?_; k_is); (case nd => decide)
