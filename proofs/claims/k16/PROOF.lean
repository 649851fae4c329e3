import PyProof.Rows.All
import Wide.All
import OpenK.AllK
import Wide.FinOn
import HandS.ForMost
import HandS.ForExc
import HandS.Walk
import HandS.TryMany
import HandS.Lambda
import PyProof.TupleKey
import PyProof.DictRoadsH
import HandS.TupAny
import HandS.TupMul
import HandS.Deep
import HandS.Rev
import HandS.Zip
import HandS.Conv
import HandS.Codes
import HandS.IsInst
import HandS.Small
import HandS.Flow
import HandS.NoneIn
import HandS.Style
import HandS.SortInts
import KE.KSortTup
import HandS.EndOwn
import PyProof.GenQ
import HandS.GenOver
import PyProof.ConsumeS
import HandS.TupLe
import HandS.WordsDict
import HandS.TupLen
import HandS.More
import HandS.DictComp
import PyProof.DictTable
import KE.GoesEnum
import KE.GoesZip
import KE.KDictSum
import KE.KIndexOf
import HandS.DictTup
import HandS.SetKeys
import PyProof.DictMoreH
import KE.KLam
import KE.SortKeyHeap
import PyProof.Rows.Tup
import PyProof.Rows.CallKwBuiltin
import HandS.Iter
import HandS.TupSets
import KE.KNestM
import OpenK.XHead
import HandS.HeadWalk
import HandS.SortKw
import HandS.Text
import KE.KTupSum
import KE.DataMinMax
import ObjForm.LawKit
import KE.KDictWalk
import KE.DataFind
import KE.Datum
import HandS.StrMore
import HandS.ExcInit
import HandS.ExcField
import HandS.ExcSuper
import KE.KExcSuper
import PySem.Challenge.RW_grouphall_k16_words_and_backs
set_option Elab.async false
set_option linter.all false
set_option maxRecDepth 100000
/-! rows of rows as keys of a dict -/
namespace DL
open PySem PySem.Spec PyProof.Rows L2
section
variable {prog : Program} {w : World} {K : Type} [DecidableEq K] (knd : KeyKind prog w K)
inductive RowsAre (h : Heap) : List (List K) → List Value → Prop
  | nil : RowsAre h [] []
  | cons {k : List K} {a : Addr} {ks : List (List K)} {vs : List Value} : IsTupleKey knd h k a → RowsAre h ks vs → RowsAre h (k :: ks) (.ref a :: vs)
def IsRowsKey (h : Heap) (ks : List (List K)) (a : Addr) : Prop := ∃ o items n, h.get? a = some o ∧ o.cls = .type "tuple" ∧ o.data = .seq items n ∧ RowsAre knd h ks items.toList
variable {knd}
theorem RowsAre.inj {h : Heap} {x y : List (List K)} {vs : List Value} (hx : RowsAre knd h x vs) (hy : RowsAre knd h y vs) : x = y := by
  induction hx generalizing y with
  | nil => cases hy; rfl
  | cons h1 _ ih =>
    cases hy with
    | cons h2 t2 => rw [h1.inj h2, ih t2]
theorem RowsAre.length {h : Heap} {x : List (List K)} {vs : List Value} (hx : RowsAre knd h x vs) : x.length = vs.length := by
  induction hx with
  | nil => rfl
  | cons _ _ ih => simp [ih]
theorem IsRowsKey.typeIs {s : Shared} {ks : List (List K)} {a : Addr} (x : IsRowsKey knd s.heap ks a) : s.TypeIs (.ref a) "tuple" := let ⟨o, _, _, ho, hc, _⟩ := x; ⟨o, ho, hc⟩
theorem IsRowsKey.inj {h : Heap} {a : Addr} {x y : List (List K)} (hx : IsRowsKey knd h x a) (hy : IsRowsKey knd h y a) : x = y := by
  obtain ⟨o, items, n, ho, _, hd, hi⟩ := hx
  obtain ⟨o', items', n', ho', _, hd', hi'⟩ := hy
  obtain rfl : o = o' := Option.some.inj (ho.symm.trans ho')
  rw [hd] at hd'
  injection hd' with h1 _
  subst h1
  exact hi.inj hi'
theorem RowsAre.keeps {h h' : Heap} {ks : List (List K)} {vs : List Value} {d : Addr} {o : Obj} {es ep} (x : RowsAre knd h ks vs) (ho : h.get? d = some o) (hd : o.data = .dict es ep) (hs : Heap.SameBut d h h') :
    RowsAre knd h' ks vs := by
  induction x with
  | nil => exact .nil
  | cons h1 _ ih => exact .cons (h1.keeps ho hd hs) ih
theorem IsRowsKey.keeps {h h' : Heap} {ks : List (List K)} {a d : Addr} {o : Obj} {es ep} (x : IsRowsKey knd h ks a) (ho : h.get? d = some o) (hd : o.data = .dict es ep) (hs : Heap.SameBut d h h') :
    IsRowsKey knd h' ks a := by
  obtain ⟨o', items, n, ho', hc, hd', hi⟩ := x
  have hne : a ≠ d := by
    rintro rfl
    obtain rfl : o' = o := Option.some.inj (ho'.symm.trans ho)
    rw [hd] at hd'; exact nomatch hd'
  exact ⟨o', items, n, (hs.2 a hne).trans ho', hc, hd', hi.keeps ho hd hs⟩
def rowsDraws : List (List K) → Nat
  | [] => 0
  | k :: ks => k.length + 1 + rowsDraws ks
theorem rowsDraws_snoc (k : List K) : ∀ ks : List (List K), rowsDraws (ks ++ [k]) = rowsDraws ks + (k.length + 1)
  | [] => by simp [rowsDraws]
  | x :: ks => by simp only [List.cons_append, rowsDraws, rowsDraws_snoc k ks]; omega
def rowsKeyHash (knd : KeyKind prog w K) (ks : List (List K)) : Int := reduceHash (Builtin.Tuple.tupleHashOf (ks.map (tupleKeyHash knd)))
variable {A : Around} {E : Value → Shared → Prop} {s : Shared}
theorem pyHash_rows {ks : List (List K)} {a : Addr} {Q : Int → Shared → Prop} (hu : A.units + 1 < cLine) (hk : IsRowsKey knd s.heap ks a) (h : Q (rowsKeyHash knd ks) { s with toks := s.toks + (rowsDraws ks + 1) }) :
    wpAny (model prog w) A (pyHash (.ref a)) Q E s := by
  have hT := hk.typeIs
  obtain ⟨o, items, n, ho, _, hd, hi⟩ := hk
  unfold pyHash
  first | unfold pyHashByItsType | skip
  first | refine wpAny_bind (wpAny_cRoomFor_or (.inr (by omega)) ?_) | skip
  refine wpAny_bind (wpAny_specialOf hT F.slot_tuple_hash.lookup ?_)
  show wpAny _ _ (if (some (Value.builtin "tuple.__hash__") == some Value.none) = true then _ else _) Q E s
  rw [if_neg (by rw [beq_builtin_none]; exact Bool.false_ne_true)]
  refine wpAny_bind (wpAny_specialOf hT F.slot_tuple_hash.lookup ?_)
  show wpAny _ _ (callSpecialIfBoundUnlessNone? (.ref a) "__hash__" _ >>= _) Q E s
  refine wpAny_bind (wpAny_callSpecialIfBoundUnlessNone?_slot hT F.slot_tuple_hash (wpAny_call_entry F.slot_tuple_hash hT F.entry_tuple_hash ?_ (F.args_tuple_hash_1 _)))
  show wpAny _ _ (Builtin.Tuple.tupleItemsOf (.ref a) >>= _) _ _ s
  refine wpAny_bind (wpAny_tupleItemsOf ho hd ?_)
  refine wpAny_bind ?_
  rw [← Array.forIn_toList]
  refine wpAny_forIn_list _
    (fun rest (b : Array Int) s' => ∃ done left, ks = done ++ left ∧ RowsAre knd s.heap left rest ∧ b.toList = done.map (tupleKeyHash knd) ∧ s' = { s with toks := s.toks + rowsDraws done })
    _ ?_ ?_ _ _ ⟨[], ks, rfl, hi, rfl, rfl⟩
  · rintro x rest b s' ⟨done, left, rfl, hl, hb, rfl⟩
    cases hl with
    | @cons k c ks' _ h1 hl' =>
      refine wpAny_bind (wpAny_pyHash_tuple (knd := knd) (ks := k) hu h1 ?_)
      first
        | exact wpAny_pure ⟨done ++ [k], ks', by simp, hl', by simp [hb], by simp [Nat.add_assoc, rowsDraws_snoc]⟩
        | exact wpAny_bind (wpAny_pure (wpAny_pure ⟨done ++ [k], ks', by simp, hl', by simp [hb], by simp [Nat.add_assoc, rowsDraws_snoc]⟩))
  · rintro b s' ⟨done, left, rfl, hl, hb, rfl⟩
    cases hl
    rw [List.append_nil] at h
    show wpAny _ _ (retInt (Builtin.Tuple.tupleHashOf b.toList)) _ _ _
    rw [hb]
    refine wpAny_ret_mkInt ?_
    show wpAny _ _ (if (decide (-(2 : Int) ^ 63 ≤ Builtin.Tuple.tupleHashOf (done.map (tupleKeyHash knd))) && decide (Builtin.Tuple.tupleHashOf (done.map (tupleKeyHash knd)) < 2 ^ 63)) = true then _ else _) Q E _
    unfold rowsKeyHash reduceHash at h
    by_cases hr : (decide (-(2 : Int) ^ 63 ≤ Builtin.Tuple.tupleHashOf (done.map (tupleKeyHash knd))) && decide (Builtin.Tuple.tupleHashOf (done.map (tupleKeyHash knd)) < 2 ^ 63)) = true
    · rw [if_pos hr]
      rw [if_pos hr] at h
      exact wpAny_pure (by simpa [Nat.add_assoc] using h)
    · rw [if_neg hr]
      rw [if_neg hr] at h
      exact wpAny_bind (wpAny_rule (wpAny_pure (by simpa [Nat.add_assoc] using h)))
theorem rows_eq_tree {x y : List (List K)} {a b : Addr} {P : Fin → Shared → Prop} (hu : A.units < cLine) (hx : IsRowsKey knd s.heap x a) (hy : IsRowsKey knd s.heap y b) (h : P (.done (.ret (.bool (decide (x = y))))) s) :
    wpAny (model prog w) A (Builtin.«tuple.__eq__» ⟨[.ref a, .ref b], []⟩) P E s := by
  have hTb := hy.typeIs
  obtain ⟨oa, xs, na, hoa, _, hda, hia⟩ := hx
  obtain ⟨ob, ys, nb, hob, _, hdb, hib⟩ := hy
  show wpAny _ _ (isInstance (.ref b) (.type "tuple") >>= _) _ _ s
  refine wpAny_bind (wpAny_isInstance hTb isSubtype_tuple_tuple ?_)
  simp only [Bool.not_true, Bool.false_eq_true, if_false]
  refine wpAny_bind (wpAny_tupleItemsOf hoa hda ?_)
  refine wpAny_bind (wpAny_tupleItemsOf hob hdb ?_)
  refine wpAny_bind ?_
  refine wpAny_forIn_list _
    (fun rest r s' => r.1 = none ∧ s' = s ∧ ∃ x' y' xs' ys', rest = List.zip xs' ys' ∧ RowsAre knd s.heap x' xs' ∧ RowsAre knd s.heap y' ys' ∧ decide (x' = y') = decide (x = y) ∧ (xs'.length == ys'.length) = (xs.size == ys.size))
    _ ?_ ?_ _ _ ⟨rfl, rfl, x, y, xs.toList, ys.toList, rfl, hia, hib, rfl, by simp⟩
  · rintro ⟨u, v⟩ rest r s' ⟨hr, rfl, x', y', xs', ys', hz, hx', hy', hdec, hlen⟩
    cases hx' with
    | nil => simp at hz
    | @cons k1 u' x'' xs'' h1 hx'' =>
      cases hy' with
      | nil => simp at hz
      | @cons k2 v' y'' ys'' h2 hy'' =>
        simp only [List.zip_cons_cons, List.cons.injEq, Prod.mk.injEq] at hz
        obtain ⟨⟨rfl, rfl⟩, rfl⟩ := hz
        refine wpAny_bind (wpAny_eqBool_tuple (knd := knd) (x := k1) (y := k2) hu h1 h2 ?_)
        by_cases hk : k1 = k2
        · subst hk
          rw [decide_eq_true rfl]
          simp only [Bool.not_true, Bool.false_eq_true, if_false]
          refine wpAny_pure ⟨rfl, rfl, x'', y'', xs'', ys'', rfl, hx'', hy'', ?_, by simpa using hlen⟩
          rw [← hdec]
          by_cases hxy : x'' = y''
          · simp [hxy]
          · simp [hxy]
        · rw [decide_eq_false hk]
          simp only [Bool.not_false, if_true]
          have hf : decide (x = y) = false := by rw [← hdec]; simp [hk]
          rw [hf] at h
          exact wpAny_bind (wpAny_pure (wpAny_pure (wpAny_pure h)))
  · rintro ⟨r1, r2⟩ s' ⟨hr, rfl, x', y', xs', ys', hz, hx', hy', hdec, hlen⟩
    simp only at hr
    subst hr
    refine wpAny_pure ?_
    have hfin : (xs.size == ys.size) = decide (x = y) := by
      rw [← hdec, ← hlen]
      cases hx' with
      | nil =>
        cases hy' with
        | nil => simp
        | cons _ _ => simp
      | cons _ _ =>
        cases hy' with
        | nil => simp
        | cons _ _ => simp at hz
    show P (.done (.ret (.bool (xs.size == ys.size)))) s'
    rw [hfin]; exact h
theorem eqBool_rows {x y : List (List K)} {a b : Addr} {Q : Bool → Shared → Prop} (hu : A.units + 1 < cLine) (hx : IsRowsKey knd s.heap x a) (hy : IsRowsKey knd s.heap y b) (h : Q (decide (x = y)) s) :
    wpAny (model prog w) A (eqBool (.ref a) (.ref b)) Q E s := by
  unfold eqBool
  try with_reducible refine wpAny_holding ?_
  show wpAny _ _ (if (Value.ref a == Value.ref b) = true then _ else _) Q E s
  by_cases hab : (Value.ref a == Value.ref b) = true
  · rw [if_pos hab]
    have e : a = b := by have := eq_of_beq hab; injection this
    subst e
    obtain rfl := hx.inj hy
    exact wpAny_bind (wpAny_rule (wpAny_pure (by simpa using h)))
  · rw [if_neg hab]
    exact wpAny_bind (wpAny_richCompare_same_room (op := .Eq) hx.typeIs hy.typeIs F.slot_tuple_eq
      (wpAny_call_entry F.slot_tuple_eq hx.typeIs F.entry_tuple_eq (rows_eq_tree hu hx hy ⟨_, rfl, (fun e => nomatch e), wpAny_truthy_bool h⟩) (F.args_tuple_eq_2 _ _)) (by omega))
theorem quiet_row {n : Nat} {ks : List K} {a : Addr} {Q : Bool → Shared → Prop} (hk : IsTupleKey knd s.heap ks a) (h : Q true s) : wpAny (model prog w) A (eqIsQuiet (n + 1) (.ref a)) Q E s := by
  have hT := hk.typeIs
  obtain ⟨o, items, n, ho, _, hd, hi⟩ := hk
  unfold eqIsQuiet
  refine wpAny_bind (wpAny_specialOf hT F.slot_tuple_eq.lookup ?_)
  show wpAny _ _ (isInstance (.ref a) (.type "tuple") >>= _) _ _ s
  refine wpAny_bind (wpAny_isInstance hT isSubtype_tuple_tuple ?_)
  simp only [Bool.not_true, Bool.false_eq_true, if_false]
  refine wpAny_bind (wpAny_seqItems ho hd ?_)
  refine wpAny_bind ?_
  show wpAny _ _ (forIn items _ _) _ _ s
  rw [← Array.forIn_toList]
  refine wpAny_forIn_list _ (fun rest r s' => r.1 = none ∧ s' = s ∧ ∀ v ∈ rest, carriedByValue v = true) _ ?_ ?_ _ _ ⟨rfl, rfl, hi.byValue⟩
  · rintro v rest r s' ⟨hr, rfl, hall⟩
    rw [eqIsQuiet_byValue _ (hall v List.mem_cons_self)]
    refine wpAny_bind (wpAny_pure ?_)
    simp only [Bool.not_true, Bool.false_eq_true, if_false]
    exact wpAny_pure ⟨rfl, rfl, fun u hu' => hall u (List.mem_cons_of_mem _ hu')⟩
  · rintro ⟨r1, r2⟩ s' ⟨hr, rfl, _⟩
    simp only at hr
    subst hr
    exact wpAny_pure h
theorem quiet_rows {ks : List (List K)} {a : Addr} {Q : Bool → Shared → Prop} (hk : IsRowsKey knd s.heap ks a) (h : Q true s) : wpAny (model prog w) A (eqIsQuiet 8 (.ref a)) Q E s := by
  have hT := hk.typeIs
  obtain ⟨o, items, n, ho, _, hd, hi⟩ := hk
  unfold eqIsQuiet
  refine wpAny_bind (wpAny_specialOf hT F.slot_tuple_eq.lookup ?_)
  show wpAny _ _ (isInstance (.ref a) (.type "tuple") >>= _) _ _ s
  refine wpAny_bind (wpAny_isInstance hT isSubtype_tuple_tuple ?_)
  simp only [Bool.not_true, Bool.false_eq_true, if_false]
  refine wpAny_bind (wpAny_seqItems ho hd ?_)
  refine wpAny_bind ?_
  show wpAny _ _ (forIn items _ _) _ _ s
  rw [← Array.forIn_toList]
  refine wpAny_forIn_list _ (fun rest r s' => r.1 = none ∧ s' = s ∧ ∃ ks', RowsAre knd s.heap ks' rest) _ ?_ ?_ _ _ ⟨rfl, rfl, ks, hi⟩
  · rintro v rest r s' ⟨hr, rfl, ks', hall⟩
    cases hall with
    | @cons k c ks'' _ h1 h2 =>
      refine wpAny_bind (quiet_row (knd := knd) (n := 6) h1 ?_)
      simp only [Bool.not_true, Bool.false_eq_true, if_false]
      exact wpAny_pure ⟨rfl, rfl, ks'', h2⟩
  · rintro ⟨r1, r2⟩ s' ⟨hr, rfl, _⟩
    simp only at hr
    subst hr
    exact wpAny_pure h
end
/-- rows of rows as keys -/
def rowsKind {prog : Program} {w : World} {K : Type} [DecidableEq K] (knd : KeyKind prog w K) : HeapKind prog w (List (List K)) where
  is := IsRowsKey knd
  hash := rowsKeyHash knd
  draws := fun ks => rowsDraws ks + 1
  room := fun A => A.units + 1 < cLine
  inj := fun hx hy => hx.inj hy
  keeps := fun x ho hd hs => x.keeps ho hd hs
  pyHash := fun hu hk h => pyHash_rows hu hk h
  eqBool := fun hu hx hy h => eqBool_rows hu hx hy h
  quiet := fun hk h => quiet_rows hk h
/-! ### the object of a dict whose keys are rows of rows of ints -/
abbrev RK := List (List Int)
def hashR (k : RK) : Int := reduceHash (Builtin.Tuple.tupleHashOf (k.map fun l => reduceHash (Builtin.Tuple.tupleHashOf (l.map hashInt))))
def entR (x : RK × Addr × Value) : DictEntry := ⟨hashR x.1, .ref x.2.1, x.2.2⟩
/-- the dict at a, by its entries -/
def dObj (a : Addr) (xs : List (RK × Addr × Value)) : HO := .ext fun h => ∃ o es ep, h.get? a = some o ∧ o.ExactDict ∧ o.data = .dict es ep ∧ es.toList = xs.map entR
theorem dObj_code {a : Addr} {xs : List (RK × Addr × Value)} {c : Addr} {q : Str} (h : dObj a xs = LamX.CodeO c q) : False := by
  unfold dObj LamX.CodeO at h
  injection h with h
  let ob : Obj := { cls := .type "dict", data := .dict (xs.map entR).toArray 0 }
  let hp : Heap := { objs := Array.replicate (a + 1) ob }
  have g : ∀ b o, hp.get? b = some o → o = ob := fun b o e => by
    unfold Heap.get? at e
    by_cases z : b < a + 1
    · have : hp.objs[b]? = some ob := by
        show (Array.replicate (a + 1) ob)[b]? = some ob
        rw [Array.getElem?_replicate, if_pos z]
      rw [this] at e
      exact (Option.some.inj e).symm
    · have : hp.objs[b]? = none := by
        show (Array.replicate (a + 1) ob)[b]? = none
        rw [Array.getElem?_replicate, if_neg z]
      rw [this] at e
      cases e
  have ga : hp.get? a = some ob := by
    unfold Heap.get?
    have : hp.objs[a]? = some ob := by
      show (Array.replicate (a + 1) ob)[a]? = some ob
      rw [Array.getElem?_replicate, if_pos (Nat.lt_succ_self a)]
    rw [this]
  obtain ⟨oc, vs, t, e1, e2, _⟩ := (congrFun h hp).mp ⟨ob, _, 0, ga, ⟨rfl, rfl, rfl⟩, rfl, rfl⟩
  rw [g c oc e1] at e2
  cases e2
def TupA (H : Hp) (b : Addr) (vs : List V) : Prop := H b = some (.tup vs)
def RowsV (H : Hp) : RK → List V → Prop
  | [], vs => vs = []
  | k :: ks, vs => ∃ c vs', vs = .ref c :: vs' ∧ TupA H c (k.map V.int) ∧ RowsV H ks vs'
/-- a tuple of tuples of ints at b -/
def RowsA (H : Hp) (b : Addr) (k : RK) : Prop := ∃ vs, TupA H b vs ∧ RowsV H k vs
section
variable {P : Program} {w : World} {H : Hp} {h : Heap} {b : Addr}
theorem TupA.obj {vs : List V} (ok : HOk P w H h) (e : TupA H b vs) : ∃ its : List Value, Vals vs its ∧ IsTup h b its.toArray := by
  obtain ⟨_, its, r, t⟩ := (show ObjOk P w H h b (.tup vs) from ok b _ e); exact ⟨its, r, t⟩
theorem ints_are {prog : Program} {w : World} : ∀ {k : List Int} {its : List Value}, Vals (k.map V.int) its → ItemsAre (intKind prog w) k its
  | [], its, h => by cases h; exact .nil
  | i :: k, its, h => by
    rw [List.map_cons] at h
    cases h with
    | cons h1 h2 =>
      obtain ⟨t, rfl⟩ := h1
      exact .cons (by show Value.isInt i (.int i t) = true; simp [Value.isInt]) (ints_are h2)
theorem TupA.key {k : List Int} (ok : HOk P w H h) (e : TupA H b (k.map V.int)) : IsTupleKey (intKind P w) h k b := by
  obtain ⟨its, r, o, h1, h2, n, h3⟩ := e.obj ok
  exact ⟨o, its.toArray, n, h1, h2, h3, by simpa using ints_are r⟩
theorem RowsV.are (ok : HOk P w H h) : ∀ {k : RK} {vs : List V} {its : List Value}, RowsV H k vs → Vals vs its → RowsAre (intKind P w) h k its
  | [], vs, its, e, r => by rw [RowsV] at e; subst e; cases r; exact .nil
  | k :: ks, vs, its, e, r => by
    rw [RowsV] at e
    obtain ⟨c, vs', rfl, h1, h2⟩ := e
    cases r with
    | cons r1 r2 => cases (show _ = Value.ref c from r1); exact .cons (h1.key ok) (RowsV.are ok h2 r2)
theorem RowsA.key {k : RK} (ok : HOk P w H h) (e : RowsA H b k) : (rowsKind (intKind P w)).is h k b := by
  obtain ⟨vs, e1, e2⟩ := e
  obtain ⟨its, r, o, h1, h2, n, h3⟩ := e1.obj ok
  exact ⟨o, its.toArray, n, h1, h2, h3, by simpa using e2.are ok r⟩
end
end DL

/-! values as trees, a small heap of cells, worlds -/
namespace DL
open PySem PySem.Spec L2

inductive D where
  | non | bl (b : Bool) | int (i : Int) | str (x : Str) | tup (l : List D) | ref (r : Nat) | ftup (l : List D)

/-- the keys of a dict of rows of rows -/
abbrev RK2 := List RK
/-- what stands in a cell: a list; a list that is read alone; three ints that nobody knows; a dict; an instance; a thing by its number -/
inductive Cell where
  | lst (l : List D) | frz (l : List D) | dice | dct (t : Bool) (kvs : List (D × D)) | ldc (t : Bool) (kvs : List (D × D)) | dcr (ks : RK2) | ins (c : Nat) (fs : List (Nat × D))

def Cell.mut : Cell → Bool
  | .frz _ => false
  | .ldc _ _ => false
  | _ => true

structure Hd where
  nx : Nat
  cs : List (Nat × Cell)

def look (r : Nat) : List (Nat × Cell) → Option Cell
  | [] => none
  | p :: t => match Nat.beq p.1 r with
    | true => some p.2
    | false => look r t
def Hd.get (η : Hd) (r : Nat) : Option Cell := look r η.cs
def put (r : Nat) (c : Cell) : List (Nat × Cell) → List (Nat × Cell)
  | [] => []
  | p :: t => match Nat.beq p.1 r with
    | true => (r, c) :: t
    | false => p :: put r c t
def Hd.set (η : Hd) (r : Nat) (c : Cell) : Hd := ⟨η.nx, put r c η.cs⟩
def Hd.new (η : Hd) (c : Cell) : Hd := ⟨Nat.succ η.nx, (η.nx, c) :: η.cs⟩

theorem look_put (r : Nat) (c : Cell) (q : Nat) : ∀ l : List (Nat × Cell), look q (put r c l) = if q = r then (look r l).map (fun _ => c) else look q l
  | [] => by simp [put, look]
  | p :: t => by
    have ih := look_put r c q t
    unfold put
    cases e : Nat.beq p.1 r with
    | true =>
      have e' : p.1 = r := Nat.eq_of_beq_eq_true e
      by_cases h : q = r
      · subst h
        have e2 : Nat.beq q q = true := Nat.beq_refl q
        simp [look, e, e2]
      · have e2 : Nat.beq r q = false := by
          cases z : Nat.beq r q with
          | false => rfl
          | true => exact absurd (Nat.eq_of_beq_eq_true z).symm h
        have e3 : Nat.beq p.1 q = false := by rw [e']; exact e2
        simp [look, e2, e3, h]
    | false =>
      by_cases h : q = r
      · subst h
        simp only [look, e, ih, if_true]
      · simp only [look, ih, if_neg h]
theorem Hd.get_set (η : Hd) (r : Nat) (c : Cell) (q : Nat) : (η.set r c).get q = if q = r then (η.get r).map (fun _ => c) else η.get q := look_put r c q η.cs
theorem Hd.get_new (η : Hd) (c : Cell) (q : Nat) : (η.new c).get q = if q = η.nx then some c else η.get q := by
  unfold Hd.get Hd.new
  by_cases h : q = η.nx
  · subst h
    have e2 : Nat.beq η.nx η.nx = true := Nat.beq_refl _
    simp [look, e2]
  · have e2 : Nat.beq η.nx q = false := by
      cases z : Nat.beq η.nx q with
      | false => rfl
      | true => exact absurd (Nat.eq_of_beq_eq_true z).symm h
    simp [look, e2, h]

/-! ### worlds -/
structure Wl where
  μ : Nat → Addr
  η : Hd
  H : Hp

section
variable (W : Wl)
mutual
def RelD : D → V → Prop
  | .non, v => v = .non
  | .bl b, v => v = .bl b
  | .int i, v => v = .int i
  | .str x, v => v = .str x
  | .ref r, v => r < W.η.nx ∧ v = .ref (W.μ r)
  | .tup ds, v => ∃ a vs, v = .ref a ∧ W.H a = some (.tup vs) ∧ RelDs ds vs
  | .ftup ds, v => ∃ a vs o, v = .ref a ∧ W.H a = some (.frz o (.tup vs)) ∧ o.dict = none ∧ RelDs ds vs
def RelDs : List D → List V → Prop
  | [], vs => vs = []
  | d :: ds, vs => ∃ v vs', vs = v :: vs' ∧ RelD d v ∧ RelDs ds vs'
end
end
section
variable {K : PySem.W.Frag} {W : Wl}
theorem RelDs.length : ∀ {ds : List D} {vs : List V}, RelDs W ds vs → ds.length = vs.length
  | [], _, h => by rw [RelDs] at h; subst h; rfl
  | d :: ds, _, h => by
    rw [RelDs] at h
    obtain ⟨v, vs', rfl, _, h2⟩ := h
    simp [RelDs.length h2]
theorem RelDs.nil : RelDs W [] [] := by rw [RelDs]
theorem RelDs.cons {d : D} {ds : List D} {v : V} {vs : List V} (h : RelD W d v) (h2 : RelDs W ds vs) : RelDs W (d :: ds) (v :: vs) := by
  rw [RelDs]; exact ⟨v, vs, rfl, h, h2⟩
theorem RelDs.get : ∀ {ds : List D} {vs : List V} {i : Nat} {v : V}, RelDs W ds vs → vs[i]? = some v → ∃ d, ds[i]? = some d ∧ RelD W d v
  | [], _, i, v, h, e => by rw [RelDs] at h; subst h; simp at e
  | d :: ds, _, 0, v, h, e => by
    rw [RelDs] at h
    obtain ⟨v', vs', rfl, h1, h2⟩ := h
    simp at e; subst e
    exact ⟨d, rfl, h1⟩
  | d :: ds, _, i + 1, v, h, e => by
    rw [RelDs] at h
    obtain ⟨v', vs', rfl, h1, h2⟩ := h
    simp at e
    obtain ⟨d', e', r⟩ := RelDs.get h2 e
    exact ⟨d', by simpa using e', r⟩
theorem RelDs.get' : ∀ {ds : List D} {vs : List V} {i : Nat} {d : D}, RelDs W ds vs → ds[i]? = some d → ∃ v, vs[i]? = some v ∧ RelD W d v
  | [], _, i, v, h, e => by simp at e
  | d :: ds, _, 0, v, h, e => by
    rw [RelDs] at h
    obtain ⟨v', vs', rfl, h1, h2⟩ := h
    simp at e; subst e
    exact ⟨v', rfl, h1⟩
  | d :: ds, _, i + 1, v, h, e => by
    rw [RelDs] at h
    obtain ⟨v', vs', rfl, h1, h2⟩ := h
    simp at e
    obtain ⟨d', e', r⟩ := RelDs.get' h2 e
    exact ⟨d', by simpa using e', r⟩
theorem RelDs.append : ∀ {ds ds' : List D} {vs vs' : List V}, RelDs W ds vs → RelDs W ds' vs' → RelDs W (ds ++ ds') (vs ++ vs')
  | [], _, _, _, h, h2 => by rw [RelDs] at h; subst h; exact h2
  | d :: ds, _, _, _, h, h2 => by
    rw [RelDs] at h
    obtain ⟨v', vs', rfl, h1, h3⟩ := h
    exact RelDs.cons h1 (RelDs.append h3 h2)
theorem RelDs.take : ∀ {ds : List D} {vs : List V} (n : Nat), RelDs W ds vs → RelDs W (ds.take n) (vs.take n)
  | [], _, n, h => by rw [RelDs] at h; subst h; simp; exact .nil
  | d :: ds, _, 0, h => by simp; exact .nil
  | d :: ds, _, n + 1, h => by
    rw [RelDs] at h
    obtain ⟨v', vs', rfl, h1, h3⟩ := h
    exact RelDs.cons h1 (RelDs.take n h3)
theorem RelDs.drop : ∀ {ds : List D} {vs : List V} (n : Nat), RelDs W ds vs → RelDs W (ds.drop n) (vs.drop n)
  | [], _, n, h => by rw [RelDs] at h; subst h; simp; exact .nil
  | d :: ds, _, 0, h => h
  | d :: ds, _, n + 1, h => by
    rw [RelDs] at h
    obtain ⟨v', vs', rfl, h1, h3⟩ := h
    exact RelDs.drop n h3
theorem RelDs.set {d : D} {v : V} (r : RelD W d v) : ∀ {ds : List D} {vs : List V} (n : Nat), RelDs W ds vs → RelDs W (ds.set n d) (vs.set n v)
  | [], _, n, h => by rw [RelDs] at h; subst h; exact .nil
  | d :: ds, _, 0, h => by
    rw [RelDs] at h
    obtain ⟨v', vs', rfl, h1, h3⟩ := h
    exact RelDs.cons r h3
  | d :: ds, _, n + 1, h => by
    rw [RelDs] at h
    obtain ⟨v', vs', rfl, h1, h3⟩ := h
    exact RelDs.cons h1 (RelDs.set r n h3)
theorem RelDs.reverse {ds : List D} {vs : List V} (h : RelDs W ds vs) : RelDs W ds.reverse vs.reverse := by
  induction ds generalizing vs with
  | nil => rw [RelDs] at h; subst h; exact .nil
  | cons d ds ih =>
    rw [RelDs] at h
    obtain ⟨v', vs', rfl, h1, h3⟩ := h
    simp only [List.reverse_cons]
    exact (ih h3).append (RelDs.cons h1 .nil)
end

/-- tables of code objects: where, the name of its lambdas, the places of its lambdas -/
abbrev Tbl := List (Addr × Str × (Nat → Nat → Bool))
/-- in the table at P each code object that stands at a lambda's place bears the name q -/
def TabP (H : Hp) (P : Addr) (q : Str) (lam : Nat → Nat → Bool) : Prop := ∃ es : Array Value, H P = some (.tbl es) ∧ TriplesOk es.toList ∧ ∀ at_ : Pos, lam at_.line at_.col = true → ∀ cv : Value, codeAmong at_ es.toList = some cv → ∃ c, cv = .ref c ∧ H c = some (LamX.CodeO c q)
def Tabs (T : Tbl) (H : Hp) : Prop := ∀ e ∈ T, TabP H e.1 e.2.1 e.2.2
theorem TabP.nil {H : Hp} {P : Addr} {q : Str} {lam : Nat → Nat → Bool} (h : H P = some (.tbl #[])) : TabP H P q lam := ⟨#[], h, True.intro, fun at_ _ cv hc => by
  simp [codeAmong] at hc⟩
/-- the names of attributes by number; the classes by number -/
structure Names where
  fld : Nat → Str
  cls : Nat → Addr
  /-- the tables of code objects -/
  tabs : Tbl

def RelFs (W : Wl) (N : Names) : List (Nat × D) → List (Str × V) → Prop
  | [], fs => fs = []
  | (k, d) :: r, fs => ∃ v fs', fs = (N.fld k, v) :: fs' ∧ RelD W d v ∧ RelFs W N r fs'

/-! keys -/
def D.key : D → Option Key
  | .int i => some (.inl i)
  | .str s => some (.inr s)
  | _ => none
def keysOf : List D → Option (List Key)
  | [] => some []
  | d :: ds => match D.key d, keysOf ds with
    | some k, some ks => some (k :: ks)
    | _, _ => none
def D.tkey : D → Option (List Key)
  | .tup ds => keysOf ds
  | _ => none
def RelK (W : Wl) : List (D × D) → List (Key × V) → Prop
  | [], ps => ps = []
  | (k, d) :: r, ps => ∃ k' v ps', ps = (k', v) :: ps' ∧ k.key = some k' ∧ RelD W d v ∧ RelK W r ps'
def RelT (W : Wl) : List (D × D) → List (List Key × V) → Prop
  | [], ps => ps = []
  | (k, d) :: r, ps => ∃ k' v ps', ps = (k', v) :: ps' ∧ k.tkey = some k' ∧ RelD W d v ∧ RelT W r ps'

/-- what the address of a cell holds -/
def RelC (K : PySem.W.Frag) (N : Names) (W : Wl) (a : Addr) : Cell → Prop
  | .lst ds => ∃ vs, W.H a = some (.lst vs) ∧ RelDs W ds vs ∧ ds.length ≤ sizeLine
  | .frz ds => ∃ vs, W.H a = some (.lst vs) ∧ RelDs W ds vs ∧ ds.length ≤ sizeLine
  | .dice => ∃ x y z, W.H a = some (.lst [.int x, .int y, .int z])
  | .dct false kvs => ∃ ps, W.H a = some (.dK ps) ∧ RelK W kvs ps ∧ kvs.length ≤ sizeLine
  | .dct true kvs => ∃ ps, W.H a = some (.dT ps) ∧ RelT W kvs ps ∧ kvs.length ≤ sizeLine
  | .ldc false kvs => ∃ ps o, W.H a = some (.frz o (.dK ps)) ∧ RelK W kvs ps ∧ kvs.length ≤ sizeLine
  | .ldc true kvs => ∃ ps o, W.H a = some (.frz o (.dT ps)) ∧ RelT W kvs ps ∧ kvs.length ≤ sizeLine
  | .dcr ks => ∃ xs, W.H a = some (dObj a xs) ∧ xs.map (·.1) = ks ∧ (∀ x ∈ xs, RowsA W.H x.2.1 x.1) ∧ ks.Nodup ∧ (a == sysModules) = false ∧ ks.length ≤ sizeLine
  | .ins c fs => ∃ dx gs, W.H a = some (.ins (N.cls c) dx gs) ∧ RelFs W N fs gs ∧ fs.length ≤ 900

structure Wl.Ok (K : PySem.W.Frag) (N : Names) (W : Wl) : Prop where
  lt : ∀ r c, W.η.get r = some c → r < W.η.nx
  cell : ∀ r c, W.η.get r = some c → RelC K N W (W.μ r) c
  inj : ∀ r s c d, W.η.get r = some c → W.η.get s = some d → W.μ r = W.μ s → r = s
  tab : Tabs N.tabs W.H

/-- no table of code objects -/
def noT (o : HO) : Prop := ∀ ps, o ≠ .tbl ps
/-- nothing stands there, or a table -/
def NoC (H : Hp) (a : Addr) : Prop := ∀ o, H a = some o → ¬ noT o
theorem NoC.of {H : Hp} {a : Addr} (h : H a = none) : NoC H a := fun o e => by rw [h] at e; cases e

/-- what a step may do -/
structure Ext (W W' : Wl) : Prop where
  nx : W.η.nx ≤ W'.η.nx
  mu : ∀ r, r < W.η.nx → W'.μ r = W.μ r
  fr : ∀ a o, W.H a = some o → noT o → (∀ r c, W.η.get r = some c → c.mut = true → W.μ r ≠ a) → W'.H a = some o
  th : ∀ a o, W.H a = some o → noT o → ∃ o', W'.H a = some o' ∧ noT o'
  cs : ∀ r c, W'.η.get r = some c → (∃ c0, W.η.get r = some c0 ∧ (c.mut = true → c0.mut = true)) ∨ (W.η.nx ≤ r ∧ NoC W.H (W'.μ r))

theorem Ext.refl (W : Wl) : Ext W W := ⟨Nat.le_refl _, fun _ _ => rfl, fun _ _ h _ _ => h, fun _ o h t => ⟨o, h, t⟩, fun _ c h => .inl ⟨c, h, id⟩⟩
section
variable {K : PySem.W.Frag} {N : Names} {W W1 W2 W' : Wl}
theorem Ext.trans (o : W.Ok K N) (o1 : W1.Ok K N) (a : Ext W W1) (b : Ext W1 W2) : Ext W W2 where
  nx := Nat.le_trans a.nx b.nx
  mu := fun r h => (b.mu r (Nat.lt_of_lt_of_le h a.nx)).trans (a.mu r h)
  fr := fun x ob h ht hn => by
    refine b.fr x ob (a.fr x ob h ht hn) ht fun r c e m => ?_
    rcases a.cs r c e with ⟨c0, e0, m0⟩ | ⟨_, f⟩
    · rw [a.mu r (o.lt r c0 e0)]; exact hn r c0 e0 (m0 m)
    · intro z; exact f ob (by rw [z]; exact h) ht
  th := fun x ob h ht => by obtain ⟨o', h', t'⟩ := a.th x ob h ht; exact b.th x o' h' t'
  cs := fun r c e => by
    rcases b.cs r c e with ⟨c1, e1, m1⟩ | ⟨h1, f⟩
    · rcases a.cs r c1 e1 with ⟨c0, e0, m0⟩ | ⟨h2, f⟩
      · exact .inl ⟨c0, e0, fun m => m0 (m1 m)⟩
      · exact .inr ⟨h2, by rw [b.mu r (o1.lt r c1 e1)]; exact f⟩
    · refine .inr ⟨Nat.le_trans a.nx h1, fun ob q t => ?_⟩
      obtain ⟨o', h', t'⟩ := a.th _ _ q t
      exact f o' h' t'
/-- no cell stands where a tuple, a locked thing stands -/
theorem Wl.Ok.nocell (o : W.Ok K N) {a : Addr} {u : HO} (h : W.H a = some u) (hu : (∃ xs, u = .tup xs) ∨ (∃ ob v, u = .frz ob v) ∨ (∃ x, u = .own x)) : ∀ r c, W.η.get r = some c → c.mut = true → W.μ r ≠ a := by
  intro r c e m z
  have q := o.cell r c e
  rw [z] at q
  cases c with
  | frz _ => cases m
  | ldc _ _ => cases m
  | dcr ks => obtain ⟨vs, q, _⟩ := q; rw [h] at q; cases q; rcases hu with ⟨_, z⟩ | ⟨_, _, z⟩ | ⟨_, z⟩ <;> cases z
  | lst l => obtain ⟨vs, q, _⟩ := q; rw [h] at q; cases q; rcases hu with ⟨_, z⟩ | ⟨_, _, z⟩ | ⟨_, z⟩ <;> cases z
  | dice => obtain ⟨_, _, _, q⟩ := q; rw [h] at q; cases q; rcases hu with ⟨_, z⟩ | ⟨_, _, z⟩ | ⟨_, z⟩ <;> cases z
  | dct t l =>
    cases t
    · obtain ⟨vs, q, _⟩ := q; rw [h] at q; cases q; rcases hu with ⟨_, z⟩ | ⟨_, _, z⟩ | ⟨_, z⟩ <;> cases z
    · obtain ⟨vs, q, _⟩ := q; rw [h] at q; cases q; rcases hu with ⟨_, z⟩ | ⟨_, _, z⟩ | ⟨_, z⟩ <;> cases z
  | ins c fs => obtain ⟨_, _, q, _⟩ := q; rw [h] at q; cases q; rcases hu with ⟨_, z⟩ | ⟨_, _, z⟩ | ⟨_, z⟩ <;> cases z
theorem Ext.sqT (o : W.Ok K N) (x : Ext W W') {a : Addr} {vs : List V} (h : W.H a = some (.tup vs)) : W'.H a = some (.tup vs) :=
  x.fr a _ h (fun _ z => nomatch z) (o.nocell h (.inl ⟨_, rfl⟩))
mutual
theorem RelD.mono (o : W.Ok K N) (x : Ext W W') : ∀ {d : D} {v : V}, RelD W d v → RelD W' d v
  | .non, v, h => by rw [RelD] at *; exact h
  | .bl b, v, h => by rw [RelD] at *; exact h
  | .int i, v, h => by rw [RelD] at *; exact h
  | .str s, v, h => by rw [RelD] at *; exact h
  | .ref r, v, h => by rw [RelD] at *; exact ⟨Nat.lt_of_lt_of_le h.1 x.nx, by rw [x.mu r h.1]; exact h.2⟩
  | .tup ds, v, h => by
    rw [RelD] at *
    obtain ⟨a, vs, e, h1, h2⟩ := h
    exact ⟨a, vs, e, x.sqT o h1, RelDs.mono o x h2⟩
  | .ftup ds, v, h => by
    rw [RelD] at *
    obtain ⟨a, vs, ob, e, h1, h3, h2⟩ := h
    exact ⟨a, vs, ob, e, x.fr a _ h1 (fun _ z => nomatch z) (o.nocell h1 (.inr (.inl ⟨_, _, rfl⟩))), h3, RelDs.mono o x h2⟩
theorem RelDs.mono (o : W.Ok K N) (x : Ext W W') : ∀ {ds : List D} {vs : List V}, RelDs W ds vs → RelDs W' ds vs
  | [], vs, h => by rw [RelDs] at *; exact h
  | d :: ds, vs, h => by
    rw [RelDs] at *
    obtain ⟨v, vs', e, h1, h2⟩ := h
    exact ⟨v, vs', e, RelD.mono o x h1, RelDs.mono o x h2⟩
end
theorem RelFs.mono (o : W.Ok K N) (x : Ext W W') : ∀ {fs : List (Nat × D)} {gs : List (Str × V)}, RelFs W N fs gs → RelFs W' N fs gs
  | [], vs, h => by rw [RelFs] at *; exact h
  | (k, d) :: ds, vs, h => by
    rw [RelFs] at *
    obtain ⟨v, vs', e, h1, h2⟩ := h
    exact ⟨v, vs', e, RelD.mono o x h1, RelFs.mono o x h2⟩
theorem RelK.mono (o : W.Ok K N) (x : Ext W W') : ∀ {fs : List (D × D)} {gs : List (Key × V)}, RelK W fs gs → RelK W' fs gs
  | [], vs, h => by rw [RelK] at *; exact h
  | (k, d) :: ds, vs, h => by
    rw [RelK] at *
    obtain ⟨k', v, vs', e, h0, h1, h2⟩ := h
    exact ⟨k', v, vs', e, h0, RelD.mono o x h1, RelK.mono o x h2⟩
theorem RelT.mono (o : W.Ok K N) (x : Ext W W') : ∀ {fs : List (D × D)} {gs : List (List Key × V)}, RelT W fs gs → RelT W' fs gs
  | [], vs, h => by rw [RelT] at *; exact h
  | (k, d) :: ds, vs, h => by
    rw [RelT] at *
    obtain ⟨k', v, vs', e, h0, h1, h2⟩ := h
    exact ⟨k', v, vs', e, h0, RelD.mono o x h1, RelT.mono o x h2⟩
theorem TupA.mono (o : W.Ok K N) (x : Ext W W') {a : Addr} {vs : List V} (h : TupA W.H a vs) : TupA W'.H a vs :=
  x.sqT o h
theorem RowsV.mono (o : W.Ok K N) (x : Ext W W') : ∀ {k : RK} {vs : List V}, RowsV W.H k vs → RowsV W'.H k vs
  | [], vs, h => by rw [RowsV] at *; exact h
  | k :: ks, vs, h => by
    rw [RowsV] at *
    obtain ⟨c, vs', e, h1, h2⟩ := h
    exact ⟨c, vs', e, h1.mono o x, RowsV.mono o x h2⟩
theorem RowsA.mono (o : W.Ok K N) (x : Ext W W') {a : Addr} {k : RK} (h : RowsA W.H a k) : RowsA W'.H a k := by
  obtain ⟨vs, h1, h2⟩ := h
  exact ⟨vs, h1.mono o x, h2.mono o x⟩
/-- a cell's relation where its address is as it was -/
theorem RelC.mono (o : W.Ok K N) (x : Ext W W') {a : Addr} {c : Cell} (h : RelC K N W a c) (e : ∀ ob, noT ob → W.H a = some ob → W'.H a = some ob) : RelC K N W' a c := by
  cases c with
  | lst l => obtain ⟨vs, h1, h2, h3⟩ := h; exact ⟨vs, e _ (fun _ z => nomatch z) h1, h2.mono o x, h3⟩
  | frz l => obtain ⟨vs, h1, h2, h3⟩ := h; exact ⟨vs, e _ (fun _ z => nomatch z) h1, h2.mono o x, h3⟩
  | dice => obtain ⟨p, q, r, h⟩ := h; exact ⟨p, q, r, e _ (fun _ z => nomatch z) h⟩
  | dct t l =>
    cases t
    · obtain ⟨vs, h1, h2, h3⟩ := h; exact ⟨vs, e _ (fun _ z => nomatch z) h1, h2.mono o x, h3⟩
    · obtain ⟨vs, h1, h2, h3⟩ := h; exact ⟨vs, e _ (fun _ z => nomatch z) h1, h2.mono o x, h3⟩
  | ldc t l =>
    cases t
    · obtain ⟨vs, ob, h1, h2, h3⟩ := h; exact ⟨vs, ob, e _ (fun _ z => nomatch z) h1, h2.mono o x, h3⟩
    · obtain ⟨vs, ob, h1, h2, h3⟩ := h; exact ⟨vs, ob, e _ (fun _ z => nomatch z) h1, h2.mono o x, h3⟩
  | dcr ks => obtain ⟨xs, h1, h2, h3, h4⟩ := h; exact ⟨xs, e _ (fun _ z => nomatch z) h1, h2, fun y hy => (h3 y hy).mono o x, h4⟩
  | ins c l => obtain ⟨dx, vs, h1, h2, h3⟩ := h; exact ⟨dx, vs, e _ (fun _ z => nomatch z) h1, h2.mono o x, h3⟩

/-- a cell's address is tracked -/
theorem Wl.Ok.there (o : W.Ok K N) {r : Nat} {c : Cell} (h : W.η.get r = some c) : ∃ ob, W.H (W.μ r) = some ob ∧ noT ob := by
  have q := o.cell r c h
  cases c with
  | frz l => obtain ⟨vs, q, _⟩ := q; exact ⟨_, q, fun _ z => nomatch z⟩
  | lst l => obtain ⟨vs, q, _⟩ := q; exact ⟨_, q, fun _ z => nomatch z⟩
  | dice => obtain ⟨_, _, _, q⟩ := q; exact ⟨_, q, fun _ z => nomatch z⟩
  | dct t l =>
    cases t
    · obtain ⟨vs, q, _⟩ := q; exact ⟨_, q, fun _ z => nomatch z⟩
    · obtain ⟨vs, q, _⟩ := q; exact ⟨_, q, fun _ z => nomatch z⟩
  | ldc t l =>
    cases t
    · obtain ⟨vs, ob, q, _⟩ := q; exact ⟨_, q, fun _ z => nomatch z⟩
    · obtain ⟨vs, ob, q, _⟩ := q; exact ⟨_, q, fun _ z => nomatch z⟩
  | dcr ks => obtain ⟨xs, q, _⟩ := q; exact ⟨_, q, fun _ z => nomatch z⟩
  | ins c fs => obtain ⟨_, _, q, _⟩ := q; exact ⟨_, q, fun _ z => nomatch z⟩
theorem Wl.Ok.noTab (o : W.Ok K N) {r : Nat} {c : Cell} {u : HO} (h : W.η.get r = some c) (hu : W.H (W.μ r) = some u) (z : (∃ ps, u = .tbl ps) ∨ (∃ c q, u = LamX.CodeO c q)) : False := by
  have q := o.cell r c h
  cases c with
  | frz l => obtain ⟨vs, q, _⟩ := q; rw [hu] at q; cases q; rcases z with ⟨_, z⟩ | ⟨_, _, z⟩ <;> cases z
  | lst l => obtain ⟨vs, q, _⟩ := q; rw [hu] at q; cases q; rcases z with ⟨_, z⟩ | ⟨_, _, z⟩ <;> cases z
  | dice => obtain ⟨_, _, _, q⟩ := q; rw [hu] at q; cases q; rcases z with ⟨_, z⟩ | ⟨_, _, z⟩ <;> cases z
  | dct t l =>
    cases t
    · obtain ⟨vs, q, _⟩ := q; rw [hu] at q; cases q; rcases z with ⟨_, z⟩ | ⟨_, _, z⟩ <;> cases z
    · obtain ⟨vs, q, _⟩ := q; rw [hu] at q; cases q; rcases z with ⟨_, z⟩ | ⟨_, _, z⟩ <;> cases z
  | ldc t l =>
    cases t
    · obtain ⟨vs, ob, q, _⟩ := q; rw [hu] at q; cases q; rcases z with ⟨_, z⟩ | ⟨_, _, z⟩ <;> cases z
    · obtain ⟨vs, ob, q, _⟩ := q; rw [hu] at q; cases q; rcases z with ⟨_, z⟩ | ⟨_, _, z⟩ <;> cases z
  | dcr ks => obtain ⟨xs, q, _⟩ := q; rw [hu] at q; cases q; rcases z with ⟨_, z⟩ | ⟨_, _, z⟩; · cases z
              · exact dObj_code z
  | ins c fs => obtain ⟨_, _, q, _⟩ := q; rw [hu] at q; cases q; rcases z with ⟨_, z⟩ | ⟨_, _, z⟩ <;> cases z
/-- another cell does not stand there -/
theorem Wl.Ok.apart (o : W.Ok K N) {r q : Nat} {c d : Cell} (h : W.η.get r = some c) (h2 : W.η.get q = some d) (ne : q ≠ r) : W.μ q ≠ W.μ r := fun z => ne (o.inj q r d c h2 h z)
theorem tabs_keep {T : Tbl} {H H' : Hp} (t : Tabs T H) (k : ∀ b o, H b = some o → (∃ ps, o = .tbl ps) ∨ (∃ c q, o = LamX.CodeO c q) → H' b = some o) : Tabs T H' := fun e he => by
  obtain ⟨ps, h1, h2, h3⟩ := t e he
  refine ⟨ps, k _ _ h1 (.inl ⟨ps, rfl⟩), h2, fun at_ hl cv hc => ?_⟩
  obtain ⟨c, e1, e2⟩ := h3 at_ hl cv hc
  exact ⟨c, e1, k _ _ e2 (.inr ⟨_, _, rfl⟩)⟩
/-! ### the steps of worlds -/
/-- something new that is no cell -/
def Wl.lay (W : Wl) (p : Addr) (o : HO) : Wl := ⟨W.μ, W.η, upd W.H p o⟩
theorem Wl.Ok.lay (o : W.Ok K N) {p : Addr} {ob : HO} (hp : W.H p = none) : Ext W (W.lay p ob) ∧ (W.lay p ob).Ok K N := by
  have up : ∀ a x, W.H a = some x → (W.lay p ob).H a = some x := fun a x e => by
    show upd W.H p ob a = some x
    rw [upd_ne (ne_of_none e hp)]; exact e
  have x : Ext W (W.lay p ob) := ⟨Nat.le_refl _, fun _ _ => rfl, fun a u h _ _ => up a u h, fun a u h t => ⟨u, up a u h, t⟩, fun r c h => .inl ⟨c, h, id⟩⟩
  exact ⟨x, o.lt, fun r c e => (o.cell r c e).mono o x (fun ob _ => up _ ob), o.inj, tabs_keep o.tab fun b u h _ => up b u h⟩
/-- a new cell -/
def Wl.new (W : Wl) (p : Addr) (c : Cell) (o : HO) : Wl := ⟨fun r => if r = W.η.nx then p else W.μ r, W.η.new c, upd W.H p o⟩
theorem Wl.Ok.new (o : W.Ok K N) {p : Addr} {c : Cell} {ob : HO} (hp : W.H p = none) (hc : RelC K N (W.new p c ob) p c) : Ext W (W.new p c ob) ∧ (W.new p c ob).Ok K N := by
  have up : ∀ a x, W.H a = some x → (W.new p c ob).H a = some x := fun a x e => by
    show upd W.H p ob a = some x
    rw [upd_ne (ne_of_none e hp)]; exact e
  have mu : ∀ r, r < W.η.nx → (W.new p c ob).μ r = W.μ r := fun r h => by
    show (if r = W.η.nx then p else W.μ r) = W.μ r
    rw [if_neg (Nat.ne_of_lt h)]
  have gn : ∀ r, (W.new p c ob).η.get r = if r = W.η.nx then some c else W.η.get r := fun r => Hd.get_new _ _ _
  have x : Ext W (W.new p c ob) := by
    refine ⟨Nat.le_succ _, mu, fun a u h _ _ => up a u h, fun a u h t => ⟨u, up a u h, t⟩, fun r d h => ?_⟩
    rw [gn] at h
    by_cases e : r = W.η.nx
    · refine .inr ⟨Nat.le_of_eq e.symm, ?_⟩
      show NoC W.H (if r = W.η.nx then p else W.μ r)
      rw [if_pos e]; exact NoC.of hp
    · rw [if_neg e] at h
      exact .inl ⟨d, h, id⟩
  have pn : ∀ r d, W.η.get r = some d → W.μ r ≠ p := fun r d e => by
    obtain ⟨ob, q, _⟩ := o.there e
    exact ne_of_none q hp
  have mn : (W.new p c ob).μ W.η.nx = p := by
    show (if W.η.nx = W.η.nx then p else W.μ W.η.nx) = p
    rw [if_pos rfl]
  refine ⟨x, fun r d e => ?_, fun r d e => ?_, fun r s c1 d h1 h2 e => ?_, tabs_keep o.tab fun b u h _ => up b u h⟩
  · rw [gn] at e
    show r < Nat.succ W.η.nx
    by_cases h : r = W.η.nx
    · omega
    · rw [if_neg h] at e
      have := o.lt r d e; omega
  · rw [gn] at e
    by_cases h : r = W.η.nx
    · rw [if_pos h] at e; cases e
      rw [h, mn]; exact hc
    · rw [if_neg h] at e
      rw [mu r (o.lt r d e)]
      exact (o.cell r d e).mono o x (fun ob _ => up _ ob)
  · rw [gn] at h1 h2
    by_cases hr : r = W.η.nx
    · by_cases hs : s = W.η.nx
      · exact hr.trans hs.symm
      · rw [if_neg hs] at h2
        rw [hr, mn, mu s (o.lt s d h2)] at e
        exact absurd e.symm (pn s d h2)
    · rw [if_neg hr] at h1
      by_cases hs : s = W.η.nx
      · rw [hs, mn, mu r (o.lt r c1 h1)] at e
        exact absurd e (pn r c1 h1)
      · rw [if_neg hs] at h2
        rw [mu r (o.lt r c1 h1), mu s (o.lt s d h2)] at e
        exact o.inj r s c1 d h1 h2 e
theorem Wl.new_mu (W : Wl) (p : Addr) (c : Cell) (o : HO) : (W.new p c o).μ W.η.nx = p := by
  show (if W.η.nx = W.η.nx then p else W.μ W.η.nx) = p
  rw [if_pos rfl]
theorem Wl.new_ref (W : Wl) (p : Addr) (c : Cell) (o : HO) : RelD (W.new p c o) (.ref W.η.nx) (.ref p) := by
  rw [RelD]; exact ⟨Nat.lt_succ_self _, by rw [Wl.new_mu]⟩
/-- a cell changed -/
def Wl.put (W : Wl) (r : Nat) (c : Cell) (o : HO) : Wl := ⟨W.μ, W.η.set r c, upd W.H (W.μ r) o⟩
theorem Wl.Ok.put (o : W.Ok K N) {r : Nat} {c0 c : Cell} {ob : HO} (h0 : W.η.get r = some c0) (m0 : c0.mut = true) (hc : Ext W (W.put r c ob) → RelC K N (W.put r c ob) (W.μ r) c) (ht : noT ob := by intro _ z; cases z) : Ext W (W.put r c ob) ∧ (W.put r c ob).Ok K N := by
  have ne : ∀ a, a ≠ W.μ r → (W.put r c ob).H a = W.H a := fun a h => upd_ne h
  have gs : ∀ q, (W.put r c ob).η.get q = if q = r then some c else W.η.get q := fun q => by
    have := Hd.get_set W.η r c q
    rw [h0] at this
    exact this
  have x : Ext W (W.put r c ob) := by
    refine ⟨Nat.le_refl _, fun _ _ => rfl, fun a u h _ hn => ?_, fun a u h t => ?_, fun q d h => ?_⟩
    · rw [ne a (Ne.symm (hn r c0 h0 m0))]; exact h
    · by_cases z : a = W.μ r
      · exact ⟨ob, by rw [z]; exact upd_same, ht⟩
      · exact ⟨u, by rw [ne a z]; exact h, t⟩
    · rw [gs] at h
      by_cases z : q = r
      · rw [z]; exact .inl ⟨c0, h0, fun _ => m0⟩
      · rw [if_neg z] at h; exact .inl ⟨d, h, id⟩
  have hc := hc x
  refine ⟨x, fun q d e => ?_, fun q d e => ?_, fun q s c1 d h1 h2 e => ?_, tabs_keep o.tab fun b u h hu => ?_⟩
  · rw [gs] at e
    by_cases z : q = r
    · rw [z]; exact o.lt r c0 h0
    · rw [if_neg z] at e; exact o.lt q d e
  · rw [gs] at e
    by_cases z : q = r
    · rw [if_pos z] at e; cases e; rw [z]; exact hc
    · rw [if_neg z] at e
      exact (o.cell q d e).mono o x (fun ob' _ h' => by rw [ne _ (o.apart h0 e z)]; exact h')
  · rw [gs] at h1 h2
    have e' : W.μ q = W.μ s := e
    by_cases zq : q = r
    · by_cases zs : s = r
      · exact zq.trans zs.symm
      · rw [if_neg zs] at h2
        exact o.inj q s c0 d (by rw [zq]; exact h0) h2 e'
    · rw [if_neg zq] at h1
      by_cases zs : s = r
      · exact o.inj q s c1 c0 h1 (by rw [zs]; exact h0) e'
      · rw [if_neg zs] at h2
        exact o.inj q s c1 d h1 h2 e'
  · rw [ne b (fun z => o.noTab h0 (by rw [← z]; exact h) hu)]; exact h
/-- cells dropped: what is left of a world -/
theorem Ext.drop {η' : Hd} (x : Ext W W') (o' : W'.Ok K N) (nx : η'.nx = W'.η.nx) (sub : ∀ r c, η'.get r = some c → W'.η.get r = some c) : Ext W ⟨W'.μ, η', W'.H⟩ ∧ Wl.Ok K N ⟨W'.μ, η', W'.H⟩ := by
  have y : Ext W' ⟨W'.μ, η', W'.H⟩ := ⟨Nat.le_of_eq nx.symm, fun _ _ => rfl, fun _ _ h _ _ => h, fun a u h t => ⟨u, h, t⟩, fun r c h => .inl ⟨c, sub r c h, id⟩⟩
  refine ⟨⟨by rw [show (Wl.mk W'.μ η' W'.H).η.nx = W'.η.nx from nx]; exact x.nx, x.mu, x.fr, x.th, fun r c h => x.cs r c (sub r c h)⟩, fun r c h => ?_, fun r c h => ?_, fun r s c d h1 h2 e => ?_, o'.tab⟩
  · have := o'.lt r c (sub r c h); show r < η'.nx; omega
  · exact (o'.cell r c (sub r c h)).mono o' y (fun _ _ h => h)
  · exact o'.inj r s c d (sub r c h1) (sub s d h2) e
end

end DL

/-! judgements: a piece of syntax and what it computes over values as trees -/
namespace DL
open PySem PySem.Spec L2

/-- an exception: its class, its one field -/
structure Xc where
  c : Nat
  p : Option D
abbrev SD := List (Option D)
abbrev KV := D → Hd → Bool
abbrev KX := Xc → Hd → Bool
abbrev CE := SD → Hd → KV → KX → Bool
abbrev CT := SD → Hd → (Bool → Hd → Bool) → KX → Bool
abbrev CA := SD → Hd → (List D → Hd → Bool) → KX → Bool
structure KS where
  nx : SD → Hd → Bool
  rt : KV
  bk : SD → Hd → Bool
  ct : SD → Hd → Bool
  xc : KX
abbrev CS := SD → Hd → KS → Bool

structure Nm extends Names where
  xf : Nat → Str

def RelX (N : Nm) (W : Wl) (x : Xc) (cls : Value) (dd : Option Addr) : Prop :=
  cls = .ref (N.cls x.c) ∧ match x.p with
  | none => dd = none
  | some d => ∃ a v, dd = some a ∧ W.H a = some (.xd [(N.xf x.c, v)]) ∧ RelD W d v
structure RelS (W : Wl) (σd : SD) (σ : St) : Prop where
  len : σd.length = σ.length
  get : ∀ (i : Nat) (d : D), σd[i]? = some (some d) → ∃ v, σ[i]? = some (some v) ∧ RelD W d v
theorem RelS.mono {K : PySem.W.Frag} {N : Names} {W W' : Wl} {σd : SD} {σ : St} (o : W.Ok K N) (x : Ext W W') (h : RelS W σd σ) : RelS W' σd σ :=
  ⟨h.len, fun i d e => by obtain ⟨v, e', r⟩ := h.get i d e; exact ⟨v, e', r.mono o x⟩⟩
theorem RelS.set {W : Wl} {σd : SD} {σ : St} {d : D} {v : V} (h : RelS W σd σ) (i : Nat) (r : RelD W d v) : RelS W (σd.set i (some d)) (σ.set i (some v)) := by
  refine ⟨by simpa using h.len, fun j e q => ?_⟩
  by_cases z : i = j
  · subst z
    by_cases hi : i < σd.length
    · rw [List.getElem?_set_self hi] at q; cases q
      exact ⟨v, List.getElem?_set_self (by rw [← h.len]; exact hi), r⟩
    · rw [List.getElem?_eq_none (by simpa using Nat.le_of_not_lt hi)] at q; cases q
  · rw [List.getElem?_set_ne z] at q
    obtain ⟨v', e', r'⟩ := h.get j e q
    exact ⟨v', by rw [List.getElem?_set_ne z]; exact e', r'⟩
/-- the frame of values forgotten at a slot -/
theorem RelS.none_at {W : Wl} {σd : SD} {σ : St} (h : RelS W σd σ) (i : Nat) (x : Option V) : RelS W (σd.set i none) (σ.set i x) := by
  refine ⟨by simpa using h.len, fun j e q => ?_⟩
  by_cases z : i = j
  · subst z
    by_cases hi : i < σd.length
    · rw [List.getElem?_set_self hi] at q; cases q
    · rw [List.getElem?_eq_none (by simpa using Nat.le_of_not_lt hi)] at q; cases q
  · rw [List.getElem?_set_ne z] at q
    obtain ⟨v', e', r'⟩ := h.get j e q
    exact ⟨v', by rw [List.getElem?_set_ne z]; exact e', r'⟩

section
variable (K : PySem.W.Frag) (N : Nm) (E : XK)
/-- what is wanted behind: of a value, of an exception -/
def Vk (W : Wl) (kv : KV) (Q : VK) : Prop := ∀ W' d v, Ext W W' → W'.Ok K N.toNames → RelD W' d v → kv d W'.η = true → Q v W'.H
def Xk (W : Wl) (kx : KX) : Prop := ∀ W' x cls dd, Ext W W' → W'.Ok K N.toNames → RelX N W' x cls dd → kx x W'.η = true → E cls dd W'.H
def tE (c : CE) : TE := fun σ H Q => ∃ W σd kv kx, W.H = H ∧ W.Ok K N.toNames ∧ RelS W σd σ ∧ c σd W.η kv kx = true ∧ Vk K N W kv Q ∧ Xk K N E W kx
def tT (c : CT) : TT := fun σ H Q => ∃ W σd kv kx, W.H = H ∧ W.Ok K N.toNames ∧ RelS W σd σ ∧ c σd W.η kv kx = true ∧ (∀ W' b, Ext W W' → W'.Ok K N.toNames → kv b W'.η = true → Q b W'.H) ∧ Xk K N E W kx
def tAr (c : CA) : TA := fun σ H Q => ∃ W σd kv kx, W.H = H ∧ W.Ok K N.toNames ∧ RelS W σd σ ∧ c σd W.η kv kx = true ∧ (∀ W' ds vs, Ext W W' → W'.Ok K N.toNames → RelDs W' ds vs → kv ds W'.η = true → Q vs W'.H) ∧ Xk K N E W kx
/-- what is wanted behind a statement -/
structure Sk (W : Wl) (k : KS) (Z : Ends) : Prop where
  nx : ∀ W' σd σ, Ext W W' → W'.Ok K N.toNames → RelS W' σd σ → k.nx σd W'.η = true → Z.nx σ W'.H
  rt : Vk K N W k.rt Z.rt
  bk : ∀ W' σd σ, Ext W W' → W'.Ok K N.toNames → RelS W' σd σ → k.bk σd W'.η = true → Z.bk σ W'.H
  ct : ∀ W' σd σ, Ext W W' → W'.Ok K N.toNames → RelS W' σd σ → k.ct σd W'.η = true → Z.ct σ W'.H
  xc : Xk K N E W k.xc
def tS (c : CS) : TS := fun Z σ H => ∃ W σd k, W.H = H ∧ W.Ok K N.toNames ∧ RelS W σd σ ∧ c σd W.η k = true ∧ Sk K N E W k Z
end
def JE (X : Cx) (N : Nm) (E : XK) (e : Expr) (c : CE) : Prop := PE X e (tE X.K N E c)
def JT (X : Cx) (N : Nm) (E : XK) (e : Expr) (c : CT) : Prop := PT X e (tT X.K N E c)
def JA (X : Cx) (N : Nm) (E : XK) (es : List Expr) (c : CA) : Prop := PA X es (tAr X.K N E c)
def JS (X : Cx) (N : Nm) (E : XK) (st : Stmt) (c : CS) : Prop := PS X st (tS X.K N E c)
def JB (X : Cx) (N : Nm) (E : XK) (st : List Stmt) (c : CS) : Prop := PSs X st (tS X.K N E c)

theorem PE.imp {X : Cx} {e : Expr} {t t' : TE} (h : PE X e t) (f : ∀ σ H Q, t' σ H Q → t σ H Q) : PE X e t' := ⟨fun pins s σ H Q I q => h.run pins s σ H Q I (f σ H Q q)⟩
theorem PT.imp {X : Cx} {e : Expr} {t t' : TT} (h : PT X e t) (f : ∀ σ H Q, t' σ H Q → t σ H Q) : PT X e t' := ⟨fun pins s σ H Q I q => h.run pins s σ H Q I (f σ H Q q)⟩
theorem PW.imp {X : Cx} {e : Expr} {t t' : TT} (h : PW X e t) (f : ∀ σ H Q, t' σ H Q → t σ H Q) : PW X e t' := ⟨fun wh pins s σ H Q I q => h.run wh pins s σ H Q I (f σ H Q q)⟩
theorem PA.imp {X : Cx} {e : List Expr} {t t' : TA} (h : PA X e t) (f : ∀ σ H Q, t' σ H Q → t σ H Q) : PA X e t' := ⟨fun pos pins s σ H Q I q => h.run pos pins s σ H Q I (f σ H Q q)⟩
theorem PS.imp {X : Cx} {e : Stmt} {t t' : TS} (h : PS X e t) (f : ∀ D σ H, t' D σ H → t D σ H) : PS X e t' := ⟨fun pins s σ H D I q => h.run pins s σ H D I (f D σ H q)⟩
theorem PSs.imp {X : Cx} {e : List Stmt} {t t' : TS} (h : PSs X e t) (f : ∀ D σ H, t' D σ H → t D σ H) : PSs X e t' := ⟨fun pins s σ H D I q => h.run pins s σ H D I (f D σ H q)⟩

section
variable {K : PySem.W.Frag} {N : Nm} {E : XK} {W W' : Wl} {kv : KV} {kx : KX} {Q : VK}
theorem Vk.mono (o : W.Ok K N.toNames) (o' : W'.Ok K N.toNames) (x : Ext W W') (h : Vk K N W kv Q) : Vk K N W' kv Q := fun W2 d v y => h W2 d v (x.trans o o' y)
theorem Xk.mono (o : W.Ok K N.toNames) (o' : W'.Ok K N.toNames) (x : Ext W W') (h : Xk K N E W kx) : Xk K N E W' kx := fun W2 d v dd y => h W2 d v dd (x.trans o o' y)
theorem Vk.here (o : W.Ok K N.toNames) (h : Vk K N W kv Q) {d : D} {v : V} (r : RelD W d v) (e : kv d W.η = true) : Q v W.H := h W d v (Ext.refl W) o r e
theorem Sk.mono {k : KS} {Z : Ends} (o : W.Ok K N.toNames) (o' : W'.Ok K N.toNames) (x : Ext W W') (h : Sk K N E W k Z) : Sk K N E W' k Z :=
  ⟨fun W2 a b y => h.nx W2 a b (x.trans o o' y), h.rt.mono o o' x, fun W2 a b y => h.bk W2 a b (x.trans o o' y), fun W2 a b y => h.ct W2 a b (x.trans o o' y), h.xc.mono o o' x⟩
/-- a part is read, then the rest -/
theorem tE.bind {c : CE} {σ : St} {σd : SD} {Q' : VK} (o : W.Ok K N.toNames) (s : RelS W σd σ) (hx : Xk K N E W kx) (h : c σd W.η kv kx = true)
    (hq : ∀ W' d v, Ext W W' → W'.Ok K N.toNames → RelD W' d v → RelS W' σd σ → Xk K N E W' kx → kv d W'.η = true → Q' v W'.H) : tE K N E c σ W.H Q' :=
  ⟨W, σd, kv, kx, rfl, o, s, h, fun W' d v x o' r e => hq W' d v x o' r (s.mono o x) (hx.mono o o' x) e, hx⟩
theorem tT.bind {c : CT} {kt : Bool → Hd → Bool} {σ : St} {σd : SD} {Q' : Bool → Hp → Prop} (o : W.Ok K N.toNames) (s : RelS W σd σ) (hx : Xk K N E W kx) (h : c σd W.η kt kx = true)
    (hq : ∀ W' b, Ext W W' → W'.Ok K N.toNames → RelS W' σd σ → Xk K N E W' kx → kt b W'.η = true → Q' b W'.H) : tT K N E c σ W.H Q' :=
  ⟨W, σd, kt, kx, rfl, o, s, h, fun W' b x o' e => hq W' b x o' (s.mono o x) (hx.mono o o' x) e, hx⟩
theorem tAr.bind {c : CA} {kt : List D → Hd → Bool} {σ : St} {σd : SD} {Q' : List V → Hp → Prop} (o : W.Ok K N.toNames) (s : RelS W σd σ) (hx : Xk K N E W kx) (h : c σd W.η kt kx = true)
    (hq : ∀ W' ds vs, Ext W W' → W'.Ok K N.toNames → RelDs W' ds vs → RelS W' σd σ → Xk K N E W' kx → kt ds W'.η = true → Q' vs W'.H) : tAr K N E c σ W.H Q' :=
  ⟨W, σd, kt, kx, rfl, o, s, h, fun W' ds vs x o' r e => hq W' ds vs x o' r (s.mono o x) (hx.mono o o' x) e, hx⟩
end

/-! ### names, constants -/
def cVar (i : Nat) : CE := fun σ η kv _ => match σ[i]? with
  | some (some d) => kv d η
  | _ => false
def cC (d : D) : CE := fun _ η kv _ => kv d η
section
variable {X : Cx} {N : Nm} {E : XK}
theorem je_var {e : Expr} (i : Nat) (h : PE X e (tVar i)) : JE X N E e (cVar i) := PE.imp h fun σ H Q q => by
  obtain ⟨W, σd, kv, kx, rfl, o, s, h, hv, hx⟩ := q
  unfold cVar at h
  cases e : σd[i]? with
  | none => rw [e] at h; cases h
  | some x =>
    cases x with
    | none => rw [e] at h; cases h
    | some d =>
      rw [e] at h
      obtain ⟨v, e', r⟩ := s.get i d e
      exact ⟨v, e', hv.here o r h⟩
theorem je_c {e : Expr} {v : V} {d : D} (h : PE X e (tC v)) (r : ∀ W, RelD W d v) : JE X N E e (cC d) := PE.imp h fun σ H Q q => by
  obtain ⟨W, σd, kv, kx, rfl, o, s, h, hv, hx⟩ := q
  exact hv.here o (r W) h
theorem je_int {i : Int} {j pos} : JE X N E (.Constant (.int i) j pos) (cC (.int i)) := je_c pe_int fun W => by rw [RelD]
theorem je_bl {b : Bool} {j pos} : JE X N E (.Constant (.bool b) j pos) (cC (.bl b)) := je_c pe_bl fun W => by rw [RelD]
theorem je_str {x : Str} {j pos} : JE X N E (.Constant (.str x) j pos) (cC (.str x)) := je_c pe_str fun W => by rw [RelD]

/-! ### operators by values -/
/-- what an operator makes of two values; none: nothing is said -/
abbrev F2 := D → D → Hd → Option (D × Hd)
def r2 (K : PySem.W.Frag) (N : Nm) (f : F2) : R2 := fun x y H Q => ∃ W dx dy d η', W.H = H ∧ W.Ok K N.toNames ∧ RelD W dx x ∧ RelD W dy y ∧ f dx dy W.η = some (d, η') ∧
  (∀ W' v, Ext W W' → W'.Ok K N.toNames → W'.η = η' → RelD W' d v → Q v W'.H)
def cOp (f : F2) (a b : CE) : CE := fun σ η kv kx => a σ η (fun x η1 => b σ η1 (fun y η2 => match f x y η2 with
  | some (d, η3) => kv d η3
  | none => false) kx) kx
theorem tOp_of {f : F2} {ca cb : CE} {K : PySem.W.Frag} {σ : St} {H : Hp} {Q : VK} (h : tE K N E (cOp f ca cb) σ H Q) : tOp (r2 K N f) (tE K N E ca) (tE K N E cb) σ H Q := by
  obtain ⟨W, σd, kv, kx, rfl, o, s, h, hv, hx⟩ := h
  refine tE.bind o s hx h fun W1 dx x x1 o1 r1 s1 hx1 h1 => ?_
  refine tE.bind o1 s1 hx1 h1 fun W2 dy y x2 o2 r2' s2 hx2 h2 => ?_
  cases e : f dx dy W2.η with
  | none => rw [e] at h2; cases h2
  | some p =>
    obtain ⟨d, η'⟩ := p
    rw [e] at h2
    exact ⟨W2, dx, dy, d, η', rfl, o2, r1.mono o1 x2, r2', e, fun W' v x3 o3 e3 r3 => hv W' d v (x1.trans o o1 (x2.trans o1 o2 x3)) o3 r3 (by rw [e3]; exact h2)⟩
theorem je_op {op : Operator} {f : F2} {a b : Expr} {ca cb : CE} {pos : Pos} (ho : OpR X (binaryOp op) (r2 X.K N f)) (ha : JE X N E a ca) (hb : JE X N E b cb) : JE X N E (.BinOp a op b pos) (cOp f ca cb) :=
  PE.imp (pe_op ho ha hb) fun σ H Q q => tOp_of q
theorem je_cmp {op : CmpOp} {f : F2} {a b : Expr} {ca cb : CE} {pos : Pos} (ho : OpR X (compareOp op) (r2 X.K N f)) (ha : JE X N E a ca) (hb : JE X N E b cb) (hm : behindInMarks op b = false) : JE X N E (.Compare a [op] [b] pos) (cOp f ca cb) :=
  PE.imp (pe_cmpR ho ha hb hm) fun σ H Q q => tOp_of q
end
end DL

/-! operators -/
namespace DL
open PySem PySem.Spec L2
section
variable {X : Cx} {N : Nm} {E : XK}
theorem OpR.imp {f : Value → Value → Sem Value} {r r' : R2} (h : OpR X f r) (i : ∀ x y H Q, r' x y H Q → r x y H Q) : OpR X f r' :=
  fun pins s σ H x y v u Q I rx ry q => h pins s σ H x y v u Q I rx ry (i x y H Q q)
/-- the world is as it was -/
theorem same_w {K : PySem.W.Frag} {W : Wl} {Q : VK} {d : D} {v : V} (o : W.Ok K N.toNames) (q : ∀ W' v, Ext W W' → W'.Ok K N.toNames → W'.η = W.η → RelD W' d v → Q v W'.H) (r : RelD W d v) : Q v W.H := q W v (Ext.refl W) o rfl r

def line : Nat := 16777216
/-! ints -/
def fI2 (g : Int → Int → Int) : F2 := fun x y η => match x, y with
  | .int i, .int j => some (.int (g i j), η)
  | _, _ => none
def fI2c (c : Int → Int → Bool) (g : Int → Int → Int) : F2 := fun x y η => match x, y with
  | .int i, .int j => match c i j with
    | true => some (.int (g i j), η)
    | false => none
  | _, _ => none
def fB2 (g : Int → Int → Bool) : F2 := fun x y η => match x, y with
  | .int i, .int j => some (.bl (g i j), η)
  | _, _ => none
theorem relInt {W : Wl} {i : Int} {v : V} (h : RelD W (.int i) v) : v = .int i := by rw [RelD] at h; exact h
theorem relStr {W : Wl} {i : Str} {v : V} (h : RelD W (.str i) v) : v = .str i := by rw [RelD] at h; exact h
theorem relBl {W : Wl} {i : Bool} {v : V} (h : RelD W (.bl i) v) : v = .bl i := by rw [RelD] at h; exact h
theorem relRef {W : Wl} {r : Nat} {v : V} (h : RelD W (.ref r) v) : v = .ref (W.μ r) := by rw [RelD] at h; exact h.2
theorem mkInt {W : Wl} {i : Int} : RelD W (.int i) (.int i) := by rw [RelD]
theorem mkBl {W : Wl} {i : Bool} : RelD W (.bl i) (.bl i) := by rw [RelD]
theorem mkStr' {W : Wl} {i : Str} : RelD W (.str i) (.str i) := by rw [RelD]
theorem mkNon {W : Wl} : RelD W .non .non := by rw [RelD]
theorem fI2_inv {g : Int → Int → Int} {x y d : D} {η η' : Hd} (h : fI2 g x y η = some (d, η')) : ∃ i j, x = .int i ∧ y = .int j ∧ d = .int (g i j) ∧ η' = η := by
  cases x with
  | int i =>
    cases y with
    | int j => simp only [fI2, Option.some.injEq, Prod.mk.injEq] at h; exact ⟨i, j, rfl, rfl, h.1.symm, h.2.symm⟩
    | _ => cases h
  | _ => cases h
theorem fB2_inv {g : Int → Int → Bool} {x y d : D} {η η' : Hd} (h : fB2 g x y η = some (d, η')) : ∃ i j, x = .int i ∧ y = .int j ∧ d = .bl (g i j) ∧ η' = η := by
  cases x with
  | int i =>
    cases y with
    | int j => simp only [fB2, Option.some.injEq, Prod.mk.injEq] at h; exact ⟨i, j, rfl, rfl, h.1.symm, h.2.symm⟩
    | _ => cases h
  | _ => cases h
theorem fI2c_inv {c : Int → Int → Bool} {g : Int → Int → Int} {x y d : D} {η η' : Hd} (h : fI2c c g x y η = some (d, η')) : ∃ i j, x = .int i ∧ y = .int j ∧ c i j = true ∧ d = .int (g i j) ∧ η' = η := by
  cases x with
  | int i =>
    cases y with
    | int j =>
      simp only [fI2c] at h
      cases e : c i j with
      | false => rw [e] at h; cases h
      | true => rw [e] at h; simp only [Option.some.injEq, Prod.mk.injEq] at h; exact ⟨i, j, rfl, rfl, e, h.1.symm, h.2.symm⟩
    | _ => cases h
  | _ => cases h
theorem opd_int {f : Value → Value → Sem Value} {g g' : Int → Int → Int} (h : OpR X f (rI0 fun i j => .int (g' i j))) (e : ∀ i j, g' i j = g i j) : OpR X f (r2 X.K N (fI2 g)) := OpR.imp h fun x y H Q q => by
  obtain ⟨W, dx, dy, d, η', rfl, o, rx, ry, hf, hq⟩ := q
  obtain ⟨i, j, rfl, rfl, rfl, rfl⟩ := fI2_inv hf
  rw [relInt rx, relInt ry]
  exact ⟨i, j, rfl, rfl, by show Q (.int (g' i j)) W.H; rw [e]; exact same_w o hq mkInt⟩
theorem opd_intc {f : Value → Value → Sem Value} {C : Int → Int → Prop} {c : Int → Int → Bool} {g g' : Int → Int → Int} (h : OpR X f (rI C fun i j => .int (g' i j))) (hc : ∀ i j, c i j = true → C i j) (e : ∀ i j, g' i j = g i j) : OpR X f (r2 X.K N (fI2c c g)) := OpR.imp h fun x y H Q q => by
  obtain ⟨W, dx, dy, d, η', rfl, o, rx, ry, hf, hq⟩ := q
  obtain ⟨i, j, rfl, rfl, hij, rfl, rfl⟩ := fI2c_inv hf
  rw [relInt rx, relInt ry]
  exact ⟨i, j, rfl, rfl, hc i j hij, by show Q (.int (g' i j)) W.H; rw [e]; exact same_w o hq mkInt⟩
theorem opd_cmp {f : Value → Value → Sem Value} {g g' : Int → Int → Bool} (h : OpR X f (rI0 fun i j => .bl (g' i j))) (e : ∀ i j, g' i j = g i j) : OpR X f (r2 X.K N (fB2 g)) := OpR.imp h fun x y H Q q => by
  obtain ⟨W, dx, dy, d, η', rfl, o, rx, ry, hf, hq⟩ := q
  obtain ⟨i, j, rfl, rfl, rfl, rfl⟩ := fB2_inv hf
  rw [relInt rx, relInt ry]
  exact ⟨i, j, rfl, rfl, by show Q (.bl (g' i j)) W.H; rw [e]; exact same_w o hq mkBl⟩

/-- either of two -/
def fOr (f g : F2) : F2 := fun x y η => match f x y η with
  | some p => some p
  | none => g x y η
theorem opd_or {fv : Value → Value → Sem Value} {f g : F2} (hf : OpR X fv (r2 X.K N f)) (hg : OpR X fv (r2 X.K N g)) : OpR X fv (r2 X.K N (fOr f g)) := OpR.imp (OpR.or hf hg) fun x y H Q q => by
  obtain ⟨W, dx, dy, d, η', rfl, o, rx, ry, h, hq⟩ := q
  unfold fOr at h
  cases e : f dx dy W.η with
  | some p => rw [e] at h; exact .inl ⟨W, dx, dy, d, η', rfl, o, rx, ry, by rw [e]; exact h, hq⟩
  | none => rw [e] at h; exact .inr ⟨W, dx, dy, d, η', rfl, o, rx, ry, h, hq⟩

/-! tuples, lists, texts -/
def fCatT : F2 := fun x y η => match x, y with
  | .tup a, .tup b => match Nat.ble (a.length + b.length) line with
    | true => some (.tup (a ++ b), η)
    | false => none
  | _, _ => none
def fCatL : F2 := fun x y η => match x, y with
  | .ref r, .ref s => match η.get r, η.get s with
    | some (.lst a), some (.lst b) => match Nat.ble (a.length + b.length) line with
      | true => some (.ref η.nx, η.new (.lst (a ++ b)))
      | false => none
    | _, _ => none
  | _, _ => none
def fCatS : F2 := fun x y η => match x, y with
  | .str a, .str b => match Nat.ble (a.length + b.length) line with
    | true => some (.str (a ++ b), η)
    | false => none
  | _, _ => none
def fRepL : F2 := fun x y η => match x, y with
  | .ref r, .int k => match η.get r with
    | some (.lst a) => match Nat.ble k.natAbs 100000, Nat.ble (a.length * k.toNat) line with
      | true, true => some (.ref η.nx, η.new (.lst (List.replicate k.toNat a).flatten))
      | _, _ => none
    | _ => none
  | _, _ => none
theorem relFtup {W : Wl} {ds : List D} {v : V} (h : RelD W (.ftup ds) v) : ∃ a vs o, v = .ref a ∧ W.H a = some (.frz o (.tup vs)) ∧ o.dict = none ∧ RelDs W ds vs := by rw [RelD] at h; exact h
theorem relTup {W : Wl} {ds : List D} {v : V} (h : RelD W (.tup ds) v) : ∃ a vs, v = .ref a ∧ W.H a = some (.tup vs) ∧ RelDs W ds vs := by rw [RelD] at h; exact h
theorem mkTup {W : Wl} {ds : List D} {a : Addr} {vs : List V} (h : W.H a = some (.tup vs)) (r : RelDs W ds vs) : RelD W (.tup ds) (.ref a) := by rw [RelD]; exact ⟨a, vs, rfl, h, r⟩
/-- a new tuple -/
theorem new_tup {K : PySem.W.Frag} {W : Wl} {Q : VK} {ds : List D} {vs : List V} {p : Addr} (o : W.Ok K N.toNames) (q : ∀ W' v, Ext W W' → W'.Ok K N.toNames → W'.η = W.η → RelD W' (.tup ds) v → Q v W'.H) (hp : W.H p = none) (r : RelDs W ds vs) : Q (.ref p) (upd W.H p (.tup vs)) := by
  obtain ⟨x, o'⟩ := o.lay (ob := .tup vs) hp
  exact q (W.lay p (.tup vs)) (.ref p) x o' rfl (mkTup upd_same (r.mono o x))
/-- a new list -/
theorem new_lst {K : PySem.W.Frag} {W : Wl} {Q : VK} {ds : List D} {vs : List V} {p : Addr} (o : W.Ok K N.toNames) (q : ∀ W' v, Ext W W' → W'.Ok K N.toNames → W'.η = W.η.new (.lst ds) → RelD W' (.ref W.η.nx) v → Q v W'.H) (hp : W.H p = none) (r : RelDs W ds vs) (hl : ds.length ≤ sizeLine) : Q (.ref p) (upd W.H p (.lst vs)) := by
  have y : Ext W (W.lay p (.lst vs)) := (o.lay hp).1
  have pre : RelC K N.toNames (W.new p (.lst ds) (.lst vs)) p (.lst ds) := by
    refine ⟨vs, upd_same, ?_, hl⟩
    -- the world before the cell's own relation
    have x : Ext W (W.new p (.lst ds) (.lst vs)) := by
      refine ⟨Nat.le_succ _, fun r h => ?_, fun a u h _ _ => ?_, fun a u h t => ⟨u, ?_, t⟩, fun r d h => ?_⟩
      · show (if r = W.η.nx then p else W.μ r) = W.μ r
        rw [if_neg (Nat.ne_of_lt h)]
      · show upd W.H p _ a = some u
        rw [upd_ne (ne_of_none h hp)]; exact h
      · show upd W.H p _ a = some u
        rw [upd_ne (ne_of_none h hp)]; exact h
      · have h' : (W.η.new (.lst ds)).get r = some d := h
        rw [Hd.get_new] at h'
        by_cases e : r = W.η.nx
        · refine .inr ⟨Nat.le_of_eq e.symm, ?_⟩
          show NoC W.H (if r = W.η.nx then p else W.μ r)
          rw [if_pos e]; exact NoC.of hp
        · rw [if_neg e] at h'
          exact .inl ⟨d, h', id⟩
    exact r.mono o x
  obtain ⟨x, o'⟩ := o.new hp pre
  exact q (W.new p (.lst ds) (.lst vs)) (.ref p) x o' rfl (Wl.new_ref W p _ _)
theorem opd_catT : OpR X (binaryOp .Add) (r2 X.K N fCatT) := OpR.imp op_catA fun x y H Q q => by
  obtain ⟨W, dx, dy, d, η', rfl, o, rx, ry, hf, hq⟩ := q
  cases dx with
  | tup a =>
    cases dy with
    | tup b =>
      simp only [fCatT] at hf
      cases e : Nat.ble (a.length + b.length) line with
      | false => rw [e] at hf; cases hf
      | true =>
        rw [e] at hf
        simp only [Option.some.injEq, Prod.mk.injEq] at hf
        obtain ⟨rfl, rfl⟩ := hf
        obtain ⟨pa, va, rfl, sa, ra⟩ := relTup rx
        obtain ⟨pb, vb, rfl, sb, rb⟩ := relTup ry
        have hl : va.length + vb.length ≤ sizeLine := by
          rw [← ra.length, ← rb.length]; exact Nat.le_of_ble_eq_true e
        refine ⟨pa, pb, va, vb, rfl, rfl, SqT.of sa, SqT.of sb, hl, fun z => ?_, fun _ z => ?_, fun _ _ p hp => new_tup o hq hp (ra.append rb)⟩
        · subst z
          have ea : a = [] := List.eq_nil_of_length_eq_zero (by rw [ra.length]; rfl)
          subst ea
          exact same_w o hq (mkTup sb rb)
        · subst z
          have eb : b = [] := List.eq_nil_of_length_eq_zero (by rw [rb.length]; rfl)
          subst eb
          rw [List.append_nil] at hq
          exact same_w o hq (mkTup sa ra)
    | _ => cases hf
  | _ => cases hf
/-- what is read as a list -/
def Hd.list (η : Hd) (r : Nat) : Option (List D) := match η.get r with
  | some (.lst l) => some l
  | some (.frz l) => some l
  | _ => none
theorem list_of {K : PySem.W.Frag} {W : Wl} {r : Nat} {l : List D} (o : W.Ok K N.toNames) (h : W.η.list r = some l) : ∃ vs, SqL K W.H (W.μ r) vs ∧ RelDs W l vs ∧ l.length ≤ sizeLine := by
  unfold Hd.list at h
  cases e : W.η.get r with
  | none => rw [e] at h; cases h
  | some c =>
    have q := o.cell r c e
    rw [e] at h
    cases c with
    | lst l' => cases h; obtain ⟨vs, h1, h2, h3⟩ := q; exact ⟨vs, .inl (.inl h1), h2, h3⟩
    | frz l' => cases h; obtain ⟨vs, h1, h2, h3⟩ := q; exact ⟨vs, .inl (.inl h1), h2, h3⟩
    | _ => cases h
theorem opd_catL : OpR X (binaryOp .Add) (r2 X.K N fCatL) := OpR.imp op_cat fun x y H Q q => by
  obtain ⟨W, dx, dy, d, η', rfl, o, rx, ry, hf, hq⟩ := q
  cases dx with
  | ref r =>
    cases dy with
    | ref s =>
      simp only [fCatL] at hf
      cases e1 : W.η.get r with
      | none => rw [e1] at hf; cases hf
      | some c1 =>
        cases e2 : W.η.get s with
        | none => rw [e1, e2] at hf; cases c1 <;> cases hf
        | some c2 =>
          rw [e1, e2] at hf
          cases c1 with
          | lst a =>
            cases c2 with
            | lst b =>
              simp only at hf
              cases e : Nat.ble (a.length + b.length) line with
              | false => rw [e] at hf; cases hf
              | true =>
                rw [e] at hf
                simp only [Option.some.injEq, Prod.mk.injEq] at hf
                obtain ⟨rfl, rfl⟩ := hf
                obtain ⟨va, ha, ra, _⟩ := o.cell r _ e1
                obtain ⟨vb, hb, rb, _⟩ := o.cell s _ e2
                have hl : a.length + b.length ≤ sizeLine := Nat.le_of_ble_eq_true e
                rw [relRef rx, relRef ry]
                exact ⟨_, _, va, vb, rfl, rfl, ha, hb, by rw [← ra.length, ← rb.length]; exact hl, fun p hp => new_lst o hq hp (ra.append rb) (by rw [List.length_append]; exact hl)⟩
            | _ => cases hf
          | _ => cases hf
    | _ => cases hf
  | _ => cases hf
theorem opd_catS : OpR X (binaryOp .Add) (r2 X.K N fCatS) := OpR.imp op_add_str fun x y H Q q => by
  obtain ⟨W, dx, dy, d, η', rfl, o, rx, ry, hf, hq⟩ := q
  cases dx with
  | str a =>
    cases dy with
    | str b =>
      simp only [fCatS] at hf
      cases e : Nat.ble (a.length + b.length) line with
      | false => rw [e] at hf; cases hf
      | true =>
        rw [e] at hf
        simp only [Option.some.injEq, Prod.mk.injEq] at hf
        obtain ⟨rfl, rfl⟩ := hf
        rw [relStr rx, relStr ry]
        exact ⟨a, b, rfl, rfl, Nat.le_of_ble_eq_true e, same_w o hq mkStr'⟩
    | _ => cases hf
  | _ => cases hf
theorem RelDs.rep {W : Wl} {ds : List D} {vs : List V} (h : RelDs W ds vs) : ∀ n : Nat, RelDs W (List.replicate n ds).flatten (List.replicate n vs).flatten
  | 0 => .nil
  | n + 1 => by
    rw [List.replicate_succ, List.replicate_succ, List.flatten_cons, List.flatten_cons]
    exact h.append (RelDs.rep h n)
theorem len_rep (a : List D) : ∀ n : Nat, (List.replicate n a).flatten.length = n * a.length
  | 0 => by simp
  | n + 1 => by rw [List.replicate_succ, List.flatten_cons, List.length_append, len_rep a n, Nat.succ_mul, Nat.add_comm]
theorem opd_repL : OpR X (binaryOp .Mult) (r2 X.K N fRepL) := OpR.imp op_rep fun x y H Q q => by
  obtain ⟨W, dx, dy, d, η', rfl, o, rx, ry, hf, hq⟩ := q
  cases dx with
  | ref r =>
    cases dy with
    | int k =>
      simp only [fRepL] at hf
      cases e1 : W.η.get r with
      | none => rw [e1] at hf; cases hf
      | some c1 =>
        rw [e1] at hf
        cases c1 with
        | lst a =>
          simp only at hf
          cases e : Nat.ble k.natAbs 100000 with
          | false => rw [e] at hf; cases hf
          | true =>
            cases e' : Nat.ble (a.length * k.toNat) line with
            | false => rw [e, e'] at hf; cases hf
            | true =>
              rw [e, e'] at hf
              simp only [Option.some.injEq, Prod.mk.injEq] at hf
              obtain ⟨rfl, rfl⟩ := hf
              obtain ⟨va, ha, ra, _⟩ := o.cell r _ e1
              have hk : k.natAbs ≤ 100000 := Nat.le_of_ble_eq_true e
              have hl : a.length * k.toNat ≤ sizeLine := Nat.le_of_ble_eq_true e'
              rw [relRef rx, relInt ry]
              refine ⟨_, k, va, rfl, rfl, ha, by omega, by omega, by rw [← ra.length]; exact hl, fun p hp => new_lst o hq hp (ra.rep _) ?_⟩
              rw [len_rep, Nat.mul_comm]; exact hl
        | _ => cases hf
    | _ => cases hf
  | _ => cases hf

def iadd (i j : Int) : Int := i + j
def fAdd : F2 := fOr (fI2 iadd) (fOr fCatT (fOr fCatL fCatS))
theorem opd_add : OpR X (binaryOp .Add) (r2 X.K N fAdd) := opd_or (opd_int op_add fun _ _ => rfl) (opd_or opd_catT (opd_or opd_catL opd_catS))
def isub (i j : Int) : Int := i - j
def fSub : F2 := fI2 isub
theorem opd_sub : OpR X (binaryOp .Sub) (r2 X.K N fSub) := opd_int op_sub fun _ _ => rfl
def imul (i j : Int) : Int := i * j
def mulOk (i j : Int) : Bool := Nat.ble i.natAbs 1000000000000000000 || Nat.ble j.natAbs 1000000000000000000
theorem mulOk_ok (i j : Int) (h : mulOk i j = true) : CMul i j := by
  unfold mulOk at h
  rcases Bool.or_eq_true_iff.mp h with h | h
  · have := Nat.le_of_ble_eq_true h; exact .inl ⟨by omega, by omega⟩
  · have := Nat.le_of_ble_eq_true h; exact .inr ⟨by omega, by omega⟩
def fMul : F2 := fOr (fI2c mulOk imul) fRepL
theorem opd_mul : OpR X (binaryOp .Mult) (r2 X.K N fMul) := opd_or (opd_intc op_mul mulOk_ok fun _ _ => rfl) opd_repL
def idiv (i j : Int) : Int := i / j
def divOk (i j : Int) : Bool := match j with
  | .ofNat (n + 1) => Nat.ble n 1000000000
  | _ => false
theorem divOk_ok (i j : Int) (h : divOk i j = true) : CDiv i j := by
  unfold divOk at h
  split at h
  · rename_i n
    have := Nat.le_of_ble_eq_true h
    exact ⟨by show (0 : Int) < ((n + 1 : Nat) : Int); omega, by show ((n + 1 : Nat) : Int) < _; omega⟩
  · cases h
def fDiv : F2 := fI2c divOk idiv
theorem opd_div : OpR X (binaryOp .FloorDiv) (r2 X.K N fDiv) := opd_intc op_fdiv divOk_ok fun _ _ => rfl
def imod (i j : Int) : Int := i % j
def modOk (i j : Int) : Bool := match j with
  | .ofNat (_ + 1) => true
  | _ => false
theorem modOk_ok (i j : Int) (h : modOk i j = true) : 0 < j := by
  unfold modOk at h
  split at h
  · rename_i n; show (0 : Int) < ((n + 1 : Nat) : Int); omega
  · cases h
def fMod : F2 := fI2c modOk imod
theorem opd_mod : OpR X (binaryOp .Mod) (r2 X.K N fMod) := opd_intc op_mod modOk_ok fun _ _ => rfl
def ilt (i j : Int) : Bool := decide (i < j)
def igt (i j : Int) : Bool := decide (j < i)
def ige (i j : Int) : Bool := decide (j ≤ i)
theorem opd_lt : OpR X (compareOp .Lt) (r2 X.K N (fB2 ilt)) := opd_cmp op_lt fun _ _ => rfl
theorem opd_gt : OpR X (compareOp .Gt) (r2 X.K N (fB2 igt)) := opd_cmp op_gt fun _ _ => rfl
theorem opd_ge : OpR X (compareOp .GtE) (r2 X.K N (fB2 ige)) := opd_cmp op_ge fun _ _ => rfl
end
end DL

/-! ==, in -/
namespace DL
open PySem PySem.Spec L2

mutual
def toPy : D → PyData
  | .non => .none
  | .bl b => .bool b
  | .int i => .int i
  | .str x => .str x
  | .tup l => .tuple (toPys l)
  | .ftup l => .tuple (toPys l)
  | .ref _ => .none
def toPys : List D → List PyData
  | [] => []
  | d :: ds => toPy d :: toPys ds
end
/-- data without a cell, not deeper than n -/
def pur : Nat → D → Bool
  | _, .non => true
  | _, .bl _ => true
  | _, .int _ => true
  | _, .str x => PyData.strOk x
  | n + 1, .tup l => l.all (pur n)
  | n + 1, .ftup l => l.all (pur n)
  | _, _ => false
def purs (n : Nat) (l : List D) : Bool := l.all (pur n)
def ieq : Int → Int → Bool
  | .ofNat a, .ofNat b => Nat.beq a b
  | .negSucc a, .negSucc b => Nat.beq a b
  | _, _ => false
theorem ieq_eq (i j : Int) : ieq i j = (i == j) := by
  cases i with
  | ofNat a =>
    cases j with
    | ofNat b =>
      show Nat.beq a b = _
      by_cases h : a = b
      · subst h; simp
      · have h' : ¬ ((Int.ofNat a) = (Int.ofNat b)) := fun z => h (Int.ofNat.inj z)
        rw [beq_eq_false_iff_ne.mpr h']
        cases e : Nat.beq a b with
        | false => rfl
        | true => exact absurd (Nat.eq_of_beq_eq_true e) h
    | negSucc b =>
      have h' : ¬ (Int.ofNat a = Int.negSucc b) := by intro z; cases z
      rw [beq_eq_false_iff_ne.mpr h']; rfl
  | negSucc a =>
    cases j with
    | ofNat b =>
      have h' : ¬ (Int.negSucc a = Int.ofNat b) := by intro z; cases z
      rw [beq_eq_false_iff_ne.mpr h']; rfl
    | negSucc b =>
      show Nat.beq a b = _
      by_cases h : a = b
      · subst h; simp
      · have h' : ¬ ((Int.negSucc a) = (Int.negSucc b)) := fun z => h (Int.negSucc.inj z)
        rw [beq_eq_false_iff_ne.mpr h']
        cases e : Nat.beq a b with
        | false => rfl
        | true => exact absurd (Nat.eq_of_beq_eq_true e) h
def eqL (f : D → D → Bool) : List D → List D → Bool
  | [], [] => true
  | x :: xs, y :: ys => match f x y with
    | true => eqL f xs ys
    | false => false
  | _, _ => false
def eqn : Nat → D → D → Bool
  | _, .int i, .int j => ieq i j
  | _, .non, .non => true
  | _, .bl a, .bl b => a == b
  | _, .bl a, .int j => (if a then 1 else 0) == j
  | _, .int i, .bl b => i == (if b then 1 else 0)
  | _, .str x, .str y => x == y
  | n + 1, .tup a, .tup b => eqL (eqn n) a b
  | n + 1, .ftup a, .tup b => eqL (eqn n) a b
  | n + 1, .tup a, .ftup b => eqL (eqn n) a b
  | n + 1, .ftup a, .ftup b => eqL (eqn n) a b
  | _, _, _ => false
theorem eqn_py : ∀ (n : Nat) (x y : D), pur n x = true → pur n y = true → eqn n x y = PyData.eqv (toPy x) (toPy y) := by
  intro n
  induction n with
  | zero =>
    intro x y hx hy
    cases x with
    | tup l => cases hx
    | ftup l => cases hx
    | ref r => cases hx
    | non => cases y with
      | tup l => cases hy
      | ftup l => cases hy
      | ref r => cases hy
      | _ => simp [eqn, toPy, PyData.eqv]
    | bl b => cases y with
      | tup l => cases hy
      | ftup l => cases hy
      | ref r => cases hy
      | _ => simp [eqn, toPy, PyData.eqv]
    | int i => cases y with
      | tup l => cases hy
      | ftup l => cases hy
      | ref r => cases hy
      | int j => simp only [eqn, toPy, PyData.eqv]; exact ieq_eq i j
      | _ => simp [eqn, toPy, PyData.eqv]
    | str i => cases y with
      | tup l => cases hy
      | ftup l => cases hy
      | ref r => cases hy
      | _ => simp [eqn, toPy, PyData.eqv]
  | succ n ih =>
    intro x y hx hy
    have all : ∀ (a b : List D), a.all (pur n) = true → b.all (pur n) = true → eqL (eqn n) a b = PyData.eqvAll (toPys a) (toPys b) := by
      intro a
      induction a with
      | nil => intro b _ _; cases b <;> simp [eqL, toPys, PyData.eqvAll]
      | cons u us ihu =>
        intro b ha hb
        cases b with
        | nil => simp [eqL, toPys, PyData.eqvAll]
        | cons v vs =>
          simp only [List.all_cons, Bool.and_eq_true] at ha hb
          simp only [eqL, toPys, PyData.eqvAll]
          rw [← ih u v ha.1 hb.1, ← ihu vs ha.2 hb.2]
          cases eqn n u v <;> rfl
    cases x with
    | ref r => cases hx
    | tup l => cases y with
      | ref r => cases hy
      | tup l' => simp only [eqn, toPy, PyData.eqv]; exact all l l' hx hy
      | ftup l' => simp only [eqn, toPy, PyData.eqv]; exact all l l' hx hy
      | _ => simp [eqn, toPy, PyData.eqv]
    | ftup l => cases y with
      | ref r => cases hy
      | tup l' => simp only [eqn, toPy, PyData.eqv]; exact all l l' hx hy
      | ftup l' => simp only [eqn, toPy, PyData.eqv]; exact all l l' hx hy
      | _ => simp [eqn, toPy, PyData.eqv]
    | non => cases y with
      | ref r => cases hy
      | _ => simp [eqn, toPy, PyData.eqv]
    | bl b => cases y with
      | ref r => cases hy
      | _ => simp [eqn, toPy, PyData.eqv]
    | int i => cases y with
      | ref r => cases hy
      | int j => simp only [eqn, toPy, PyData.eqv]; exact ieq_eq i j
      | _ => simp [eqn, toPy, PyData.eqv]
    | str i => cases y with
      | ref r => cases hy
      | _ => simp [eqn, toPy, PyData.eqv]
theorem eqL_py (n : Nat) : ∀ (a b : List D), purs n a = true → purs n b = true → eqL (eqn n) a b = PyData.eqvAll (toPys a) (toPys b)
  | [], b, _, _ => by cases b <;> simp [eqL, toPys, PyData.eqvAll]
  | u :: us, [], _, _ => by simp [eqL, toPys, PyData.eqvAll]
  | u :: us, v :: vs, ha, hb => by
    simp only [purs, List.all_cons, Bool.and_eq_true] at ha hb
    simp only [eqL, toPys, PyData.eqvAll]
    rw [← eqn_py n u v ha.1 hb.1, ← eqL_py n us vs ha.2 hb.2]
    cases eqn n u v <;> rfl
/-- pure data is data in the machine -/
theorem pur_dp {K : PySem.W.Frag} {W : Wl} : ∀ (n : Nat) (d : D) (v : V), pur n d = true → RelD W d v → Dp K W.H v (toPy d) ∧ PyData.canLay0 (toPy d) = true ∧ PyData.depth (toPy d) ≤ n := by
  intro n
  induction n with
  | zero =>
    intro d v h r
    cases d with
    | tup l => cases h
    | ftup l => cases h
    | ref r => cases h
    | non => rw [RelD] at r; subst r; exact ⟨by rw [toPy]; exact .non, by simp [toPy, PyData.canLay0], by simp [toPy, PyData.depth]⟩
    | bl b => rw [RelD] at r; subst r; exact ⟨by rw [toPy]; exact .bl b, by simp [toPy, PyData.canLay0], by simp [toPy, PyData.depth]⟩
    | int b => rw [RelD] at r; subst r; exact ⟨by rw [toPy]; exact .int b, by simp [toPy, PyData.canLay0], by simp [toPy, PyData.depth]⟩
    | str b => rw [RelD] at r; subst r; exact ⟨by rw [toPy]; exact .str b, by simpa [toPy, PyData.canLay0, pur] using h, by simp [toPy, PyData.depth]⟩
  | succ n ih =>
    intro d v h r
    cases d with
    | ref r => cases h
    | non => rw [RelD] at r; subst r; exact ⟨by rw [toPy]; exact .non, by simp [toPy, PyData.canLay0], by simp [toPy, PyData.depth]⟩
    | bl b => rw [RelD] at r; subst r; exact ⟨by rw [toPy]; exact .bl b, by simp [toPy, PyData.canLay0], by simp [toPy, PyData.depth]⟩
    | int b => rw [RelD] at r; subst r; exact ⟨by rw [toPy]; exact .int b, by simp [toPy, PyData.canLay0], by simp [toPy, PyData.depth]⟩
    | str b => rw [RelD] at r; subst r; exact ⟨by rw [toPy]; exact .str b, by simpa [toPy, PyData.canLay0, pur] using h, by simp [toPy, PyData.depth]⟩
    | ftup l =>
      obtain ⟨a, vs, ob, rfl, hs, _, rs⟩ := relFtup r
      have all : ∀ (l : List D) (vs : List V), l.all (pur n) = true → RelDs W l vs → DpAll K W.H vs (toPys l) ∧ PyData.canLayAll0 (toPys l) = true ∧ PyData.depthAll (toPys l) ≤ n := by
        intro l
        induction l with
        | nil => intro vs _ r; rw [RelDs] at r; subst r; exact ⟨by rw [toPys]; exact .nil, by simp [toPys, PyData.canLayAll0], by simp [toPys, PyData.depthAll]⟩
        | cons x xs ihx =>
          intro vs h r
          rw [RelDs] at r
          obtain ⟨v, vs', rfl, r1, r2⟩ := r
          simp only [List.all_cons, Bool.and_eq_true] at h
          obtain ⟨h1, h2, h3⟩ := ih x v h.1 r1
          obtain ⟨h4, h5, h6⟩ := ihx vs' h.2 r2
          exact ⟨by rw [toPys]; exact .cons h1 h4, by simp [toPys, PyData.canLayAll0, h2, h5], by simp only [toPys, PyData.depthAll]; omega⟩
      obtain ⟨h1, h2, h3⟩ := all l vs h rs
      exact ⟨by rw [toPy]; exact .tup (.inl (.inr ⟨ob, hs⟩)) h1, by simpa [toPy, PyData.canLay0] using h2, by simp only [toPy, PyData.depth]; omega⟩
    | tup l =>
      obtain ⟨a, vs, rfl, hs, rs⟩ := relTup r
      have all : ∀ (l : List D) (vs : List V), l.all (pur n) = true → RelDs W l vs → DpAll K W.H vs (toPys l) ∧ PyData.canLayAll0 (toPys l) = true ∧ PyData.depthAll (toPys l) ≤ n := by
        intro l
        induction l with
        | nil => intro vs _ r; rw [RelDs] at r; subst r; exact ⟨by rw [toPys]; exact .nil, by simp [toPys, PyData.canLayAll0], by simp [toPys, PyData.depthAll]⟩
        | cons x xs ihx =>
          intro vs h r
          rw [RelDs] at r
          obtain ⟨v, vs', rfl, r1, r2⟩ := r
          simp only [List.all_cons, Bool.and_eq_true] at h
          obtain ⟨h1, h2, h3⟩ := ih x v h.1 r1
          obtain ⟨h4, h5, h6⟩ := ihx vs' h.2 r2
          exact ⟨by rw [toPys]; exact .cons h1 h4, by simp [toPys, PyData.canLayAll0, h2, h5], by simp only [toPys, PyData.depthAll]; omega⟩
      obtain ⟨h1, h2, h3⟩ := all l vs h rs
      exact ⟨by rw [toPy]; exact .tup (SqT.of hs) h1, by simpa [toPy, PyData.canLay0] using h2, by simp only [toPy, PyData.depth]; omega⟩
theorem purs_dp {K : PySem.W.Frag} {W : Wl} (n : Nat) : ∀ (l : List D) (vs : List V), purs n l = true → RelDs W l vs → DpAll K W.H vs (toPys l) ∧ PyData.canLayAll0 (toPys l) = true ∧ PyData.depthAll (toPys l) ≤ n
  | [], vs, _, r => by rw [RelDs] at r; subst r; exact ⟨by rw [toPys]; exact .nil, by simp [toPys, PyData.canLayAll0], by simp [toPys, PyData.depthAll]⟩
  | x :: xs, vs, h, r => by
    rw [RelDs] at r
    obtain ⟨v, vs', rfl, r1, r2⟩ := r
    simp only [purs, List.all_cons, Bool.and_eq_true] at h
    obtain ⟨h1, h2, h3⟩ := pur_dp (K := K) n x v h.1 r1
    obtain ⟨h4, h5, h6⟩ := purs_dp n xs vs' h.2 r2
    exact ⟨by rw [toPys]; exact .cons h1 h4, by simp [toPys, PyData.canLayAll0, h2, h5], by simp only [toPys, PyData.depthAll]; omega⟩
theorem shaped_of {d : PyData} (h : d.canLay0 = true) (h2 : d.depth ≤ 64) : SeqAt.shaped d = true := by simp [SeqAt.shaped, h, h2]

/-- what two values' == tells -/
def eqF (η : Hd) : D → D → Option Bool
  | .ref r, .ref s => match η.list r, η.list s with
    | some a, some b => match purs 8 a, purs 8 b with
      | true, true => some (eqL (eqn 8) a b)
      | _, _ => none
    | _, _ => none
  | .ref r, y => match η.list r with
    | some a => match purs 8 a, pur 8 y with
      | true, true => some false
      | _, _ => none
    | _ => none
  | x, .ref r => match η.list r with
    | some a => match purs 8 a, pur 8 x with
      | true, true => some false
      | _, _ => none
    | _ => none
  | x, y => match pur 8 x, pur 8 y with
    | true, true => some (eqn 8 x y)
    | _, _ => none
/-- data of a value: pure, or a list of pure ones -/
def pyOf (η : Hd) : D → Option PyData
  | .ref r => match η.list r with
    | some a => match purs 8 a with
      | true => some (.list (toPys a))
      | false => none
    | none => none
  | x => match pur 8 x with
    | true => some (toPy x)
    | false => none
section
variable {X : Cx} {N : Nm} {E : XK} {K : PySem.W.Frag} {W : Wl}
theorem pyOf_dp (o : W.Ok K N.toNames) {d : D} {v : V} {p : PyData} (r : RelD W d v) (h : pyOf W.η d = some p) : Dp K W.H v p ∧ SeqAt.shaped p = true := by
  have flat : ∀ {d : D}, RelD W d v → pur 8 d = true → some (toPy d) = some p → Dp K W.H v p ∧ SeqAt.shaped p = true := fun {d} r hh e => by
    cases e
    obtain ⟨h1, h2, h3⟩ := pur_dp (K := K) 8 d v hh r
    exact ⟨h1, shaped_of h2 (by omega)⟩
  cases d with
  | ref q =>
    simp only [pyOf] at h
    cases e : W.η.list q with
    | none => rw [e] at h; cases h
    | some a =>
      rw [e] at h
      simp only at h
      cases e2 : purs 8 a with
      | false => rw [e2] at h; cases h
      | true =>
        rw [e2] at h
        cases h
        obtain ⟨vs, h1, h2, h3⟩ := list_of o e
        obtain ⟨g1, g2, g3⟩ := purs_dp (K := K) 8 a vs e2 h2
        rw [relRef r]
        refine ⟨.lst h1 g1, shaped_of (by simpa [PyData.canLay0] using g2) (by simp only [PyData.depth]; omega)⟩
  | non => exact flat r rfl h
  | bl b => exact flat r rfl h
  | int b => exact flat r rfl h
  | str b =>
    simp only [pyOf] at h
    cases e : pur 8 (.str b) with
    | false => rw [e] at h; cases h
    | true => rw [e] at h; exact flat r e h
  | tup b =>
    simp only [pyOf] at h
    cases e : pur 8 (.tup b) with
    | false => rw [e] at h; cases h
    | true => rw [e] at h; exact flat r e h
  | ftup b =>
    simp only [pyOf] at h
    cases e : pur 8 (.ftup b) with
    | false => rw [e] at h; cases h
    | true => rw [e] at h; exact flat r e h
theorem toPy_nolist : ∀ (x : D) (l : List PyData), PyData.eqv (.list l) (toPy x) = false ∧ PyData.eqv (toPy x) (.list l) = false := by
  intro x l
  cases x <;> simp [toPy, PyData.eqv]
theorem eqF_py {η : Hd} {x y : D} {b : Bool} (h : eqF η x y = some b) : ∃ p q, pyOf η x = some p ∧ pyOf η y = some q ∧ PyData.eqv p q = b := by
  have flat : ∀ {x y : D}, (∀ r, x ≠ .ref r) → (∀ r, y ≠ .ref r) → (match pur 8 x, pur 8 y with | true, true => some (eqn 8 x y) | _, _ => none) = some b → ∃ p q, pyOf η x = some p ∧ pyOf η y = some q ∧ PyData.eqv p q = b := by
    intro x y nx ny h
    cases ex : pur 8 x with
    | false => rw [ex] at h; cases h
    | true =>
      cases ey : pur 8 y with
      | false => rw [ex, ey] at h; cases h
      | true =>
        rw [ex, ey] at h
        cases h
        refine ⟨toPy x, toPy y, ?_, ?_, (eqn_py 8 x y ex ey).symm⟩
        · cases x <;> first | exact absurd rfl (nx _) | (simp only [pyOf, ex])
        · cases y <;> first | exact absurd rfl (ny _) | (simp only [pyOf, ey])
  have one : ∀ {r : Nat} {y : D}, (∀ r, y ≠ .ref r) → (match η.list r with | some a => (match purs 8 a, pur 8 y with | true, true => some false | _, _ => none) | _ => none) = some b →
      b = false ∧ ∃ l, pyOf η (.ref r) = some (.list l) ∧ pyOf η y = some (toPy y) := by
    intro r y ny h
    cases e : η.list r with
    | none => rw [e] at h; cases h
    | some a =>
      rw [e] at h
      simp only at h
      cases ex : purs 8 a with
      | false => rw [ex] at h; cases h
      | true =>
        cases ey : pur 8 y with
        | false => rw [ex, ey] at h; cases h
        | true =>
          rw [ex, ey] at h
          cases h
          refine ⟨rfl, toPys a, by simp only [pyOf, e, ex], ?_⟩
          cases y <;> first | exact absurd rfl (ny _) | (simp only [pyOf, ey])
  cases x with
  | ref r =>
    cases y with
    | ref s =>
      simp only [eqF] at h
      cases e1 : η.list r with
      | none => rw [e1] at h; cases h
      | some a =>
        cases e2 : η.list s with
        | none => rw [e1, e2] at h; cases h
        | some c =>
          rw [e1, e2] at h
          simp only at h
          cases ex : purs 8 a with
          | false => rw [ex] at h; cases h
          | true =>
            cases ey : purs 8 c with
            | false => rw [ex, ey] at h; cases h
            | true =>
              rw [ex, ey] at h
              cases h
              refine ⟨.list (toPys a), .list (toPys c), by simp only [pyOf, e1, ex], by simp only [pyOf, e2, ey], ?_⟩
              simp only [PyData.eqv]; exact (eqL_py 8 a c ex ey).symm
    | _ =>
      simp only [eqF] at h
      obtain ⟨rfl, l, h1, h2⟩ := one (by intro r z; cases z) h
      exact ⟨_, _, h1, h2, (toPy_nolist _ l).1⟩
  | non =>
    cases y with
    | ref s =>
      simp only [eqF] at h
      obtain ⟨rfl, l, h1, h2⟩ := one (by intro r z; cases z) h
      exact ⟨_, _, h2, h1, (toPy_nolist _ l).2⟩
    | _ => exact flat (by intro r z; cases z) (by intro r z; cases z) h
  | bl b =>
    cases y with
    | ref s =>
      simp only [eqF] at h
      obtain ⟨rfl, l, h1, h2⟩ := one (by intro r z; cases z) h
      exact ⟨_, _, h2, h1, (toPy_nolist _ l).2⟩
    | _ => exact flat (by intro r z; cases z) (by intro r z; cases z) h
  | int b =>
    cases y with
    | ref s =>
      simp only [eqF] at h
      obtain ⟨rfl, l, h1, h2⟩ := one (by intro r z; cases z) h
      exact ⟨_, _, h2, h1, (toPy_nolist _ l).2⟩
    | _ => exact flat (by intro r z; cases z) (by intro r z; cases z) h
  | str b =>
    cases y with
    | ref s =>
      simp only [eqF] at h
      obtain ⟨rfl, l, h1, h2⟩ := one (by intro r z; cases z) h
      exact ⟨_, _, h2, h1, (toPy_nolist _ l).2⟩
    | _ => exact flat (by intro r z; cases z) (by intro r z; cases z) h
  | ftup b =>
    cases y with
    | ref s =>
      simp only [eqF] at h
      obtain ⟨rfl, l, h1, h2⟩ := one (by intro r z; cases z) h
      exact ⟨_, _, h2, h1, (toPy_nolist _ l).2⟩
    | _ => exact flat (by intro r z; cases z) (by intro r z; cases z) h
  | tup b =>
    cases y with
    | ref s =>
      simp only [eqF] at h
      obtain ⟨rfl, l, h1, h2⟩ := one (by intro r z; cases z) h
      exact ⟨_, _, h2, h1, (toPy_nolist _ l).2⟩
    | _ => exact flat (by intro r z; cases z) (by intro r z; cases z) h
def fEq : F2 := fun x y η => match eqF η x y with
  | some b => some (.bl b, η)
  | none => none
def fNe : F2 := fun x y η => match eqF η x y with
  | some b => some (.bl (!b), η)
  | none => none
theorem opd_eq (hu : X.A.units + 64 < cLine) : OpR X (compareOp .Eq) (r2 X.K N fEq) := OpR.imp (op_eqD hu) fun x y H Q q => by
  obtain ⟨W, dx, dy, d, η', rfl, o, rx, ry, hf, hq⟩ := q
  unfold fEq at hf
  cases e : eqF W.η dx dy with
  | none => rw [e] at hf; cases hf
  | some b =>
    rw [e] at hf
    simp only [Option.some.injEq, Prod.mk.injEq] at hf
    obtain ⟨rfl, rfl⟩ := hf
    obtain ⟨p, q, h1, h2, rfl⟩ := eqF_py e
    obtain ⟨a1, a2⟩ := pyOf_dp o rx h1
    obtain ⟨b1, b2⟩ := pyOf_dp o ry h2
    exact ⟨p, q, a1, b1, a2, b2, same_w o hq mkBl⟩
theorem opd_ne (hu : X.A.units + 64 < cLine) : OpR X (compareOp .NotEq) (r2 X.K N fNe) := OpR.imp (op_neD hu) fun x y H Q q => by
  obtain ⟨W, dx, dy, d, η', rfl, o, rx, ry, hf, hq⟩ := q
  unfold fNe at hf
  cases e : eqF W.η dx dy with
  | none => rw [e] at hf; cases hf
  | some b =>
    rw [e] at hf
    simp only [Option.some.injEq, Prod.mk.injEq] at hf
    obtain ⟨rfl, rfl⟩ := hf
    obtain ⟨p, q, h1, h2, rfl⟩ := eqF_py e
    obtain ⟨a1, a2⟩ := pyOf_dp o rx h1
    obtain ⟨b1, b2⟩ := pyOf_dp o ry h2
    exact ⟨p, q, a1, b1, a2, b2, same_w o hq mkBl⟩
/-! in: lists and tuples of pure data -/
end
end DL

/-! expressions -/
namespace DL
open PySem PySem.Spec L2
section
variable {X : Cx} {N : Nm} {E : XK}

/-! ### arguments, displays -/
def cNil : CA := fun _ η k _ => k [] η
def cCons (a : CE) (r : CA) : CA := fun σ η k kx => a σ η (fun x η1 => r σ η1 (fun xs η2 => k (x :: xs) η2) kx) kx
theorem ja_nil : JA X N E [] cNil := PA.imp pa_nil fun σ H Q q => by
  obtain ⟨W, σd, kv, kx, rfl, o, s, h, hv, hx⟩ := q
  exact hv W [] [] (Ext.refl W) o .nil h
theorem ja_cons {e : Expr} {es : List Expr} {c : CE} {cs : CA} (ha : JE X N E e c) (hr : JA X N E es cs) (hs : starEach (e :: es) X.env = (false, eval e X.env) :: starEach es X.env := by rfl) : JA X N E (e :: es) (cCons c cs) :=
  PA.imp (pa_cons ha hr hs) fun σ H Q q => by
    obtain ⟨W, σd, kv, kx, rfl, o, s, h, hv, hx⟩ := q
    refine tE.bind o s hx h fun W1 d v x1 o1 r1 s1 hx1 h1 => ?_
    refine tAr.bind o1 s1 hx1 h1 fun W2 ds vs x2 o2 r2 s2 hx2 h2 => ?_
    exact hv W2 (d :: ds) (v :: vs) (x1.trans o o1 x2) o2 (.cons (r1.mono o1 x2) r2) h2
def cTup (a : CA) : CE := fun σ η kv kx => a σ η (fun ds η1 => match Nat.ble ds.length line with
  | true => kv (.tup ds) η1
  | false => false) kx
def cLst (a : CA) : CE := fun σ η kv kx => a σ η (fun ds η1 => match Nat.ble ds.length line with
  | true => kv (.ref η1.nx) (η1.new (.lst ds))
  | false => false) kx
theorem Vk.tup {K : PySem.W.Frag} {W W0 : Wl} {kv : KV} {Q : VK} {ds : List D} {vs : List V} {p : Addr} (o : W.Ok K N.toNames) (hv : Vk K N W kv Q) (h : kv (.tup ds) W.η = true) (hp : W.H p = none) (r : RelDs W ds vs) : Q (.ref p) (upd W.H p (.tup vs)) :=
  new_tup (N := N) o (fun W' v x o' e r' => hv W' _ v x o' r' (by rw [e]; exact h)) hp r
theorem Vk.lst {K : PySem.W.Frag} {W : Wl} {kv : KV} {Q : VK} {ds : List D} {vs : List V} {p : Addr} (o : W.Ok K N.toNames) (hv : Vk K N W kv Q) (h : kv (.ref W.η.nx) (W.η.new (.lst ds)) = true) (hp : W.H p = none) (r : RelDs W ds vs) (hl : ds.length ≤ sizeLine) : Q (.ref p) (upd W.H p (.lst vs)) :=
  new_lst (N := N) o (fun W' v x o' e r' => hv W' _ v x o' r' (by rw [e]; exact h)) hp r hl
theorem je_tup {es : List Expr} {x1 : Nat} {pos : Pos} {c : CA} (h : JA X N E es c) : JE X N E (.Tuple es x1 pos) (cTup c) := PE.imp (pe_tup h) fun σ H Q q => by
  obtain ⟨W, σd, kv, kx, rfl, o, s, h, hv, hx⟩ := q
  refine tAr.bind o s hx h fun W1 ds vs x1 o1 r1 s1 hx1 h1 => ?_
  cases e : Nat.ble ds.length line with
  | false => rw [e] at h1; cases h1
  | true =>
    rw [e] at h1
    exact ⟨by rw [← r1.length]; exact Nat.le_of_ble_eq_true e, fun p hp => Vk.tup (W0 := W) o1 (hv.mono o o1 x1) h1 hp r1⟩
theorem je_lst {es : List Expr} {pos : Pos} {c : CA} (h : JA X N E es c) : JE X N E (.List es pos) (cLst c) := PE.imp (pe_lst h) fun σ H Q q => by
  obtain ⟨W, σd, kv, kx, rfl, o, s, h, hv, hx⟩ := q
  refine tAr.bind o s hx h fun W1 ds vs x1 o1 r1 s1 hx1 h1 => ?_
  cases e : Nat.ble ds.length line with
  | false => rw [e] at h1; cases h1
  | true =>
    rw [e] at h1
    have hl : ds.length ≤ sizeLine := Nat.le_of_ble_eq_true e
    exact ⟨by rw [← r1.length]; exact hl, fun p hp => Vk.lst o1 (hv.mono o o1 x1) h1 hp r1 hl⟩

/-! ### unary -/
def cNeg (a : CE) : CE := fun σ η kv kx => a σ η (fun x η1 => match x with
  | .int i => kv (.int (Int.neg i)) η1
  | _ => false) kx
theorem je_neg {a : Expr} {c : CE} {pos : Pos} (h : JE X N E a c) : JE X N E (.UnaryOp .USub a pos) (cNeg c) := PE.imp (pe_un un_neg h) fun σ H Q q => by
  obtain ⟨W, σd, kv, kx, rfl, o, s, h, hv, hx⟩ := q
  refine tE.bind o s hx h fun W1 d v x1 o1 r1 s1 hx1 h1 => ?_
  cases d with
  | int i => rw [relInt r1]; exact ⟨i, rfl, (hv.mono o o1 x1).here o1 mkInt h1⟩
  | _ => cases h1
/-! ### tests -/
def cTst (a : CE) : CT := fun σ η k kx => a σ η (fun x η1 => match x with
  | .bl b => k b η1
  | _ => false) kx
def ctAnd (a b : CT) : CT := fun σ η k kx => a σ η (fun x η1 => match x with
  | true => b σ η1 k kx
  | false => k false η1) kx
def ctOr (a b : CT) : CT := fun σ η k kx => a σ η (fun x η1 => match x with
  | true => k true η1
  | false => b σ η1 k kx) kx
def JW (X : Cx) (N : Nm) (E : XK) (e : Expr) (c : CT) : Prop := PW X e (tT X.K N E c)
theorem jt_of {e : Expr} {c : CT} (h : JW X N E e c) : JT X N E e c := PW.pt h
theorem jw_and1 {a : Expr} {c : CT} {pos : Pos} (h : JT X N E a c) : JW X N E (.BoolOp .And [a] pos) c := pw_and1 h
theorem jw_or1 {a : Expr} {c : CT} {pos : Pos} (h : JT X N E a c) : JW X N E (.BoolOp .Or [a] pos) c := pw_or1 h
theorem jw_and {a b : Expr} {rest : List Expr} {c d : CT} {pos : Pos} (h : JT X N E a c) (h2 : JW X N E (.BoolOp .And (b :: rest) pos) d) : JW X N E (.BoolOp .And (a :: b :: rest) pos) (ctAnd c d) := PW.imp (pw_and h h2) fun σ H Q q => by
  obtain ⟨W, σd, kv, kx, rfl, o, s, h, hv, hx⟩ := q
  refine tT.bind o s hx h fun W1 b x1 o1 s1 hx1 h1 => ?_
  cases b with
  | true => rw [if_pos rfl]; exact tT.bind o1 s1 hx1 h1 fun W2 b2 x2 o2 _ _ h2 => hv W2 b2 (x1.trans o o1 x2) o2 h2
  | false => rw [if_neg (by decide)]; exact hv W1 false x1 o1 h1
theorem jw_or {a b : Expr} {rest : List Expr} {c d : CT} {pos : Pos} (h : JT X N E a c) (h2 : JW X N E (.BoolOp .Or (b :: rest) pos) d) : JW X N E (.BoolOp .Or (a :: b :: rest) pos) (ctOr c d) := PW.imp (pw_or h h2) fun σ H Q q => by
  obtain ⟨W, σd, kv, kx, rfl, o, s, h, hv, hx⟩ := q
  refine tT.bind o s hx h fun W1 b x1 o1 s1 hx1 h1 => ?_
  cases b with
  | true => rw [if_pos rfl]; exact hv W1 true x1 o1 h1
  | false => rw [if_neg (by decide)]; exact tT.bind o1 s1 hx1 h1 fun W2 b2 x2 o2 _ _ h2 => hv W2 b2 (x1.trans o o1 x2) o2 h2
def cIf (t : CT) (a b : CE) : CE := fun σ η kv kx => t σ η (fun x η1 => match x with
  | true => a σ η1 kv kx
  | false => b σ η1 kv kx) kx
theorem je_if {c a b : Expr} {ct : CT} {ca cb : CE} {pos : Pos} (hc : JT X N E c ct) (ha : JE X N E a ca) (hb : JE X N E b cb) : JE X N E (.IfExp c a b pos) (cIf ct ca cb) := PE.imp (pe_ifExp hc ha hb) fun σ H Q q => by
  obtain ⟨W, σd, kv, kx, rfl, o, s, h, hv, hx⟩ := q
  refine tT.bind o s hx h fun W1 b x1 o1 s1 hx1 h1 => ?_
  cases b with
  | true => rw [if_pos rfl]; exact tE.bind o1 s1 hx1 h1 fun W2 d2 v2 x2 o2 r2 _ _ h2 => hv W2 d2 v2 (x1.trans o o1 x2) o2 r2 h2
  | false => rw [if_neg (by decide)]; exact tE.bind o1 s1 hx1 h1 fun W2 d2 v2 x2 o2 r2 _ _ h2 => hv W2 d2 v2 (x1.trans o o1 x2) o2 r2 h2
/-- a < b < c -/
def cChain (f g : F2) (a b c : CE) : CE := fun σ η kv kx => a σ η (fun x η1 => b σ η1 (fun y η2 => match f x y η2 with
  | some (.bl true, η3) => c σ η3 (fun z η4 => match g y z η4 with
    | some (d, η5) => kv d η5
    | none => false) kx
  | some (.bl false, η3) => kv (.bl false) η3
  | _ => false) kx) kx
theorem tChain_of {f g : F2} {ca cb cc : CE} {K : PySem.W.Frag} {σ : St} {H : Hp} {Q : VK} (h : tE K N E (cChain f g ca cb cc) σ H Q) : tChain (r2 K N f) (r2 K N g) (tE K N E ca) (tE K N E cb) (tE K N E cc) σ H Q := by
  obtain ⟨W, σd, kv, kx, rfl, o, s, h, hv, hx⟩ := h
  refine tE.bind o s hx h fun W1 dx x x1 o1 r1 s1 hx1 h1 => ?_
  refine tE.bind o1 s1 hx1 h1 fun W2 dy y x2 o2 r2' s2 hx2 h2 => ?_
  have x02 := x1.trans o o1 x2
  cases e : f dx dy W2.η with
  | none => rw [e] at h2; cases h2
  | some p =>
    obtain ⟨d, η'⟩ := p
    rw [e] at h2
    refine ⟨W2, dx, dy, d, η', rfl, o2, r1.mono o1 x2, r2', e, fun W3 v x3 o3 e3 r3 => ?_⟩
    cases d with
    | bl b =>
      rw [relBl r3]
      cases b with
      | true =>
        refine ⟨true, rfl, ?_⟩
        rw [if_pos rfl]
        refine tE.bind o3 (s2.mono o2 x3) (hx2.mono o2 o3 x3) (by rw [e3]; exact h2) fun W4 dz z x4 o4 r4 s4 hx4 h4 => ?_
        have ry : RelD W4 dy y := (r2'.mono o2 x3).mono o3 x4
        cases e4 : g dy dz W4.η with
        | none => rw [e4] at h4; cases h4
        | some p =>
          obtain ⟨d, η'⟩ := p
          rw [e4] at h4
          exact ⟨W4, dy, dz, d, η', rfl, o4, ry, r4, e4, fun W5 v x5 o5 e5 r5 => hv W5 d v (x02.trans o o2 (x3.trans o2 o3 (x4.trans o3 o4 x5))) o5 r5 (by rw [e5]; exact h4)⟩
      | false =>
        refine ⟨false, rfl, ?_⟩
        rw [if_neg (by decide)]
        exact (hv.mono o o3 (x02.trans o o2 x3)).here o3 mkBl (by rw [e3]; exact h2)
    | _ => cases h2
end
end DL

/-! tests by comparison, subscripts, slices, built-ins, methods -/
namespace DL
open PySem PySem.Spec L2
section
variable {X : Cx} {N : Nm} {E : XK}
theorem tTest_of {c : CE} {K : PySem.W.Frag} {σ : St} {H : Hp} {Q : Bool → Hp → Prop} (h : tT K N E (cTst c) σ H Q) : tE K N E c σ H (fun x H' => ∃ k, x = .bl k ∧ Q k H') := by
  obtain ⟨W, σd, kv, kx, rfl, o, s, h, hv, hx⟩ := h
  refine tE.bind o s hx h fun W1 d v x1 o1 r1 s1 hx1 h1 => ?_
  cases d with
  | bl i => rw [relBl r1]; exact ⟨i, rfl, hv W1 i x1 o1 h1⟩
  | _ => cases h1
theorem jt_cmp {op : CmpOp} {f : F2} {a b : Expr} {ca cb : CE} {pos : Pos} (ho : OpR X (compareOp op) (r2 X.K N f)) (ha : JE X N E a ca) (hb : JE X N E b cb) (hm : behindInMarks op b = false) : JT X N E (.Compare a [op] [b] pos) (cTst (cOp f ca cb)) :=
  PT.imp (pt_cmpR ho ha hb hm) fun σ H Q q => tOp_of (tTest_of q)
theorem jt_chain {op op' : CmpOp} {f g : F2} {a b c : Expr} {ca cb cc : CE} {pos : Pos} (ho : OpR X (compareOp op) (r2 X.K N f)) (ho' : OpR X (compareOp op') (r2 X.K N g)) (ha : JE X N E a ca) (hb : JE X N E b cb) (hc : JE X N E c cc)
    (hm : lastMarks [op, op'] [b, c] = false := by with_unfolding_all rfl) : JT X N E (.Compare a [op, op'] [b, c] pos) (cTst (cChain f g ca cb cc)) :=
  PT.imp (pt_chain ho ho' ha hb hc hm) fun σ H Q q => tChain_of (tTest_of q)

/-! ### subscripts -/
def atD (l : List D) : Int → Option D
  | .ofNat n => l[n]?
  | .negSucc n => match Nat.ble (n + 1) l.length with
    | true => l[l.length - (n + 1)]?
    | false => none
theorem atD_atI {W : Wl} {l : List D} {vs : List V} {i : Int} {d : D} (r : RelDs W l vs) (h : atD l i = some d) : ∃ v, atI vs i = some v ∧ RelD W d v := by
  have hl := r.length
  cases i with
  | ofNat n =>
    have h' : l[n]? = some d := h
    obtain ⟨v, e, rv⟩ := r.get' h'
    have hn : n < vs.length := (List.getElem?_eq_some_iff.mp e).1
    refine ⟨v, ?_, rv⟩
    unfold atI ixN
    rw [if_pos (show (0 : Int) ≤ Int.ofNat n from Int.natCast_nonneg n), if_pos (show Int.ofNat n < (vs.length : Int) from by show ((n : Nat) : Int) < _; omega)]
    exact e
  | negSucc n =>
    simp only [atD] at h
    cases e : Nat.ble (n + 1) l.length with
    | false => rw [e] at h; cases h
    | true =>
      rw [e] at h
      have hb : n + 1 ≤ l.length := Nat.le_of_ble_eq_true e
      obtain ⟨v, ev, rv⟩ := r.get' h
      refine ⟨v, ?_, rv⟩
      unfold atI ixN
      have e1 : Int.negSucc n = -((n + 1 : Nat) : Int) := rfl
      rw [if_neg (show ¬ (0 : Int) ≤ Int.negSucc n from by rw [e1]; omega), if_pos (show -(vs.length : Int) ≤ Int.negSucc n from by rw [e1]; omega)]
      have e2 : (Int.negSucc n + (vs.length : Int)).toNat = l.length - (n + 1) := by rw [e1]; omega
      show vs[(Int.negSucc n + (vs.length : Int)).toNat]? = some v
      rw [e2]; exact ev
/-- the value under a key -/
def eqK1 : D → D → Bool
  | .int i, .int j => ieq i j
  | .str a, .str b => decide (a = b)
  | _, _ => false
def eqK : D → D → Bool
  | .tup a, .tup b => eqL eqK1 a b
  | x, y => eqK1 x y
def isKey : Bool → D → Bool
  | false, .int _ => true
  | false, .str _ => true
  | true, .tup l => l.all fun x => match x with
    | .int _ => true
    | .str _ => true
    | _ => false
  | _, _ => false
def dlook (k : D) : List (D × D) → Option D
  | [] => none
  | p :: r => match eqK p.1 k with
    | true => some p.2
    | false => dlook k r
theorem ieq_iff {i j : Int} : ieq i j = true ↔ i = j := by rw [ieq_eq]; exact beq_iff_eq
theorem key0_eq {x y : D} {a b : Key} (hx : D.key x = some a) (hy : D.key y = some b) : eqK1 x y = decide (a = b) := by
  cases x with
  | int i =>
    cases hx
    cases y with
    | int j =>
      cases hy
      show ieq i j = decide ((Sum.inl i : Key) = Sum.inl j)
      rw [ieq_eq, key_ll]
    | str s => cases hy; exact (key_lr i s).symm
    | _ => cases hy
  | str s =>
    cases hx
    cases y with
    | int j => cases hy; exact (key_rl s j).symm
    | str t => cases hy; exact (key_rr s t).symm
    | _ => cases hy
  | _ => cases hx
theorem key1_eq {x y : D} {a b : Key} (hx : D.key x = some a) (hy : D.key y = some b) : eqK x y = decide (a = b) := by
  rw [← key0_eq hx hy]
  cases x <;> cases y <;> first | rfl | (cases hx) | (cases hy)
theorem keysOf_cons {x : D} {xs : List D} {a : List Key} (h : keysOf (x :: xs) = some a) : ∃ k ks, a = k :: ks ∧ D.key x = some k ∧ keysOf xs = some ks := by
  simp only [keysOf] at h
  cases e : D.key x with
  | none => rw [e] at h; cases h
  | some k =>
    cases e2 : keysOf xs with
    | none => rw [e, e2] at h; cases h
    | some ks => rw [e, e2] at h; cases h; exact ⟨k, ks, rfl, rfl, rfl⟩
theorem keyT_eq : ∀ {l m : List D} {a b : List Key}, keysOf l = some a → keysOf m = some b → eqK (.tup l) (.tup m) = decide (a = b)
  | [], m, a, b, hx, hy => by
    cases hx
    cases m with
    | nil => cases hy; rfl
    | cons y ys => obtain ⟨k, ks, rfl, _, _⟩ := keysOf_cons hy; simp [eqK, eqL]
  | x :: xs, m, a, b, hx, hy => by
    obtain ⟨k, ks, rfl, h1, h2⟩ := keysOf_cons hx
    cases m with
    | nil => cases hy; simp [eqK, eqL]
    | cons y ys =>
      obtain ⟨k', ks', rfl, g1, g2⟩ := keysOf_cons hy
      have e1 := key0_eq h1 g1
      have e2 : eqL eqK1 xs ys = decide (ks = ks') := keyT_eq h2 g2
      show eqL eqK1 (x :: xs) (y :: ys) = _
      unfold eqL
      rw [e1]
      by_cases hk : k = k'
      · rw [decide_eq_true hk]
        show eqL eqK1 xs ys = _
        rw [e2]
        by_cases hks : ks = ks'
        · rw [decide_eq_true hks, decide_eq_true (by rw [hk, hks])]
        · rw [decide_eq_false hks, decide_eq_false (by intro z; cases z; exact hks rfl)]
      · rw [decide_eq_false hk]
        exact (decide_eq_false (by intro z; cases z; exact hk rfl)).symm
theorem dlookK {W : Wl} {k : D} {k' : Key} (hk : D.key k = some k') : ∀ {kvs : List (D × D)} {ps : List (Key × V)}, RelK W kvs ps → (∀ d, dlook k kvs = some d → ∃ v, valV ps k' = some v ∧ RelD W d v) ∧ (dlook k kvs = none → valV ps k' = none)
  | [], ps, h => by rw [RelK] at h; subst h; exact ⟨fun d e => (nomatch e), fun _ => rfl⟩
  | (a, b) :: r, ps, h => by
    rw [RelK] at h
    obtain ⟨a', v, ps', rfl, h1, h2, h3⟩ := h
    obtain ⟨ih1, ih2⟩ := dlookK hk h3
    have e := key1_eq h1 hk
    unfold dlook
    by_cases z : a' = k'
    · have e2 : eqK a k = true := by rw [e, decide_eq_true z]
      simp only [e2]
      exact ⟨fun d q => by cases q; exact ⟨v, valV_pos z, h2⟩, fun q => by cases q⟩
    · have e2 : eqK a k = false := by rw [e, decide_eq_false z]
      simp only [e2]
      rw [valV_neg z]
      exact ⟨ih1, ih2⟩
theorem dlookT {W : Wl} {k : D} {k' : List Key} (hk : D.tkey k = some k') : ∀ {kvs : List (D × D)} {ps : List (List Key × V)}, RelT W kvs ps → (∀ d, dlook k kvs = some d → ∃ v, valV ps k' = some v ∧ RelD W d v) ∧ (dlook k kvs = none → valV ps k' = none)
  | [], ps, h => by rw [RelT] at h; subst h; exact ⟨fun d e => (nomatch e), fun _ => rfl⟩
  | (a, b) :: r, ps, h => by
    rw [RelT] at h
    obtain ⟨a', v, ps', rfl, h1, h2, h3⟩ := h
    obtain ⟨ih1, ih2⟩ := dlookT hk h3
    have e : eqK a k = decide (a' = k') := by
      cases a with
      | tup l =>
        cases k with
        | tup m => exact keyT_eq h1 hk
        | _ => cases hk
      | _ => cases h1
    unfold dlook
    by_cases z : a' = k'
    · have e2 : eqK a k = true := by rw [e, decide_eq_true z]
      simp only [e2]
      exact ⟨fun d q => by cases q; exact ⟨v, valV_pos z, h2⟩, fun q => by cases q⟩
    · have e2 : eqK a k = false := by rw [e, decide_eq_false z]
      simp only [e2]
      rw [valV_neg z]
      exact ⟨ih1, ih2⟩
theorem key_rel {W : Wl} {k : D} {k' : Key} {v : V} (hk : D.key k = some k') (r : RelD W k v) : v = kV k' := by
  cases k with
  | int i => cases hk; exact relInt r
  | str i => cases hk; exact relStr r
  | _ => cases hk
theorem keys_rel {W : Wl} : ∀ {l : List D} {ks : List Key} {vs : List V}, keysOf l = some ks → RelDs W l vs → vs = ks.map kV
  | [], ks, vs, h, r => by cases h; rw [RelDs] at r; subst r; rfl
  | x :: xs, ks, vs, h, r => by
    obtain ⟨k, ks', rfl, h1, h2⟩ := keysOf_cons h
    rw [RelDs] at r
    obtain ⟨v, vs', rfl, r1, r2⟩ := r
    rw [key_rel h1 r1, keys_rel h2 r2]; rfl
theorem isKey_key {k : D} (h : isKey false k = true) : ∃ k', D.key k = some k' := by
  cases k with
  | int i => exact ⟨_, rfl⟩
  | str i => exact ⟨_, rfl⟩
  | _ => cases h
theorem isKey_keys : ∀ {l : List D}, isKey true (.tup l) = true → ∃ k', keysOf l = some k'
  | [], _ => ⟨[], rfl⟩
  | x :: xs, h => by
    simp only [isKey, List.all_cons, Bool.and_eq_true] at h
    obtain ⟨ks, e⟩ := isKey_keys (l := xs) h.2
    cases x with
    | int i => exact ⟨.inl i :: ks, by simp only [keysOf, D.key, e]⟩
    | str i => exact ⟨.inr i :: ks, by simp only [keysOf, D.key, e]⟩
    | _ => exact absurd h.1 (by simp)
theorem isKey_tkey {k : D} (h : isKey true k = true) : ∃ k', D.tkey k = some k' := by
  cases k with
  | tup l => exact isKey_keys h
  | _ => cases h
/-- what a dict's cell tells of a key -/
theorem dget_of {K : PySem.W.Frag} {W : Wl} {r : Nat} {t : Bool} {kvs : List (D × D)} {k : D} {v : V} (o : W.Ok K N.toNames) (h : W.η.get r = some (.dct t kvs)) (hk : isKey t k = true) (rk : RelD W k v) :
    (∀ d, dlook k kvs = some d → ∃ w, DGet W.H (W.μ r) v (some w) ∧ RelD W d w) ∧ (dlook k kvs = none → DGet W.H (W.μ r) v none) := by
  have c := o.cell r _ h
  cases t with
  | false =>
    obtain ⟨ps, h1, h2, h3⟩ := c
    obtain ⟨k', hk'⟩ := isKey_key hk
    obtain ⟨a, b⟩ := dlookK hk' h2
    have ev := key_rel hk' rk
    subst ev
    exact ⟨fun d e => by obtain ⟨w, e1, e2⟩ := a d e; exact ⟨w, .inl ⟨ps, k', .inl h1, rfl, e1.symm⟩, e2⟩, fun e => .inl ⟨ps, k', .inl h1, rfl, (b e).symm⟩⟩
  | true =>
    obtain ⟨ps, h1, h2, h3⟩ := c
    obtain ⟨k', hk'⟩ := isKey_tkey hk
    obtain ⟨a, b⟩ := dlookT hk' h2
    cases k with
    | tup l =>
      obtain ⟨q, vs, rfl, hq, rq⟩ := relTup rk
      have ev := keys_rel hk' rq
      subst ev
      exact ⟨fun d e => by obtain ⟨w, e1, e2⟩ := a d e; exact ⟨w, .inr ⟨ps, k', q, .inl h1, rfl, hq, e1.symm⟩, e2⟩, fun e => .inr ⟨ps, k', q, .inl h1, rfl, hq, (b e).symm⟩⟩
    | _ => cases hk
/-- o[i] -/
def fIx : F2 := fun x y η => match x, y with
  | .tup l, .int i => match atD l i with
    | some d => some (d, η)
    | none => none
  | .ftup l, .int i => match atD l i with
    | some d => some (d, η)
    | none => none
  | .ref r, k => match η.get r with
    | some (.lst l) => match k with
      | .int i => match atD l i with
        | some d => some (d, η)
        | none => none
      | _ => none
    | some (.frz l) => match k with
      | .int i => match atD l i with
        | some d => some (d, η)
        | none => none
      | _ => none
    | some (.dct t kvs) => match isKey t k with
      | true => match dlook k kvs with
        | some d => some (d, η)
        | none => none
      | false => none
    | some (.ldc t kvs) => match isKey t k with
      | true => match dlook k kvs with
        | some d => some (d, η)
        | none => none
      | false => none
    | _ => none
  | _, _ => none
/-- the same of a dict that is walked meanwhile -/
theorem dget_ofL {K : PySem.W.Frag} {W : Wl} {r : Nat} {t : Bool} {kvs : List (D × D)} {k : D} {v : V} (o : W.Ok K N.toNames) (h : W.η.get r = some (.ldc t kvs)) (hk : isKey t k = true) (rk : RelD W k v) :
    (∀ d, dlook k kvs = some d → ∃ w, DGet W.H (W.μ r) v (some w) ∧ RelD W d w) ∧ (dlook k kvs = none → DGet W.H (W.μ r) v none) := by
  have c := o.cell r _ h
  cases t with
  | false =>
    obtain ⟨ps, ob, h1, h2, h3⟩ := c
    obtain ⟨k', hk'⟩ := isKey_key hk
    obtain ⟨a, b⟩ := dlookK hk' h2
    have ev := key_rel hk' rk
    subst ev
    exact ⟨fun d e => by obtain ⟨w, e1, e2⟩ := a d e; exact ⟨w, .inl ⟨ps, k', .inr ⟨ob, h1⟩, rfl, e1.symm⟩, e2⟩, fun e => .inl ⟨ps, k', .inr ⟨ob, h1⟩, rfl, (b e).symm⟩⟩
  | true =>
    obtain ⟨ps, ob, h1, h2, h3⟩ := c
    obtain ⟨k', hk'⟩ := isKey_tkey hk
    obtain ⟨a, b⟩ := dlookT hk' h2
    cases k with
    | tup l =>
      obtain ⟨q, vs, rfl, hq, rq⟩ := relTup rk
      have ev := keys_rel hk' rq
      subst ev
      exact ⟨fun d e => by obtain ⟨w, e1, e2⟩ := a d e; exact ⟨w, .inr ⟨ps, k', q, .inr ⟨ob, h1⟩, rfl, hq, e1.symm⟩, e2⟩, fun e => .inr ⟨ps, k', q, .inr ⟨ob, h1⟩, rfl, hq, (b e).symm⟩⟩
    | _ => cases hk
theorem ix_dict (hu : X.A.units + 1 < cLine) : IxR X (fun x y H Q => ∃ a v, x = .ref a ∧ DGet H a y (some v) ∧ Q v H) := by
  intro value slice pins s σ H x y v u Q I rx ry h hs
  obtain ⟨a, w, rfl, g, q⟩ := h
  obtain rfl : v = Value.ref a := rx
  have ht := dict_typeIs I g
  exact PyProof.Rows.tail_any ht PySem.F.slot_dict_getitem.lookup (d_getItem hu I g ry fun w' s3 I3 rw' => ⟨w, H, I3, rw', q⟩) hs
theorem IxR.or {r r' : R2} (h : IxR X r) (h' : IxR X r') : IxR X (fun x y H Q => r x y H Q ∨ r' x y H Q) := by
  intro value slice pins s σ H x y v u Q I rx ry hh hs
  rcases hh with hh | hh
  · exact h value slice pins s σ H x y v u Q I rx ry hh hs
  · exact h' value slice pins s σ H x y v u Q I rx ry hh hs
theorem fIx_ok {K : PySem.W.Frag} {x y : V} {H : Hp} {Q : VK} (q : r2 K N fIx x y H Q) : (rIxL K x y H Q ∨ rIxT K x y H Q) ∨ ∃ a v, x = .ref a ∧ DGet H a y (some v) ∧ Q v H := by
  obtain ⟨W, dx, dy, d, η', rfl, o, rx, ry, hf, hq⟩ := q
  have lcase : ∀ {r : Nat} {l : List D} {k : D}, W.η.list r = some l → RelD W (.ref r) x → RelD W k y → (match k with | .int i => (match atD l i with | some d => some (d, W.η) | none => none) | _ => none) = some (d, η') → rIxL K x y W.H Q := by
    intro r l k hl rx ry hf
    cases k with
    | int i =>
      simp only at hf
      cases e : atD l i with
      | none => rw [e] at hf; cases hf
      | some d' =>
        rw [e] at hf
        simp only [Option.some.injEq, Prod.mk.injEq] at hf
        obtain ⟨rfl, rfl⟩ := hf
        obtain ⟨vs, h1, h2, h3⟩ := list_of o hl
        obtain ⟨v, e1, e2⟩ := atD_atI h2 e
        rw [relRef rx, relInt ry]
        exact ⟨_, vs, i, v, rfl, rfl, h1, e1, same_w o hq e2⟩
    | _ => cases hf
  cases dx with
  | tup l =>
    cases dy with
    | int i =>
      simp only [fIx] at hf
      cases e : atD l i with
      | none => rw [e] at hf; cases hf
      | some d' =>
        rw [e] at hf
        simp only [Option.some.injEq, Prod.mk.injEq] at hf
        obtain ⟨rfl, rfl⟩ := hf
        obtain ⟨p, vs, rfl, hs, rs⟩ := relTup rx
        obtain ⟨v, e1, e2⟩ := atD_atI rs e
        rw [relInt ry]
        exact .inl (.inr ⟨p, vs, i, v, rfl, rfl, SqT.of hs, e1, same_w o hq e2⟩)
    | _ => cases hf
  | ftup l =>
    cases dy with
    | int i =>
      simp only [fIx] at hf
      cases e : atD l i with
      | none => rw [e] at hf; cases hf
      | some d' =>
        rw [e] at hf
        simp only [Option.some.injEq, Prod.mk.injEq] at hf
        obtain ⟨rfl, rfl⟩ := hf
        obtain ⟨p, vs, ob, rfl, hs, _, rs⟩ := relFtup rx
        obtain ⟨v, e1, e2⟩ := atD_atI rs e
        rw [relInt ry]
        exact .inl (.inr ⟨p, vs, i, v, rfl, rfl, (.inl (.inr ⟨ob, hs⟩)), e1, same_w o hq e2⟩)
    | _ => cases hf
  | ref r =>
    simp only [fIx] at hf
    cases e : W.η.get r with
    | none => rw [e] at hf; cases hf
    | some c =>
      rw [e] at hf
      cases c with
      | lst l => exact .inl (.inl (lcase (r := r) (l := l) (k := dy) (by unfold Hd.list; rw [e]) rx ry hf))
      | frz l => exact .inl (.inl (lcase (r := r) (l := l) (k := dy) (by unfold Hd.list; rw [e]) rx ry hf))
      | dct t kvs =>
        simp only at hf
        cases ek : isKey t dy with
        | false => rw [ek] at hf; cases hf
        | true =>
          rw [ek] at hf
          simp only at hf
          cases el : dlook dy kvs with
          | none => rw [el] at hf; cases hf
          | some d' =>
            rw [el] at hf
            simp only [Option.some.injEq, Prod.mk.injEq] at hf
            obtain ⟨rfl, rfl⟩ := hf
            obtain ⟨w, g, rw'⟩ := (dget_of o e ek ry).1 _ el
            rw [relRef rx]
            exact .inr ⟨_, w, rfl, g, same_w o hq rw'⟩
      | ldc t kvs =>
        simp only at hf
        cases ek : isKey t dy with
        | false => rw [ek] at hf; cases hf
        | true =>
          rw [ek] at hf
          simp only at hf
          cases el : dlook dy kvs with
          | none => rw [el] at hf; cases hf
          | some d' =>
            rw [el] at hf
            simp only [Option.some.injEq, Prod.mk.injEq] at hf
            obtain ⟨rfl, rfl⟩ := hf
            obtain ⟨w, g, rw'⟩ := (dget_ofL o e ek ry).1 _ el
            rw [relRef rx]
            exact .inr ⟨_, w, rfl, g, same_w o hq rw'⟩
      | _ => cases hf
  | _ => cases hf
theorem je_ix {a b : Expr} {ca cb : CE} {pos : Pos} (hu : X.A.units + 1 < cLine) (ha : JE X N E a ca) (hb : JE X N E b cb) (hs : PlainIx b) : JE X N E (.Subscript a b pos) (cOp fIx ca cb) :=
  PE.imp (pe_ix (IxR.or (IxR.or ix_list ix_tup) (ix_dict hu)) ha hb hs) fun σ H Q q => by
    have h := tOp_of q
    obtain ⟨W, σd, kv, kx, e1, o, s, h1, hv, hx⟩ := h
    exact ⟨W, σd, kv, kx, e1, o, s, h1, fun W1 d v x1 o1 r1 h2 => by
      obtain ⟨W', σd', kv', kx', e1', o', s', h1', hv', hx'⟩ := hv W1 d v x1 o1 r1 h2
      exact ⟨W', σd', kv', kx', e1', o', s', h1', fun W2 d2 v2 x2 o2 r2 h3 => fIx_ok (hv' W2 d2 v2 x2 o2 r2 h3), hx'⟩, hx⟩
end
end DL

/-! slices, built-ins, methods -/
namespace DL
open PySem PySem.Spec L2
section
variable {X : Cx} {N : Nm} {E : XK}
/-! ### slices -/
abbrev CO := SD → Hd → (Option Int → Hd → Bool) → KX → Bool
def tO (K : PySem.W.Frag) (N : Nm) (E : XK) (c : CO) : TO := fun σ H Q => ∃ W σd kv kx, W.H = H ∧ W.Ok K N.toNames ∧ RelS W σd σ ∧ c σd W.η kv kx = true ∧ (∀ W' b, Ext W W' → W'.Ok K N.toNames → kv b W'.η = true → Q b W'.H) ∧ Xk K N E W kx
def JO (X : Cx) (N : Nm) (E : XK) (e : Option Expr) (c : CO) : Prop := PO X e (tO X.K N E c)
theorem PO.imp {X : Cx} {e : Option Expr} {t t' : TO} (h : PO X e t) (f : ∀ σ H Q, t' σ H Q → t σ H Q) : PO X e t' := ⟨fun pins s σ H Q I q => h.run pins s σ H Q I (f σ H Q q)⟩
def coN : CO := fun _ η k _ => k none η
def coS (c : CE) : CO := fun σ η k kx => c σ η (fun x η1 => match x with
  | .int i => k (some i) η1
  | _ => false) kx
theorem jo_none : JO X N E none coN := PO.imp po_none fun σ H Q q => by
  obtain ⟨W, σd, kv, kx, rfl, o, s, h, hv, hx⟩ := q
  exact hv W none (Ext.refl W) o h
theorem jo_some {e : Expr} {c : CE} (h : JE X N E e c) : JO X N E (some e) (coS c) := PO.imp (po_some h) fun σ H Q q => by
  obtain ⟨W, σd, kv, kx, rfl, o, s, h, hv, hx⟩ := q
  refine tE.bind o s hx h fun W1 d v x1 o1 r1 s1 hx1 h1 => ?_
  cases d with
  | int i => rw [relInt r1]; exact ⟨i, rfl, hv W1 (some i) x1 o1 h1⟩
  | _ => cases h1
theorem tO.bind {K : PySem.W.Frag} {W : Wl} {kx : KX} {c : CO} {kt : Option Int → Hd → Bool} {σ : St} {σd : SD} {Q' : Option Int → Hp → Prop} (o : W.Ok K N.toNames) (s : RelS W σd σ) (hx : Xk K N E W kx) (h : c σd W.η kt kx = true)
    (hq : ∀ W' b, Ext W W' → W'.Ok K N.toNames → RelS W' σd σ → Xk K N E W' kx → kt b W'.η = true → Q' b W'.H) : tO K N E c σ W.H Q' :=
  ⟨W, σd, kt, kx, rfl, o, s, h, fun W' b x o' e => hq W' b x o' (s.mono o x) (hx.mono o o' x) e, hx⟩
def cutD (xs : List D) (lo hi : Option Int) : List D := (xs.drop (HT.sIx xs.length 0 lo)).take (HT.sIx xs.length xs.length hi - HT.sIx xs.length 0 lo)
theorem cutD_rel {W : Wl} {xs : List D} {vs : List V} (r : RelDs W xs vs) (lo hi : Option Int) : RelDs W (cutD xs lo hi) (cutV vs lo hi) := by
  unfold cutD cutV
  rw [r.length]
  exact (r.drop _).take _
theorem cutD_len (xs : List D) (lo hi : Option Int) : (cutD xs lo hi).length ≤ xs.length := by
  unfold cutD
  rw [List.length_take, List.length_drop]; omega
def slF (η : Hd) (x : D) (lo hi : Option Int) : Option (D × Hd) := match x with
  | .tup l => some (.tup (cutD l lo hi), η)
  | .ref r => match η.list r with
    | some l => some (.ref η.nx, η.new (.lst (cutD l lo hi)))
    | none => none
  | _ => none
def cSl (a : CE) (lo hi : CO) : CE := fun σ η kv kx => a σ η (fun x η1 => lo σ η1 (fun l η2 => hi σ η2 (fun h η3 => match slF η3 x l h with
  | some (d, η4) => kv d η4
  | none => false) kx) kx) kx
theorem SlR.or {r r' : V → Option Int → Option Int → Hp → VK → Prop} (h : SlR X r) (h' : SlR X r') : SlR X (fun x l u H Q => r x l u H Q ∨ r' x l u H Q) := by
  intro pins s σ H x v vl vu lo hi sl Q I rx hs p1 p2 hh
  rcases hh with hh | hh
  · exact h pins s σ H x v vl vu lo hi sl Q I rx hs p1 p2 hh
  · exact h' pins s σ H x v vl vu lo hi sl Q I rx hs p1 p2 hh
theorem je_slice {a : Expr} {lo hi : Option Expr} {ca : CE} {cl ch : CO} {pos p2 : Pos} (ha : JE X N E a ca) (hl : JO X N E lo cl) (hh : JO X N E hi ch) : JE X N E (.Subscript a (.Slice lo hi none p2) pos) (cSl ca cl ch) :=
  PE.imp (pe_slice (SlR.or sl_list sl_tupA) ha hl hh) fun σ H Q q => by
    obtain ⟨W, σd, kv, kx, rfl, o, s, h, hv, hx⟩ := q
    refine tE.bind o s hx h fun W1 d v x1 o1 r1 s1 hx1 h1 => ?_
    refine tO.bind o1 s1 hx1 h1 fun W2 l x2 o2 s2 hx2 h2 => ?_
    refine tO.bind o2 s2 hx2 h2 fun W3 u x3 o3 s3 hx3 h3 => ?_
    have r3 : RelD W3 d v := (r1.mono o1 x2).mono o2 x3
    have x03 := x1.trans o o1 (x2.trans o1 o2 x3)
    have hv3 := hv.mono o o3 x03
    cases e : slF W3.η d l u with
    | none => rw [e] at h3; cases h3
    | some p =>
      obtain ⟨d', η'⟩ := p
      rw [e] at h3
      cases d with
      | tup xs =>
        simp only [slF, Option.some.injEq, Prod.mk.injEq] at e
        obtain ⟨rfl, rfl⟩ := e
        obtain ⟨p, vs, rfl, hs, rs⟩ := relTup r3
        refine .inr ⟨p, vs, rfl, SqT.of hs, fun hc => ?_, fun _ p hp => Vk.tup (W0 := W) o3 hv3 h3 hp (cutD_rel rs l u)⟩
        have e1 : cutD xs l u = xs := by
          unfold cutD
          rw [rs.length, hc.1, hc.2, List.drop_zero]
          exact List.take_of_length_le (by rw [rs.length]; exact Nat.le_refl _)
        rw [e1] at h3
        exact hv3.here o3 (mkTup hs rs) h3
      | ref r =>
        simp only [slF] at e
        cases el : W3.η.list r with
        | none => rw [el] at e; cases e
        | some xs =>
          rw [el] at e
          simp only [Option.some.injEq, Prod.mk.injEq] at e
          obtain ⟨rfl, rfl⟩ := e
          obtain ⟨vs, g1, g2, g3⟩ := list_of o3 el
          rw [relRef r3]
          exact .inl ⟨_, vs, rfl, g1, fun p hp => Vk.lst o3 hv3 h3 hp (cutD_rel g2 l u) (Nat.le_trans (cutD_len xs l u) g3)⟩
      | _ => cases e

/-! ### built-ins by values -/
abbrev FN := List D → Hd → Option (D × Hd)
def rN (K : PySem.W.Frag) (N : Nm) (f : FN) : List V → Hp → VK → Prop := fun xs H Q => ∃ W ds d η', W.H = H ∧ W.Ok K N.toNames ∧ RelDs W ds xs ∧ f ds W.η = some (d, η') ∧
  (∀ W' v, Ext W W' → W'.Ok K N.toNames → W'.η = η' → RelD W' d v → Q v W'.H)
def cFn (f : FN) (a : CA) : CE := fun σ η kv kx => a σ η (fun ds η1 => match f ds η1 with
  | some (d, η2) => kv d η2
  | none => false) kx
theorem CallR.imp {f : Value} {r r' : List V → Hp → VK → Prop} (h : CallR X f r) (i : ∀ x H Q, r' x H Q → r x H Q) : CallR X f r' :=
  fun pins s σ H x v Q I rx q => h pins s σ H x v Q I rx (i x H Q q)
theorem CallR.or {f : Value} {r r' : List V → Hp → VK → Prop} (h : CallR X f r) (h' : CallR X f r') : CallR X f (fun x H Q => r x H Q ∨ r' x H Q) :=
  fun pins s σ H x v Q I rx q => q.elim (h pins s σ H x v Q I rx) (h' pins s σ H x v Q I rx)
theorem tCB_of {f : FN} {c : CA} {K : PySem.W.Frag} {σ : St} {H : Hp} {Q : VK} (h : tE K N E (cFn f c) σ H Q) : tCB (rN K N f) (tAr K N E c) σ H Q := by
  obtain ⟨W, σd, kv, kx, rfl, o, s, h, hv, hx⟩ := h
  refine tAr.bind o s hx h fun W1 ds vs x1 o1 r1 s1 hx1 h1 => ?_
  cases e : f ds W1.η with
  | none => rw [e] at h1; cases h1
  | some p =>
    obtain ⟨d, η'⟩ := p
    rw [e] at h1
    exact ⟨W1, ds, d, η', rfl, o1, r1, e, fun W' v x3 o3 e3 r3 => hv W' d v (x1.trans o o1 x3) o3 r3 (by rw [e3]; exact h1)⟩
theorem je_blt {x : Str} {id : String} {f : FN} {e : Expr} {es : List Expr} {c : CA} {p pos : Pos} (hc : CallR X (.builtin id) (rN X.K N f)) (hg : Gl X x) (hm : X.mg x = none) (hv : bootBuiltins x = some (.builtin id)) (ha : JA X N E (e :: es) c)
    (hn : x ≠ "__name__" := by decide) (hdb : (x == ("__debug__" : Str)) = false := by decide) (hs : starEach (e :: es) X.env = (false, eval e X.env) :: starEach es X.env := by rfl)
    (hpl : (backTo pos (starEach es X.env)).any (·.1) = false := by rfl) : JE X N E (.Call (.Name x p) (e :: es) [] pos) (cFn f c) :=
  PE.imp (pe_callB hc hg hm hv ha hn hdb hs hpl) fun σ H Q q => tCB_of q
theorem je_ty {x : Str} {T : String} {f : FN} {e : Expr} {es : List Expr} {c : CA} {p pos : Pos} (hc : CallR X (.type T) (rN X.K N f)) (hg : Gl X x) (hm : X.mg x = none) (hv : bootBuiltins x = some (.type T)) (ha : JA X N E (e :: es) c)
    (hn : x ≠ "__name__" := by decide) (hdb : (x == ("__debug__" : Str)) = false := by decide) (hs : starEach (e :: es) X.env = (false, eval e X.env) :: starEach es X.env := by rfl)
    (hpl : (backTo pos (starEach es X.env)).any (·.1) = false := by rfl) : JE X N E (.Call (.Name x p) (e :: es) [] pos) (cFn f c) :=
  PE.imp (pe_callTy hc hg hm hv ha hn hdb hs hpl) fun σ H Q q => tCB_of q
theorem rel1 {W : Wl} {d : D} {vs : List V} (h : RelDs W [d] vs) : ∃ v, vs = [v] ∧ RelD W d v := by
  rw [RelDs] at h
  obtain ⟨v, vs', rfl, h1, h2⟩ := h
  rw [RelDs] at h2
  subst h2
  exact ⟨v, rfl, h1⟩
theorem rel2 {W : Wl} {d e : D} {vs : List V} (h : RelDs W [d, e] vs) : ∃ v u, vs = [v, u] ∧ RelD W d v ∧ RelD W e u := by
  rw [RelDs] at h
  obtain ⟨v, vs', rfl, h1, h2⟩ := h
  obtain ⟨u, rfl, h3⟩ := rel1 h2
  exact ⟨v, u, rfl, h1, h3⟩
/-- f(one thing) -/
def f1 (g : D → Hd → Option (D × Hd)) : FN := fun ds η => match ds with
  | [d] => g d η
  | _ => none
theorem f1_inv {g : D → Hd → Option (D × Hd)} {ds : List D} {η : Hd} {p : D × Hd} (h : f1 g ds η = some p) : ∃ d, ds = [d] ∧ g d η = some p := by
  match ds, h with
  | [d], h => exact ⟨d, rfl, h⟩
  | [], h => cases h
  | _ :: _ :: _, h => cases h
def gLen (d : D) (η : Hd) : Option (D × Hd) := match d with
  | .tup l => some (.int (Int.ofNat l.length), η)
  | .ref r => match η.get r with
    | some (.lst l) => some (.int (Int.ofNat l.length), η)
    | some (.frz l) => some (.int (Int.ofNat l.length), η)
    | _ => none
  | .str z => match Nat.ble z.length line with
    | true => some (.int (Int.ofNat z.length), η)
    | false => none
  | _ => none
def fLen : FN := f1 gLen
theorem blt_len : CallR X (.builtin "len") (rN X.K N fLen) := CallR.imp (CallR.or call_len_seq call_len_str) fun xs H Q q => by
  obtain ⟨W, ds, d, η', rfl, o, rs, hf, hq⟩ := q
  obtain ⟨x, rfl, hg⟩ := f1_inv hf
  clear hf
  have hf := hg
  clear hg
  obtain ⟨v, rfl, rx⟩ := rel1 rs
  cases x with
  | tup l =>
    simp only [gLen, Option.some.injEq, Prod.mk.injEq] at hf
    obtain ⟨rfl, rfl⟩ := hf
    obtain ⟨p, vs, rfl, hs, rs⟩ := relTup rx
    refine .inl ⟨p, vs, rfl, .inr (SqT.of hs), ?_⟩
    rw [← rs.length]; exact same_w o hq mkInt
  | ref r =>
    simp only [gLen] at hf
    cases e : W.η.get r with
    | none => rw [e] at hf; cases hf
    | some c =>
      rw [e] at hf
      have go : ∀ {l : List D}, W.η.list r = some l → some (D.int (Int.ofNat l.length), W.η) = some (d, η') → (∃ p ys, [v] = [V.ref p] ∧ (SqL X.K W.H p ys ∨ SqT X.K W.H p ys) ∧ Q (.int ys.length) W.H) ∨ (∃ z, [v] = [V.str z] ∧ z.length ≤ sizeLine ∧ Q (.int z.length) W.H) := fun {l} hl hf => by
        simp only [Option.some.injEq, Prod.mk.injEq] at hf
        obtain ⟨rfl, rfl⟩ := hf
        obtain ⟨vs, g1, g2, g3⟩ := list_of o hl
        rw [relRef rx]
        refine .inl ⟨_, vs, rfl, .inl g1, ?_⟩
        rw [← g2.length]; exact same_w o hq mkInt
      cases c with
      | lst l => exact go (by unfold Hd.list; rw [e]) hf
      | frz l => exact go (by unfold Hd.list; rw [e]) hf
      | _ => cases hf
  | str z =>
    simp only [gLen] at hf
    cases e : Nat.ble z.length line with
    | false => rw [e] at hf; cases hf
    | true =>
      rw [e] at hf
      simp only [Option.some.injEq, Prod.mk.injEq] at hf
      obtain ⟨rfl, rfl⟩ := hf
      rw [relStr rx]
      exact .inr ⟨z, rfl, Nat.le_of_ble_eq_true e, same_w o hq mkInt⟩
  | _ => cases hf
def gAbs (d : D) (η : Hd) : Option (D × Hd) := match d with
  | .int i => some (.int (if i < 0 then -i else i), η)
  | _ => none
theorem blt_abs : CallR X (.builtin "abs") (rN X.K N (f1 gAbs)) := CallR.imp call_abs fun xs H Q q => by
  obtain ⟨W, ds, d, η', rfl, o, rs, hf, hq⟩ := q
  obtain ⟨x, rfl, hg⟩ := f1_inv hf
  clear hf
  have hf := hg
  clear hg
  obtain ⟨v, rfl, rx⟩ := rel1 rs
  cases x with
  | int i =>
    simp only [gAbs, Option.some.injEq, Prod.mk.injEq] at hf
    obtain ⟨rfl, rfl⟩ := hf
    rw [relInt rx]
    exact ⟨i, rfl, same_w o hq mkInt⟩
  | _ => cases hf
def gInt (d : D) (η : Hd) : Option (D × Hd) := match d with
  | .int i => some (.int i, η)
  | .bl true => some (.int 1, η)
  | .bl false => some (.int 0, η)
  | _ => none
theorem ty_int : CallR X (.type "int") (rN X.K N (f1 gInt)) := CallR.imp call_int1 fun xs H Q q => by
  obtain ⟨W, ds, d, η', rfl, o, rs, hf, hq⟩ := q
  obtain ⟨x, rfl, hg⟩ := f1_inv hf
  clear hf
  have hf := hg
  clear hg
  obtain ⟨v, rfl, rx⟩ := rel1 rs
  cases x with
  | int i =>
    simp only [gInt, Option.some.injEq, Prod.mk.injEq] at hf
    obtain ⟨rfl, rfl⟩ := hf
    rw [relInt rx]
    exact .inl ⟨i, rfl, same_w o hq mkInt⟩
  | bl b =>
    rw [relBl rx]
    cases b with
    | true =>
      simp only [gInt, Option.some.injEq, Prod.mk.injEq] at hf
      obtain ⟨rfl, rfl⟩ := hf
      exact .inr ⟨true, rfl, same_w o hq mkInt⟩
    | false =>
      simp only [gInt, Option.some.injEq, Prod.mk.injEq] at hf
      obtain ⟨rfl, rfl⟩ := hf
      exact .inr ⟨false, rfl, same_w o hq mkInt⟩
  | _ => cases hf
/-- tuple(x), list(x) of a list, a tuple -/
def gTuple (d : D) (η : Hd) : Option (D × Hd) := match d with
  | .tup l => some (.tup l, η)
  | .ref r => match η.list r with
    | some l => some (.tup l, η)
    | none => none
  | _ => none
theorem ty_tuple : CallR X (.type "tuple") (rN X.K N (f1 gTuple)) := CallR.imp call_tuple_of fun xs H Q q => by
  obtain ⟨W, ds, d, η', rfl, o, rs, hf, hq⟩ := q
  obtain ⟨x, rfl, hg⟩ := f1_inv hf
  clear hf
  have hf := hg
  clear hg
  obtain ⟨v, rfl, rx⟩ := rel1 rs
  cases x with
  | tup l =>
    simp only [gTuple, Option.some.injEq, Prod.mk.injEq] at hf
    obtain ⟨rfl, rfl⟩ := hf
    obtain ⟨p, vs, rfl, hs, rs⟩ := relTup rx
    exact ⟨p, vs, rfl, .inr ⟨SqT.of hs, same_w o hq (mkTup hs rs)⟩⟩
  | ref r =>
    simp only [gTuple] at hf
    cases e : W.η.list r with
    | none => rw [e] at hf; cases hf
    | some l =>
      rw [e] at hf
      simp only [Option.some.injEq, Prod.mk.injEq] at hf
      obtain ⟨rfl, rfl⟩ := hf
      obtain ⟨vs, g1, g2, g3⟩ := list_of o e
      rw [relRef rx]
      exact ⟨_, vs, rfl, .inl ⟨g1, fun p hp => new_tup o hq hp g2⟩⟩
  | _ => cases hf
/-! ### methods of lists -/
abbrev FM := D → List D → Hd → Option (D × Hd)
def rM (K : PySem.W.Frag) (N : Nm) (f : FM) : V → List V → Hp → VK → Prop := fun x xs H Q => ∃ W dx ds d η', W.H = H ∧ W.Ok K N.toNames ∧ RelD W dx x ∧ RelDs W ds xs ∧ f dx ds W.η = some (d, η') ∧
  (∀ W' v, Ext W W' → W'.Ok K N.toNames → W'.η = η' → RelD W' d v → Q v W'.H)
def isL (η : Hd) : D → Bool
  | .ref r => (η.list r).isSome
  | _ => false
def cMt (f : FM) (o : CE) (a : CA) : CE := fun σ η kv kx => o σ η (fun x η1 => match isL η1 x with
  | true => a σ η1 (fun ds η2 => match f x ds η2 with
    | some (d, η3) => kv d η3
    | none => false) kx
  | false => false) kx
theorem MtR.imp {id : String} {r r' : V → List V → Hp → VK → Prop} (h : MtR X id r) (i : ∀ x xs H Q, r' x xs H Q → r x xs H Q) : MtR X id r' :=
  fun pins s σ H x xs v us Q I rx rxs q => h pins s σ H x xs v us Q I rx rxs (i x xs H Q q)
theorem isL_ty {K : PySem.W.Frag} {W : Wl} {d : D} {v : V} (o : W.Ok K N.toNames) (r : RelD W d v) (h : isL W.η d = true) : tyV K "list" v W.H := by
  cases d with
  | ref q =>
    simp only [isL] at h
    obtain ⟨l, e⟩ := Option.isSome_iff_exists.mp h
    obtain ⟨vs, g1, g2, g3⟩ := list_of o e
    rw [relRef r]
    exact .inl ⟨rfl, vs, g1⟩
  | _ => cases h
theorem tBM_of {f : FM} {co : CE} {c : CA} {K : PySem.W.Frag} {σ : St} {H : Hp} {Q : VK} (h : tE K N E (cMt f co c) σ H Q) : tBM K "list" (rM K N f) (tE K N E co) (tAr K N E c) σ H Q := by
  obtain ⟨W, σd, kv, kx, rfl, o, s, h, hv, hx⟩ := h
  refine tE.bind o s hx h fun W1 d v x1 o1 r1 s1 hx1 h1 => ?_
  cases el : isL W1.η d with
  | false => rw [el] at h1; cases h1
  | true =>
    rw [el] at h1
    refine ⟨isL_ty o1 r1 el, ?_⟩
    refine tAr.bind o1 s1 hx1 h1 fun W2 ds vs x2 o2 r2 s2 hx2 h2 => ?_
    cases e : f d ds W2.η with
    | none => rw [e] at h2; cases h2
    | some p =>
      obtain ⟨d', η'⟩ := p
      rw [e] at h2
      exact ⟨W2, d, ds, d', η', rfl, o2, r1.mono o1 x2, r2, e, fun W' v x3 o3 e3 r3 => hv W' d' v ((x1.trans o o1 x2).trans o o2 x3) o3 r3 (by rw [e3]; exact h2)⟩
/-- a list's cell changed -/
theorem put_lst {K : PySem.W.Frag} {W : Wl} {Q : VK} {r : Nat} {l l' : List D} {vs' : List V} {d : D} {v : V} (o : W.Ok K N.toNames) (e : W.η.get r = some (.lst l))
    (q : ∀ W' v, Ext W W' → W'.Ok K N.toNames → W'.η = W.η.set r (.lst l') → RelD W' d v → Q v W'.H) (rl : RelDs W l' vs') (hl : l'.length ≤ sizeLine) (rd : RelD W d v) : Q v (upd W.H (W.μ r) (.lst vs')) := by
  obtain ⟨x, o'⟩ := o.put (c := .lst l') (ob := .lst vs') e rfl (fun x => ⟨vs', upd_same, rl.mono o x, hl⟩)
  exact q (W.put r (.lst l') (.lst vs')) v x o' rfl (rd.mono o x)
def fAppend : FM := fun x ds η => match x, ds with
  | .ref r, [d] => match η.get r with
    | some (.lst l) => match Nat.blt l.length line with
      | true => some (.non, η.set r (.lst (l ++ [d])))
      | false => none
    | _ => none
  | _, _ => none
theorem mtd_append : MtR X "list.append" (rM X.K N fAppend) := MtR.imp mt_append fun x xs H Q q => by
  obtain ⟨W, dx, ds, d, η', rfl, o, rx, rs, hf, hq⟩ := q
  cases dx with
  | ref r =>
    match ds, rs, hf with
    | [y], rs, hf =>
      obtain ⟨v, rfl, ry⟩ := rel1 rs
      simp only [fAppend] at hf
      cases e : W.η.get r with
      | none => rw [e] at hf; cases hf
      | some c =>
        rw [e] at hf
        cases c with
        | lst l =>
          simp only at hf
          cases eb : Nat.blt l.length line with
          | false => rw [eb] at hf; cases hf
          | true =>
            rw [eb] at hf
            simp only [Option.some.injEq, Prod.mk.injEq] at hf
            obtain ⟨rfl, rfl⟩ := hf
            obtain ⟨vs, g1, g2, g3⟩ := o.cell r _ e
            have hb : l.length < sizeLine := Nat.le_of_ble_eq_true eb
            rw [relRef rx]
            refine ⟨_, vs, v, rfl, rfl, g1, by rw [← g2.length]; exact hb, ?_⟩
            exact put_lst o e hq (g2.append (.cons ry .nil)) (by rw [List.length_append]; show l.length + 1 ≤ sizeLine; omega) mkNon
        | _ => cases hf
    | [], rs, hf => cases hf
    | _ :: _ :: _, rs, hf => cases hf
  | _ => cases hf
def fPop : FM := fun x ds η => match x, ds with
  | .ref r, [] => match η.get r with
    | some (.lst l) => match l[l.length - 1]? with
      | some d => some (d, η.set r (.lst l.dropLast))
      | none => none
    | _ => none
  | _, _ => none
theorem RelDs.dropLast {W : Wl} {ds : List D} {vs : List V} (h : RelDs W ds vs) : RelDs W ds.dropLast vs.dropLast := by
  rw [List.dropLast_eq_take, List.dropLast_eq_take, h.length]; exact h.take _
theorem mtd_pop : MtR X "list.pop" (rM X.K N fPop) := MtR.imp mt_pop fun x xs H Q q => by
  obtain ⟨W, dx, ds, d, η', rfl, o, rx, rs, hf, hq⟩ := q
  cases dx with
  | ref r =>
    match ds, rs, hf with
    | [], rs, hf =>
      rw [RelDs] at rs; subst rs
      simp only [fPop] at hf
      cases e : W.η.get r with
      | none => rw [e] at hf; cases hf
      | some c =>
        rw [e] at hf
        cases c with
        | lst l =>
          simp only at hf
          cases eb : l[l.length - 1]? with
          | none => rw [eb] at hf; cases hf
          | some y =>
            rw [eb] at hf
            simp only [Option.some.injEq, Prod.mk.injEq] at hf
            obtain ⟨rfl, rfl⟩ := hf
            obtain ⟨vs, g1, g2, g3⟩ := o.cell r _ e
            obtain ⟨v, ev, rv⟩ := g2.get' eb
            rw [relRef rx]
            refine ⟨_, vs, v, rfl, rfl, g1, by rw [← g2.length]; exact ev, ?_⟩
            exact put_lst o e hq g2.dropLast (by rw [List.length_dropLast]; omega) rv
        | _ => cases hf
    | _ :: _, rs, hf => cases hf
  | _ => cases hf
def ixD (n : Nat) : Int → Option Nat
  | .ofNat k => match Nat.blt k n with
    | true => some k
    | false => none
  | .negSucc k => match Nat.ble (k + 1) n with
    | true => some (n - (k + 1))
    | false => none
theorem ixD_seq {n : Nat} {i : Int} {k : Nat} (hn : n ≤ sizeLine) (h : ixD n i = some k) : seqIndex? i n = some k ∧ -2 ^ 63 ≤ i ∧ i < 2 ^ 63 ∧ k < n := by
  have hs : sizeLine = 16777216 := rfl
  cases i with
  | ofNat j =>
    simp only [ixD] at h
    cases e : Nat.blt j n with
    | false => rw [e] at h; cases h
    | true =>
      rw [e] at h
      have ek : j = k := Option.some.inj h
      subst ek
      have hb : j < n := Nat.le_of_ble_eq_true e
      have e1 : Int.ofNat j = (j : Int) := rfl
      refine ⟨?_, by rw [e1]; omega, by rw [e1]; omega, hb⟩
      unfold seqIndex?
      rw [e1]
      simp only [show ¬ ((j : Int) < 0) from by omega, if_false]
      rw [if_pos (by simp; omega)]
      simp
  | negSucc j =>
    simp only [ixD] at h
    cases e : Nat.ble (j + 1) n with
    | false => rw [e] at h; cases h
    | true =>
      rw [e] at h; cases h
      have hb : j + 1 ≤ n := Nat.le_of_ble_eq_true e
      have e1 : Int.negSucc j = -((j + 1 : Nat) : Int) := rfl
      refine ⟨?_, by rw [e1]; omega, by rw [e1]; omega, by omega⟩
      unfold seqIndex?
      rw [e1]
      simp only [show (-((j + 1 : Nat) : Int) < 0) from by omega, if_true]
      rw [if_pos (by simp; omega)]
      congr 1; omega
def fPopAt : FM := fun x ds η => match x, ds with
  | .ref r, [.int i] => match η.get r with
    | some (.lst l) => match ixD l.length i with
      | some k => match l[k]? with
        | some d => some (d, η.set r (.lst (l.eraseIdx k)))
        | none => none
      | none => none
    | _ => none
  | _, _ => none
theorem RelDs.erase {W : Wl} : ∀ {ds : List D} {vs : List V} (k : Nat), RelDs W ds vs → RelDs W (ds.eraseIdx k) (vs.eraseIdx k)
  | [], _, _, h => by rw [RelDs] at h; subst h; exact .nil
  | d :: ds, _, 0, h => by
    rw [RelDs] at h
    obtain ⟨v', vs', rfl, h1, h3⟩ := h
    exact h3
  | d :: ds, _, n + 1, h => by
    rw [RelDs] at h
    obtain ⟨v', vs', rfl, h1, h3⟩ := h
    exact RelDs.cons h1 (RelDs.erase n h3)
theorem mtd_popAt : MtR X "list.pop" (rM X.K N fPopAt) := MtR.imp mt_popAt fun x xs H Q q => by
  obtain ⟨W, dx, ds, d, η', rfl, o, rx, rs, hf, hq⟩ := q
  cases dx with
  | ref r =>
    match ds, rs, hf with
    | [.int i], rs, hf =>
      obtain ⟨v, rfl, ry⟩ := rel1 rs
      rw [relInt ry]
      simp only [fPopAt] at hf
      cases e : W.η.get r with
      | none => rw [e] at hf; cases hf
      | some c =>
        rw [e] at hf
        cases c with
        | lst l =>
          simp only at hf
          cases ek : ixD l.length i with
          | none => rw [ek] at hf; cases hf
          | some k =>
            rw [ek] at hf
            simp only at hf
            cases eb : l[k]? with
            | none => rw [eb] at hf; cases hf
            | some y =>
              rw [eb] at hf
              simp only [Option.some.injEq, Prod.mk.injEq] at hf
              obtain ⟨rfl, rfl⟩ := hf
              obtain ⟨vs, g1, g2, g3⟩ := o.cell r _ e
              obtain ⟨w, ev, rv⟩ := g2.get' eb
              obtain ⟨i1, i2, i3, i4⟩ := ixD_seq g3 ek
              rw [relRef rx]
              refine ⟨_, vs, i, k, w, rfl, rfl, g1, i2, i3, by rw [← g2.length]; exact i1, ev, ?_⟩
              exact put_lst o e hq (g2.erase k) (by rw [List.length_eraseIdx]; split <;> omega) rv
        | _ => cases hf
    | [], rs, hf => cases hf
    | [.non], rs, hf => cases hf
    | [.bl _], rs, hf => cases hf
    | [.str _], rs, hf => cases hf
    | [.tup _], rs, hf => cases hf
    | [.ref _], rs, hf => cases hf
    | _ :: _ :: _, rs, hf => simp [fPopAt] at hf
  | _ => cases hf
end
end DL

/-! cells frozen, dropped and laid again -/
namespace DL
open PySem PySem.Spec L2
section
variable {K : PySem.W.Frag} {N : Names} {W W1 W2 Wg : Wl}
/-! ### what a value's relation leans on -/
structure Tx (W W' : Wl) : Prop where
  nx : W.η.nx ≤ W'.η.nx
  mu : ∀ r, r < W.η.nx → W'.μ r = W.μ r
  tp : ∀ a vs, W.H a = some (.tup vs) → W'.H a = some (.tup vs)
  tf : ∀ a ob vs, W.H a = some (.frz ob (.tup vs)) → W'.H a = some (.frz ob (.tup vs))
theorem Ext.tx (o : W.Ok K N) (x : Ext W W1) : Tx W W1 := ⟨x.nx, x.mu, fun a vs h => x.sqT o h, fun a ob vs h => x.fr a _ h (fun _ z => nomatch z) (o.nocell h (.inr (.inl ⟨_, _, rfl⟩)))⟩
mutual
theorem RelD.tx (x : Tx W W1) : ∀ {d : D} {v : V}, RelD W d v → RelD W1 d v
  | .non, v, h => by rw [RelD] at *; exact h
  | .bl b, v, h => by rw [RelD] at *; exact h
  | .int i, v, h => by rw [RelD] at *; exact h
  | .str s, v, h => by rw [RelD] at *; exact h
  | .ref r, v, h => by rw [RelD] at *; exact ⟨Nat.lt_of_lt_of_le h.1 x.nx, by rw [x.mu r h.1]; exact h.2⟩
  | .tup ds, v, h => by
    rw [RelD] at *
    obtain ⟨a, vs, e, h1, h2⟩ := h
    exact ⟨a, vs, e, x.tp a vs h1, RelDs.tx x h2⟩
  | .ftup ds, v, h => by
    rw [RelD] at *
    obtain ⟨a, vs, ob, e, h1, h3, h2⟩ := h
    exact ⟨a, vs, ob, e, x.tf a ob vs h1, h3, RelDs.tx x h2⟩
theorem RelDs.tx (x : Tx W W1) : ∀ {ds : List D} {vs : List V}, RelDs W ds vs → RelDs W1 ds vs
  | [], vs, h => by rw [RelDs] at *; exact h
  | d :: ds, vs, h => by
    rw [RelDs] at *
    obtain ⟨v, vs', e, h1, h2⟩ := h
    exact ⟨v, vs', e, RelD.tx x h1, RelDs.tx x h2⟩
end
theorem RelFs.tx (x : Tx W W1) : ∀ {fs : List (Nat × D)} {gs : List (Str × V)}, RelFs W N fs gs → RelFs W1 N fs gs
  | [], vs, h => by rw [RelFs] at *; exact h
  | (k, d) :: ds, vs, h => by
    rw [RelFs] at *
    obtain ⟨v, vs', e, h1, h2⟩ := h
    exact ⟨v, vs', e, RelD.tx x h1, RelFs.tx x h2⟩
theorem RelK.tx (x : Tx W W1) : ∀ {fs : List (D × D)} {gs : List (Key × V)}, RelK W fs gs → RelK W1 fs gs
  | [], vs, h => by rw [RelK] at *; exact h
  | (k, d) :: ds, vs, h => by
    rw [RelK] at *
    obtain ⟨k', v, vs', e, h0, h1, h2⟩ := h
    exact ⟨k', v, vs', e, h0, RelD.tx x h1, RelK.tx x h2⟩
theorem RelT.tx (x : Tx W W1) : ∀ {fs : List (D × D)} {gs : List (List Key × V)}, RelT W fs gs → RelT W1 fs gs
  | [], vs, h => by rw [RelT] at *; exact h
  | (k, d) :: ds, vs, h => by
    rw [RelT] at *
    obtain ⟨k', v, vs', e, h0, h1, h2⟩ := h
    exact ⟨k', v, vs', e, h0, RelD.tx x h1, RelT.tx x h2⟩
theorem TupA.tx (x : Tx W W1) {a : Addr} {vs : List V} (h : TupA W.H a vs) : TupA W1.H a vs := x.tp a vs h
theorem RowsV.tx (x : Tx W W1) : ∀ {k : RK} {vs : List V}, RowsV W.H k vs → RowsV W1.H k vs
  | [], vs, h => by rw [RowsV] at *; exact h
  | k :: ks, vs, h => by
    rw [RowsV] at *
    obtain ⟨c, vs', e, h1, h2⟩ := h
    exact ⟨c, vs', e, h1.tx x, RowsV.tx x h2⟩
theorem RowsA.tx (x : Tx W W1) {a : Addr} {k : RK} (h : RowsA W.H a k) : RowsA W1.H a k := by
  obtain ⟨vs, h1, h2⟩ := h
  exact ⟨vs, h1.tx x, h2.tx x⟩
theorem RelC.tx (x : Tx W W1) {a : Addr} {c : Cell} (h : RelC K N W a c) (e : ∀ ob, noT ob → W.H a = some ob → W1.H a = some ob) : RelC K N W1 a c := by
  cases c with
  | lst l => obtain ⟨vs, h1, h2, h3⟩ := h; exact ⟨vs, e _ (fun _ z => nomatch z) h1, h2.tx x, h3⟩
  | frz l => obtain ⟨vs, h1, h2, h3⟩ := h; exact ⟨vs, e _ (fun _ z => nomatch z) h1, h2.tx x, h3⟩
  | dice => obtain ⟨p, q, r, h⟩ := h; exact ⟨p, q, r, e _ (fun _ z => nomatch z) h⟩
  | dct t l =>
    cases t
    · obtain ⟨vs, h1, h2, h3⟩ := h; exact ⟨vs, e _ (fun _ z => nomatch z) h1, h2.tx x, h3⟩
    · obtain ⟨vs, h1, h2, h3⟩ := h; exact ⟨vs, e _ (fun _ z => nomatch z) h1, h2.tx x, h3⟩
  | ldc t l =>
    cases t
    · obtain ⟨vs, ob, h1, h2, h3⟩ := h; exact ⟨vs, ob, e _ (fun _ z => nomatch z) h1, h2.tx x, h3⟩
    · obtain ⟨vs, ob, h1, h2, h3⟩ := h; exact ⟨vs, ob, e _ (fun _ z => nomatch z) h1, h2.tx x, h3⟩
  | dcr ks => obtain ⟨xs, h1, h2, h3, h4⟩ := h; exact ⟨xs, e _ (fun _ z => nomatch z) h1, h2, fun y hy => (h3 y hy).tx x, h4⟩
  | ins c l => obtain ⟨dx, vs, h1, h2, h3⟩ := h; exact ⟨dx, vs, e _ (fun _ z => nomatch z) h1, h2.tx x, h3⟩
/-! ### a cell dropped and laid again -/
def Hd.add (η : Hd) (g : Nat) (c : Cell) : Hd := ⟨η.nx, (g, c) :: η.cs⟩
theorem Hd.get_add (η : Hd) (g : Nat) (c : Cell) (q : Nat) : (η.add g c).get q = if q = g then some c else η.get q := by
  unfold Hd.get Hd.add
  by_cases h : q = g
  · subst h
    have e2 : Nat.beq q q = true := Nat.beq_refl _
    simp [look, e2]
  · have e2 : Nat.beq g q = false := by
      cases z : Nat.beq g q with
      | false => rfl
      | true => exact absurd (Nat.eq_of_beq_eq_true z).symm h
    simp [look, e2, h]
/-- W is Wg without the cell g; behind a step the cell is laid again -/
theorem Wl.Ok.readd (o : Wg.Ok K N) {g : Nat} {c : Cell} (h : Wg.η.get g = some c) {η0 : Hd} (hn : η0.nx = Wg.η.nx) (h0 : ∀ q, η0.get q = if q = g then none else Wg.η.get q)
    (x : Ext ⟨Wg.μ, η0, Wg.H⟩ W2) (o2 : W2.Ok K N) : Ext Wg ⟨W2.μ, W2.η.add g c, W2.H⟩ ∧ Wl.Ok K N ⟨W2.μ, W2.η.add g c, W2.H⟩ := by
  have hg : g < Wg.η.nx := o.lt g c h
  have nx : Wg.η.nx ≤ W2.η.nx := by have := x.nx; show Wg.η.nx ≤ _; rw [← hn]; exact this
  have mu : ∀ r, r < Wg.η.nx → W2.μ r = Wg.μ r := fun r hr => x.mu r (by show r < η0.nx; rw [hn]; exact hr)
  have keep : ∀ ob, noT ob → Wg.H (Wg.μ g) = some ob → W2.H (Wg.μ g) = some ob := fun ob ht hb => x.fr _ _ hb ht fun q d e md => by
    have e' : η0.get q = some d := e
    rw [h0] at e'
    by_cases z : q = g
    · rw [if_pos z] at e'; cases e'
    · rw [if_neg z] at e'; exact o.apart h e' z
  have ga : ∀ q, (W2.η.add g c).get q = if q = g then some c else W2.η.get q := fun q => Hd.get_add _ _ _ _
  have xx : Ext Wg ⟨W2.μ, W2.η.add g c, W2.H⟩ := by
    refine ⟨nx, mu, fun a u ha ht hna => ?_, fun a u ha => x.th a u ha, fun q d e => ?_⟩
    · exact x.fr a u ha ht fun q d e md => by
        have e' : η0.get q = some d := e
        rw [h0] at e'
        by_cases z : q = g
        · rw [if_pos z] at e'; cases e'
        · rw [if_neg z] at e'; exact hna q d e' md
    · have e' : (W2.η.add g c).get q = some d := e
      rw [ga] at e'
      by_cases z : q = g
      · rw [if_pos z] at e'; cases e'; exact .inl ⟨c, by rw [z]; exact h, id⟩
      · rw [if_neg z] at e'
        rcases x.cs q d e' with ⟨c0, e0, m0⟩ | ⟨h1, h2⟩
        · have e0' : η0.get q = some c0 := e0
          rw [h0, if_neg z] at e0'
          exact .inl ⟨c0, e0', m0⟩
        · exact .inr ⟨by have : η0.nx ≤ q := h1; omega, h2⟩
  have tg : Tx Wg ⟨W2.μ, W2.η.add g c, W2.H⟩ := xx.tx o
  have t2 : Tx W2 ⟨W2.μ, W2.η.add g c, W2.H⟩ := ⟨Nat.le_refl _, fun _ _ => rfl, fun _ _ e => e, fun _ _ _ e => e⟩
  have ap : ∀ q d, W2.η.get q = some d → q ≠ g → W2.μ q ≠ Wg.μ g := fun q d e y z => by
    rcases x.cs q d e with ⟨c0, e0, m0⟩ | ⟨h1, h2⟩
    · have e0' : η0.get q = some c0 := e0
      rw [h0, if_neg y] at e0'
      rw [mu q (o.lt q c0 e0')] at z
      exact o.apart h e0' y z
    · obtain ⟨ob, hob, ht⟩ := o.there h
      have h2' : NoC Wg.H (W2.μ q) := h2
      rw [z] at h2'; exact h2' ob hob ht
  refine ⟨xx, fun q d e => ?_, fun q d e => ?_, fun q s d1 d2 e1 e2 e => ?_, o2.tab⟩
  · have e' : (W2.η.add g c).get q = some d := e
    rw [ga] at e'
    show q < W2.η.nx
    by_cases z : q = g
    · omega
    · rw [if_neg z] at e'; exact o2.lt q d e'
  · have e' : (W2.η.add g c).get q = some d := e
    rw [ga] at e'
    by_cases z : q = g
    · rw [if_pos z] at e'; cases e'
      show RelC K N _ (W2.μ q) c
      rw [z, mu g hg]
      exact (o.cell g c h).tx tg keep
    · rw [if_neg z] at e'; exact (o2.cell q d e').tx t2 (fun _ _ e => e)
  · have e1' : (W2.η.add g c).get q = some d1 := e1
    have e2' : (W2.η.add g c).get s = some d2 := e2
    have e' : W2.μ q = W2.μ s := e
    rw [ga] at e1' e2'
    by_cases z : q = g
    · by_cases y : s = g
      · exact z.trans y.symm
      · rw [if_neg y] at e2'
        rw [z, mu g hg] at e'
        exact absurd e'.symm (ap s d2 e2' y)
    · rw [if_neg z] at e1'
      by_cases y : s = g
      · rw [y, mu g hg] at e'
        exact absurd e' (ap q d1 e1' z)
      · rw [if_neg y] at e2'
        exact o2.inj q s d1 d2 e1' e2' e'
/-! ### freeze -/
def frzAt (r : Nat) (l : List D) (η : Hd) : Hd := η.set r (.frz l)
def unfAt (r : Nat) (l : List D) (η : Hd) : Hd := η.set r (.lst l)
theorem Wl.Ok.freeze (o : W.Ok K N) {r : Nat} {l : List D} (h : W.η.get r = some (.lst l)) : Ext W ⟨W.μ, frzAt r l W.η, W.H⟩ ∧ Wl.Ok K N ⟨W.μ, frzAt r l W.η, W.H⟩ := by
  have gs : ∀ q, (frzAt r l W.η).get q = if q = r then some (.frz l) else W.η.get q := fun q => by
    have := Hd.get_set W.η r (.frz l) q
    rw [h] at this
    exact this
  have x : Ext W ⟨W.μ, frzAt r l W.η, W.H⟩ := by
    refine ⟨Nat.le_refl _, fun _ _ => rfl, fun _ _ e _ _ => e, fun a u e t => ⟨u, e, t⟩, fun q c e => ?_⟩
    have e' : (frzAt r l W.η).get q = some c := e
    rw [gs] at e'
    by_cases z : q = r
    · rw [if_pos z] at e'; cases e'; exact .inl ⟨.lst l, by rw [z]; exact h, fun m => by cases m⟩
    · rw [if_neg z] at e'; exact .inl ⟨c, e', id⟩
  have orig : ∀ q c, (frzAt r l W.η).get q = some c → ∃ c0, W.η.get q = some c0 := fun q c e => by
    rw [gs] at e
    by_cases z : q = r
    · exact ⟨_, by rw [z]; exact h⟩
    · rw [if_neg z] at e; exact ⟨c, e⟩
  refine ⟨x, fun q c e => ?_, fun q c e => ?_, fun q s c d e1 e2 e => ?_, o.tab⟩
  · obtain ⟨c0, e0⟩ := orig q c e; exact o.lt q c0 e0
  · have e' : (frzAt r l W.η).get q = some c := e
    rw [gs] at e'
    by_cases z : q = r
    · rw [if_pos z] at e'; cases e'
      obtain ⟨vs, h1, h2, h3⟩ := o.cell r _ h
      exact ⟨vs, by rw [z]; exact h1, h2.mono o x, h3⟩
    · rw [if_neg z] at e'; exact (o.cell q c e').mono o x (fun _ _ e => e)
  · obtain ⟨c0, e0⟩ := orig q c e1
    obtain ⟨d0, f0⟩ := orig s d e2
    exact o.inj q s c0 d0 e0 f0 e
theorem Wl.Ok.unfreeze (o : W.Ok K N) {r : Nat} {l : List D} (h : W.η.get r = some (.lst l)) (x1 : Ext ⟨W.μ, frzAt r l W.η, W.H⟩ W1) (o1 : W1.Ok K N) : Ext W ⟨W1.μ, unfAt r l W1.η, W1.H⟩ ∧ Wl.Ok K N ⟨W1.μ, unfAt r l W1.η, W1.H⟩ := by
  obtain ⟨xf, of⟩ := o.freeze h
  have x01 : Ext W W1 := xf.trans o of x1
  have hr : r < W.η.nx := o.lt r _ h
  have hm : W1.μ r = W.μ r := x01.mu r hr
  obtain ⟨vs, h1, h2, h3⟩ := o.cell r _ h
  have gf : ∀ q, (frzAt r l W.η).get q = if q = r then some (.frz l) else W.η.get q := fun q => by
    have := Hd.get_set W.η r (.frz l) q
    rw [h] at this
    exact this
  have hH : W1.H (W.μ r) = some (.lst vs) := x1.fr _ _ h1 (fun _ z => nomatch z) fun q c e m z => by
    have e' : (frzAt r l W.η).get q = some c := e
    rw [gf] at e'
    by_cases y : q = r
    · rw [if_pos y] at e'; cases e'; cases m
    · rw [if_neg y] at e'
      exact o.apart h e' y z
  have gs : ∀ q, (unfAt r l W1.η).get q = if q = r then (W1.η.get r).map (fun _ => Cell.lst l) else W1.η.get q := fun q => Hd.get_set W1.η r (.lst l) q
  have x2 : Ext W ⟨W1.μ, unfAt r l W1.η, W1.H⟩ := by
    refine ⟨x01.nx, x01.mu, x01.fr, x01.th, fun q c e => ?_⟩
    have e' : (unfAt r l W1.η).get q = some c := e
    rw [gs] at e'
    by_cases z : q = r
    · exact .inl ⟨.lst l, by rw [z]; exact h, fun _ => rfl⟩
    · rw [if_neg z] at e'; exact x01.cs q c e'
  have t2 : Tx W1 ⟨W1.μ, unfAt r l W1.η, W1.H⟩ := ⟨Nat.le_refl _, fun _ _ => rfl, fun _ _ e => e, fun _ _ _ e => e⟩
  have orig : ∀ q c, (unfAt r l W1.η).get q = some c → ∃ c0, W1.η.get q = some c0 := fun q c e => by
    rw [gs] at e
    by_cases z : q = r
    · rw [if_pos z] at e
      cases y : W1.η.get r with
      | none => rw [y] at e; cases e
      | some c0 => exact ⟨c0, by rw [z]; exact y⟩
    · rw [if_neg z] at e; exact ⟨c, e⟩
  refine ⟨x2, fun q c e => ?_, fun q c e => ?_, fun q s c d e1 e2 e => ?_, o1.tab⟩
  · obtain ⟨c0, e0⟩ := orig q c e; exact o1.lt q c0 e0
  · have e' : (unfAt r l W1.η).get q = some c := e
    rw [gs] at e'
    by_cases z : q = r
    · rw [if_pos z] at e'
      cases y : W1.η.get r with
      | none => rw [y] at e'; cases e'
      | some c0 =>
        rw [y] at e'; cases e'
        refine ⟨vs, ?_, h2.mono o x2, h3⟩
        show W1.H (W1.μ q) = some (.lst vs)
        rw [z, hm]; exact hH
    · rw [if_neg z] at e'; exact (o1.cell q c e').tx t2 (fun _ _ e => e)
  · obtain ⟨c0, e0⟩ := orig q c e1
    obtain ⟨d0, f0⟩ := orig s d e2
    exact o1.inj q s c0 d0 e0 f0 e
end
end DL

/-! statements, loops -/
namespace DL
open PySem PySem.Spec L2
section
variable {X : Cx} {N : Nm} {E : XK}
/-! ### blocks -/
def sNil : CS := fun σ η k => k.nx σ η
def sSeq (a b : CS) : CS := fun σ η k => a σ η { k with nx := fun σ1 η1 => b σ1 η1 k }
theorem Sk.next {K : PySem.W.Frag} {W : Wl} {k : KS} {Z : Ends} {nx : SD → Hd → Bool} {Qn : St → Hp → Prop} (h : Sk K N E W k Z) (hn : ∀ W' σd σ, Ext W W' → W'.Ok K N.toNames → RelS W' σd σ → nx σd W'.η = true → Qn σ W'.H) : Sk K N E W { k with nx := nx } { Z with nx := Qn } :=
  ⟨hn, h.rt, h.bk, h.ct, h.xc⟩
theorem jb_nil : JB X N E [] sNil := PSs.imp pss_nil fun Z σ H q => by
  obtain ⟨W, σd, k, rfl, o, s, h, hk⟩ := q
  exact hk.nx W σd σ (Ext.refl W) o s h
theorem jb_cons {st : Stmt} {rest : List Stmt} {a b : CS} (h1 : JS X N E st a) (h2 : JB X N E rest b) : JB X N E (st :: rest) (sSeq a b) := PSs.imp (pss_cons h1 h2) fun Z σ H q => by
  obtain ⟨W, σd, k, rfl, o, s, h, hk⟩ := q
  exact ⟨W, σd, { k with nx := fun σ1 η1 => b σ1 η1 k }, rfl, o, s, h, hk.next fun W1 σd1 σ1 x1 o1 s1 e1 => ⟨W1, σd1, k, rfl, o1, s1, e1, hk.mono o o1 x1⟩⟩
theorem jb_one {st : Stmt} {a : CS} (h1 : JS X N E st a) : JB X N E [st] a := pss_one h1
def sExpr (c : CE) : CS := fun σ η k => c σ η (fun _ η1 => k.nx σ η1) k.xc
theorem js_expr {e : Expr} {c : CE} {pos : Pos} (h : JE X N E e c) (hs : swapsWith e none pos.line X.env = pure false := by rfl) : JS X N E (.Expr e pos) (sExpr c) := PS.imp (ps_expr h hs) fun Z σ H q => by
  obtain ⟨W, σd, k, rfl, o, s, h, hk⟩ := q
  exact tE.bind o s hk.xc h fun W1 d v x1 o1 r1 s1 hx1 h1 => hk.nx W1 σd σ x1 o1 s1 h1
def sRet (c : CE) : CS := fun σ η k => c σ η k.rt k.xc
theorem js_ret {e : Expr} {c : CE} {pos : Pos} (h : JE X N E e c) : JS X N E (.Return (some e) pos) (sRet c) := PS.imp (ps_ret h) fun Z σ H q => by
  obtain ⟨W, σd, k, rfl, o, s, h, hk⟩ := q
  exact tE.bind o s hk.xc h fun W1 d v x1 o1 r1 s1 hx1 h1 => hk.rt W1 d v x1 o1 r1 h1
def sIf (t : CT) (a b : CS) : CS := fun σ η k => t σ η (fun x η1 => match x with
  | true => a σ η1 k
  | false => b σ η1 k) k.xc
theorem js_if {c : Expr} {a b : List Stmt} {ct : CT} {ca cb : CS} {pos : Pos} (hc : JT X N E c ct) (ha : JB X N E a ca) (hb : JB X N E b cb) : JS X N E (.If c a b pos) (sIf ct ca cb) := PS.imp (ps_if hc ha hb) fun Z σ H q => by
  obtain ⟨W, σd, k, rfl, o, s, h, hk⟩ := q
  refine tT.bind o s hk.xc h fun W1 b x1 o1 s1 hx1 h1 => ?_
  cases b with
  | true => rw [if_pos rfl]; exact ⟨W1, σd, k, rfl, o1, s1, h1, hk.mono o o1 x1⟩
  | false => rw [if_neg (by decide)]; exact ⟨W1, σd, k, rfl, o1, s1, h1, hk.mono o o1 x1⟩

/-! ### targets -/
abbrev CG := D → SD → Hd → (SD → Hd → Bool) → KX → Bool
abbrev CGs := List D → SD → Hd → (SD → Hd → Bool) → KX → Bool
def Gk (K : PySem.W.Frag) (N : Nm) (W : Wl) (k : SD → Hd → Bool) (Q : St → Hp → Prop) : Prop := ∀ W' σd σ, Ext W W' → W'.Ok K N.toNames → RelS W' σd σ → k σd W'.η = true → Q σ W'.H
theorem Gk.mono {K : PySem.W.Frag} {W W' : Wl} {k : SD → Hd → Bool} {Q : St → Hp → Prop} (o : W.Ok K N.toNames) (o' : W'.Ok K N.toNames) (x : Ext W W') (h : Gk K N W k Q) : Gk K N W' k Q := fun W2 a b y => h W2 a b (x.trans o o' y)
def tG (K : PySem.W.Frag) (N : Nm) (E : XK) (c : CG) : TG := fun v σ H Q => ∃ W d σd k kx, W.H = H ∧ W.Ok K N.toNames ∧ RelD W d v ∧ RelS W σd σ ∧ c d σd W.η k kx = true ∧ Gk K N W k Q ∧ Xk K N E W kx
def tGs (K : PySem.W.Frag) (N : Nm) (E : XK) (c : CGs) : TGs := fun vs σ H Q => ∃ W ds σd k kx, W.H = H ∧ W.Ok K N.toNames ∧ RelDs W ds vs ∧ RelS W σd σ ∧ c ds σd W.η k kx = true ∧ Gk K N W k Q ∧ Xk K N E W kx
def JG (X : Cx) (N : Nm) (E : XK) (e : Expr) (c : CG) : Prop := PG X e (tG X.K N E c)
def JGs (X : Cx) (N : Nm) (E : XK) (e : List Expr) (c : CGs) : Prop := PGs X e (tGs X.K N E c)
theorem PG.imp {e : Expr} {t t' : TG} (h : PG X e t) (f : ∀ v σ H Q, t' v σ H Q → t v σ H Q) : PG X e t' := ⟨fun pins s σ H v u Q I r q => h.run pins s σ H v u Q I r (f v σ H Q q)⟩
theorem PGs.imp {e : List Expr} {t t' : TGs} (h : PGs X e t) (f : ∀ v σ H Q, t' v σ H Q → t v σ H Q) : PGs X e t' := ⟨fun pins s σ H v u Q I r q => h.run pins s σ H v u Q I r (f v σ H Q q)⟩
def gNm (i : Nat) : CG := fun d σ η k _ => k (σ.set i (some d)) η
theorem jg_name {i : Nat} {x : Str} {pos : Pos} (h : PG X (.Name x pos) (gName i)) : JG X N E (.Name x pos) (gNm i) := PG.imp h fun v σ H Q q => by
  obtain ⟨W, d, σd, k, kx, rfl, o, r, s, h, hk, hx⟩ := q
  exact hk W _ _ (Ext.refl W) o (s.set i r) h
def gsNil : CGs := fun ds σ η k _ => match ds with
  | [] => k σ η
  | _ => false
def gsCons (g : CG) (r : CGs) : CGs := fun ds σ η k kx => match ds with
  | d :: ds' => g d σ η (fun σ1 η1 => r ds' σ1 η1 k kx) kx
  | [] => false
theorem jgs_nil : JGs X N E [] gsNil := PGs.imp pgs_nil fun v σ H Q q => by
  obtain ⟨W, ds, σd, k, kx, rfl, o, r, s, h, hk, hx⟩ := q
  cases ds with
  | nil => rw [RelDs] at r; exact ⟨r, hk W _ _ (Ext.refl W) o s h⟩
  | cons _ _ => cases h
theorem jgs_cons {e : Expr} {es : List Expr} {g : CG} {r : CGs} (hg : JG X N E e g) (hr : JGs X N E es r) (ha : ((assignEach (e :: es) X.env).map (·.2)) = assign e X.env :: ((assignEach es X.env).map (·.2)) := by rfl) : JGs X N E (e :: es) (gsCons g r) := PGs.imp (pgs_cons hg hr ha) fun v σ H Q q => by
  obtain ⟨W, ds, σd, k, kx, rfl, o, rr, s, h, hk, hx⟩ := q
  cases ds with
  | nil => cases h
  | cons d ds =>
    rw [RelDs] at rr
    obtain ⟨v, vs, rfl, r1, r2⟩ := rr
    exact ⟨v, vs, rfl, W, d, σd, _, kx, rfl, o, r1, s, h, fun W1 σd1 σ1 x1 o1 s1 h1 => ⟨W1, ds, σd1, k, kx, rfl, o1, r2.mono o x1, s1, h1, hk.mono o o1 x1, hx.mono o o1 x1⟩, hx⟩
def gTp (n : Nat) (r : CGs) : CG := fun d σ η k kx => match d with
  | .tup ds => match Nat.beq ds.length n with
    | true => r ds σ η k kx
    | false => false
  | _ => false
theorem jg_tup {es : List Expr} {kk : Nat} {pos : Pos} {r : CGs} {n : Nat} (hc : X.calm = true) (h : JGs X N E es r) (hl : (assignEach es X.env).length = n := by rfl) (hf : (assignEach es X.env).findIdx? (·.1) = none := by rfl) : JG X N E (.Tuple es kk pos) (gTp n r) :=
  PG.imp (pg_tup (n := n) hc h hl hf) fun v σ H Q q => by
    obtain ⟨W, d, σd, k, kx, rfl, o, rr, s, h, hk, hx⟩ := q
    cases d with
    | tup ds =>
      simp only [gTp] at h
      cases e : Nat.beq ds.length n with
      | false => rw [e] at h; cases h
      | true =>
        rw [e] at h
        obtain ⟨a, vs, rfl, hs, rs⟩ := relTup rr
        exact ⟨a, vs, rfl, SqT.of hs, by rw [← rs.length]; exact Nat.eq_of_beq_eq_true e, W, ds, σd, k, kx, rfl, o, rs, s, h, hk, hx⟩
    | _ => cases h
/-! a store to o[i] -/
def dput (k v : D) (kvs : List (D × D)) : List (D × D) := match kvs.any (fun p => eqK p.1 k) with
  | true => kvs.map fun p => match eqK p.1 k with
    | true => (p.1, v)
    | false => p
  | false => kvs ++ [(k, v)]
theorem any_relK {W : Wl} {k : D} {k' : Key} (hk : D.key k = some k') : ∀ {kvs : List (D × D)} {ps : List (Key × V)}, RelK W kvs ps → kvs.any (fun p => eqK p.1 k) = ps.any (fun kv => decide (kv.1 = k'))
  | [], ps, h => by rw [RelK] at h; subst h; rfl
  | (a, b) :: r, ps, h => by
    rw [RelK] at h
    obtain ⟨a', v, ps', rfl, h1, h2, h3⟩ := h
    simp only [List.any_cons]
    rw [key1_eq h1 hk, any_relK hk h3]
theorem any_relT {W : Wl} {l : List D} {k' : List Key} (hk : keysOf l = some k') : ∀ {kvs : List (D × D)} {ps : List (List Key × V)}, RelT W kvs ps → kvs.any (fun p => eqK p.1 (.tup l)) = ps.any (fun kv => decide (kv.1 = k'))
  | [], ps, h => by rw [RelT] at h; subst h; rfl
  | (a, b) :: r, ps, h => by
    rw [RelT] at h
    obtain ⟨a', v, ps', rfl, h1, h2, h3⟩ := h
    simp only [List.any_cons]
    cases a with
    | tup m => rw [keyT_eq h1 hk, any_relT hk h3]
    | _ => cases h1
theorem map_relK {W : Wl} {k : D} {k' : Key} {d : D} {w : V} (hk : D.key k = some k') (rd : RelD W d w) : ∀ {kvs : List (D × D)} {ps : List (Key × V)}, RelK W kvs ps →
    RelK W (kvs.map fun p => match eqK p.1 k with | true => (p.1, d) | false => p) (ps.map fun kv => if kv.1 = k' then (kv.1, w) else kv)
  | [], ps, h => by rw [RelK] at h; subst h; rw [List.map_nil, List.map_nil, RelK]
  | (a, b) :: r, ps, h => by
    rw [RelK] at h
    obtain ⟨a', v, ps', rfl, h1, h2, h3⟩ := h
    rw [List.map_cons, List.map_cons]
    have e := key1_eq h1 hk
    by_cases z : a' = k'
    · have e2 : eqK a k = true := by rw [e, decide_eq_true z]
      simp only [e2, if_pos z]
      rw [RelK]; exact ⟨a', w, _, rfl, h1, rd, map_relK hk rd h3⟩
    · have e2 : eqK a k = false := by rw [e, decide_eq_false z]
      simp only [e2, if_neg z]
      rw [RelK]; exact ⟨a', v, _, rfl, h1, h2, map_relK hk rd h3⟩
theorem map_relT {W : Wl} {l : List D} {k' : List Key} {d : D} {w : V} (hk : keysOf l = some k') (rd : RelD W d w) : ∀ {kvs : List (D × D)} {ps : List (List Key × V)}, RelT W kvs ps →
    RelT W (kvs.map fun p => match eqK p.1 (.tup l) with | true => (p.1, d) | false => p) (ps.map fun kv => if kv.1 = k' then (kv.1, w) else kv)
  | [], ps, h => by rw [RelT] at h; subst h; rw [List.map_nil, List.map_nil, RelT]
  | (a, b) :: r, ps, h => by
    rw [RelT] at h
    obtain ⟨a', v, ps', rfl, h1, h2, h3⟩ := h
    rw [List.map_cons, List.map_cons]
    have e : eqK a (.tup l) = decide (a' = k') := by
      cases a with
      | tup m => exact keyT_eq h1 hk
      | _ => cases h1
    by_cases z : a' = k'
    · have e2 : eqK a (.tup l) = true := by rw [e, decide_eq_true z]
      simp only [e2, if_pos z]
      rw [RelT]; exact ⟨a', w, _, rfl, h1, rd, map_relT hk rd h3⟩
    · have e2 : eqK a (.tup l) = false := by rw [e, decide_eq_false z]
      simp only [e2, if_neg z]
      rw [RelT]; exact ⟨a', v, _, rfl, h1, h2, map_relT hk rd h3⟩
theorem app_relK {W : Wl} {k : D} {k' : Key} {d : D} {w : V} (hk : D.key k = some k') (rd : RelD W d w) : ∀ {kvs : List (D × D)} {ps : List (Key × V)}, RelK W kvs ps → RelK W (kvs ++ [(k, d)]) (ps ++ [(k', w)])
  | [], ps, h => by rw [RelK] at h; subst h; rw [List.nil_append, List.nil_append, RelK]; exact ⟨k', w, [], rfl, hk, rd, by rw [RelK]⟩
  | (a, b) :: r, ps, h => by
    rw [RelK] at h
    obtain ⟨a', v, ps', rfl, h1, h2, h3⟩ := h
    rw [List.cons_append, List.cons_append, RelK]
    exact ⟨a', v, _, rfl, h1, h2, app_relK hk rd h3⟩
theorem app_relT {W : Wl} {k : D} {k' : List Key} {d : D} {w : V} (hk : D.tkey k = some k') (rd : RelD W d w) : ∀ {kvs : List (D × D)} {ps : List (List Key × V)}, RelT W kvs ps → RelT W (kvs ++ [(k, d)]) (ps ++ [(k', w)])
  | [], ps, h => by rw [RelT] at h; subst h; rw [List.nil_append, List.nil_append, RelT]; exact ⟨k', w, [], rfl, hk, rd, by rw [RelT]⟩
  | (a, b) :: r, ps, h => by
    rw [RelT] at h
    obtain ⟨a', v, ps', rfl, h1, h2, h3⟩ := h
    rw [List.cons_append, List.cons_append, RelT]
    exact ⟨a', v, _, rfl, h1, h2, app_relT hk rd h3⟩
theorem dput_relK {W : Wl} {k : D} {k' : Key} {d : D} {w : V} {kvs : List (D × D)} {ps : List (Key × V)} (hk : D.key k = some k') (rd : RelD W d w) (h : RelK W kvs ps) : RelK W (dput k d kvs) (putK ps k' w) := by
  unfold dput putK
  rw [any_relK hk h]
  cases e : ps.any (fun kv => decide (kv.1 = k')) with
  | true => rw [if_pos rfl]; exact map_relK hk rd h
  | false => rw [if_neg (by decide)]; exact app_relK hk rd h
theorem dput_relT {W : Wl} {l : List D} {k' : List Key} {d : D} {w : V} {kvs : List (D × D)} {ps : List (List Key × V)} (hk : keysOf l = some k') (rd : RelD W d w) (h : RelT W kvs ps) : RelT W (dput (.tup l) d kvs) (putK ps k' w) := by
  unfold dput putK
  rw [any_relT hk h]
  cases e : ps.any (fun kv => decide (kv.1 = k')) with
  | true => rw [if_pos rfl]; exact map_relT hk rd h
  | false => rw [if_neg (by decide)]; exact app_relT (k := .tup l) hk rd h
theorem dput_len (k d : D) (kvs : List (D × D)) : (dput k d kvs).length ≤ kvs.length + 1 := by
  unfold dput
  split
  · rw [List.length_map]; omega
  · rw [List.length_append]; exact Nat.le_refl _
theorem relK_len {W : Wl} : ∀ {kvs : List (D × D)} {ps : List (Key × V)}, RelK W kvs ps → kvs.length = ps.length
  | [], ps, h => by rw [RelK] at h; subst h; rfl
  | (a, b) :: r, ps, h => by rw [RelK] at h; obtain ⟨a', v, ps', rfl, h1, h2, h3⟩ := h; simp [relK_len h3]
theorem relT_len {W : Wl} : ∀ {kvs : List (D × D)} {ps : List (List Key × V)}, RelT W kvs ps → kvs.length = ps.length
  | [], ps, h => by rw [RelT] at h; subst h; rfl
  | (a, b) :: r, ps, h => by rw [RelT] at h; obtain ⟨a', v, ps', rfl, h1, h2, h3⟩ := h; simp [relT_len h3]
def fSet (o i v : D) (η : Hd) : Option Hd := match o with
  | .ref r => match η.get r with
    | some (.lst l) => match i with
      | .int j => match ixD l.length j with
        | some n => some (η.set r (.lst (l.set n v)))
        | none => none
      | _ => none
    | some (.dct t kvs) => match isKey t i, Nat.blt kvs.length line with
      | true, true => some (η.set r (.dct t (dput i v kvs)))
      | _, _ => none
    | _ => none
  | _ => none
theorem ixD_ixN {n : Nat} {i : Int} {k : Nat} (h : ixD n i = some k) : ixN n i = some k := by
  unfold ixN
  cases i with
  | ofNat j =>
    simp only [ixD] at h
    cases e : Nat.blt j n with
    | false => rw [e] at h; cases h
    | true =>
      rw [e] at h
      have hb : j < n := Nat.le_of_ble_eq_true e
      rw [if_pos (show (0 : Int) ≤ Int.ofNat j from Int.natCast_nonneg j), if_pos (show Int.ofNat j < (n : Int) from by show ((j : Nat) : Int) < _; omega)]
      exact h
  | negSucc j =>
    simp only [ixD] at h
    cases e : Nat.ble (j + 1) n with
    | false => rw [e] at h; cases h
    | true =>
      rw [e] at h
      have hb : j + 1 ≤ n := Nat.le_of_ble_eq_true e
      have e1 : Int.negSucc j = -((j + 1 : Nat) : Int) := rfl
      rw [if_neg (show ¬ (0 : Int) ≤ Int.negSucc j from by rw [e1]; omega), if_pos (show -(n : Int) ≤ Int.negSucc j from by rw [e1]; omega), ← h]
      congr 1; rw [e1]; omega
def tSet (K : PySem.W.Frag) (N : Nm) : TSet := fun o i v H Q => ∃ W dq di dv η', W.H = H ∧ W.Ok K N.toNames ∧ RelD W dq o ∧ RelD W di i ∧ RelD W dv v ∧ fSet dq di dv W.η = some η' ∧ (∀ W', Ext W W' → W'.Ok K N.toNames → W'.η = η' → Q W'.H)
theorem PSet.or {t t' : TSet} (h : PSet X t) (h' : PSet X t') : PSet X (fun o i v H Q => t o i v H Q ∨ t' o i v H Q) :=
  fun pins s σ H o i v ov iv u Q I r1 r2 r3 q => q.elim (h pins s σ H o i v ov iv u Q I r1 r2 r3) (h' pins s σ H o i v ov iv u Q I r1 r2 r3)
theorem PSet.imp {t t' : TSet} (h : PSet X t) (f : ∀ o i v H Q, t' o i v H Q → t o i v H Q) : PSet X t' :=
  fun pins s σ H o i v ov iv u Q I r1 r2 r3 q => h pins s σ H o i v ov iv u Q I r1 r2 r3 (f o i v H Q q)
theorem pset_all (hu : X.A.units + 1 < cLine) : PSet X (tSet X.K N) := PSet.imp (PSet.or set_list (set_dict hu)) fun vo vi vv H Q q => by
  obtain ⟨W, dq, di, dv, η', rfl, o, ro, ri, rv, hf, hq⟩ := q
  cases dq with
  | ref r =>
    simp only [fSet] at hf
    cases e : W.η.get r with
    | none => rw [e] at hf; cases hf
    | some c =>
      rw [e] at hf
      rw [relRef ro]
      cases c with
      | lst l =>
        cases di with
        | int j =>
          simp only at hf
          cases ek : ixD l.length j with
          | none => rw [ek] at hf; cases hf
          | some n =>
            rw [ek] at hf
            cases hf
            obtain ⟨vs, g1, g2, g3⟩ := o.cell r _ e
            rw [relInt ri]
            refine .inl ⟨_, vs, j, n, rfl, rfl, g1, by rw [← g2.length]; exact ixD_ixN ek, ?_⟩
            obtain ⟨x, o'⟩ := o.put (c := .lst (l.set n dv)) (ob := .lst (vs.set n vv)) e rfl (fun x => ⟨_, upd_same, (g2.mono o x).set (rv.mono o x) n, by rw [List.length_set]; exact g3⟩)
            exact hq _ x o' rfl
        | _ => cases hf
      | dct t kvs =>
        simp only at hf
        cases ek : isKey t di with
        | false => rw [ek] at hf; cases hf
        | true =>
          cases el : Nat.blt kvs.length line with
          | false => rw [ek, el] at hf; cases hf
          | true =>
            rw [ek, el] at hf
            cases hf
            have hl : kvs.length < sizeLine := Nat.le_of_ble_eq_true el
            have hl2 : (dput di dv kvs).length ≤ sizeLine := Nat.le_trans (dput_len _ _ _) hl
            have c := o.cell r _ e
            cases t with
            | false =>
              obtain ⟨ps, h1, h2, h3⟩ := c
              obtain ⟨k', hk'⟩ := isKey_key ek
              have ev := key_rel hk' ri
              subst ev
              refine .inr ⟨W.μ r, _, rfl, .inl ⟨ps, k', h1, rfl, by rw [← relK_len h2]; exact hl, rfl⟩, ?_⟩
              obtain ⟨x, o'⟩ := o.put (c := .dct false (dput di dv kvs)) (ob := .dK (putK ps k' vv)) e rfl (fun x => ⟨_, upd_same, dput_relK hk' (rv.mono o x) (h2.mono o x), hl2⟩)
              exact hq _ x o' rfl
            | true =>
              obtain ⟨ps, h1, h2, h3⟩ := c
              cases di with
              | tup l =>
                obtain ⟨k', hk'⟩ := isKey_keys ek
                obtain ⟨q, vs, rfl, hqs, rq⟩ := relTup ri
                have ev := keys_rel hk' rq
                subst ev
                refine .inr ⟨W.μ r, _, rfl, .inr ⟨ps, k', q, h1, rfl, hqs, by rw [← relT_len h2]; exact hl, rfl⟩, ?_⟩
                obtain ⟨x, o'⟩ := o.put (c := .dct true (dput (.tup l) dv kvs)) (ob := .dT (putK ps k' vv)) e rfl (fun x => ⟨_, upd_same, dput_relT hk' (rv.mono o x) (h2.mono o x), hl2⟩)
                exact hq _ x o' rfl
              | _ => cases ek
      | _ => cases hf
  | _ => cases hf
def gSb (co ci : CE) : CG := fun d σ η k kx => co σ η (fun x η1 => ci σ η1 (fun y η2 => match fSet x y d η2 with
  | some η3 => k σ η3
  | none => false) kx) kx
theorem jg_sub {o i : Expr} {co ci : CE} {pos : Pos} (hu : X.A.units + 1 < cLine) (ho : JE X N E o co) (hi : JE X N E i ci)
    (hs : ∀ v, assign (.Subscript o i pos) X.env v = (do let ov ← holding [v] (eval o X.env); let iv ← holding [v, ov] (eval i X.env); standAt pos; holding [v, ov, iv] (setItem ov iv v); release [v, ov, iv] []) := by intro _; rfl) : JG X N E (.Subscript o i pos) (gSb co ci) :=
  PG.imp (pg_sub ho hi (pset_all (N := N) hu) hs) fun v σ H Q q => by
    obtain ⟨W, d, σd, k, kx, rfl, o, r, s, h, hk, hx⟩ := q
    refine tE.bind o s hx h fun W1 dx x x1 o1 r1 s1 hx1 h1 => ?_
    refine tE.bind o1 s1 hx1 h1 fun W2 dy y x2 o2 r2 s2 hx2 h2 => ?_
    cases e : fSet dx dy d W2.η with
    | none => rw [e] at h2; cases h2
    | some η' =>
      rw [e] at h2
      have x02 := x1.trans o o1 x2
      exact ⟨W2, dx, dy, d, η', rfl, o2, r1.mono o1 x2, r2, r.mono o x02, e, fun W3 x3 o3 e3 => hk W3 σd σ (x02.trans o o2 x3) o3 (s2.mono o2 x3) (by rw [e3]; exact h2)⟩

/-! ### assignments -/
def sAsg (c : CE) (g : CG) : CS := fun σ η k => c σ η (fun d η1 => g d σ η1 k.nx k.xc) k.xc
theorem tAsg_of {K : PySem.W.Frag} {c : CE} {g : CG} {Z : Ends} {σ : St} {H : Hp} (h : tS K N E (sAsg c g) Z σ H) : tAsg (tE K N E c) (tG K N E g) Z σ H := by
  obtain ⟨W, σd, k, rfl, o, s, h, hk⟩ := h
  exact tE.bind o s hk.xc h fun W1 d v x1 o1 r1 s1 hx1 h1 => ⟨W1, d, σd, k.nx, k.xc, rfl, o1, r1, s1, h1, fun W2 σd2 σ2 x2 o2 s2 h2 => hk.nx W2 σd2 σ2 (x1.trans o o1 x2) o2 s2 h2, hx1⟩
theorem js_asg {tg e : Expr} {c : CE} {g : CG} {pos : Pos} (he : JE X N E e c) (hg : JG X N E tg g) (h1 : swapsWithSole [tg] e pos.line X.env = pure false := by rfl) (h2 : swappedStores [tg] e X.env = pure none := by rfl)
    (h3 : (assignEach [tg] X.env).map (·.2) = [assign tg X.env] := by rfl) : JS X N E (.Assign [tg] e pos) (sAsg c g) := PS.imp (ps_asg he hg h1 h2 h3) fun Z σ H q => tAsg_of q
theorem tAsg_name {K : PySem.W.Frag} {c : CE} {i : Nat} {te : TE} {Z : Ends} {σ : St} {H : Hp} (ht : ∀ σ H Q, tE K N E c σ H Q → te σ H Q) (h : tS K N E (sAsg c (gNm i)) Z σ H) : tAsg te (gName i) Z σ H := by
  obtain ⟨W, σd, k, rfl, o, s, h, hk⟩ := h
  exact ht _ _ _ (tE.bind o s hk.xc h fun W1 d v x1 o1 r1 s1 hx1 h1 => hk.nx W1 _ _ x1 o1 (s1.set i r1) h1)
theorem js_set {i : Nat} {x : Str} {e : Expr} {c : CE} {pos pos' : Pos} (hN : X.N.Nodup) (hi : X.N[i]? = some x) (hx : L2.Loc X.env.scope x) (he : JE X N E e c) (h1 : swapsWith e (some (.Name x pos')) pos.line X.env = pure false := by rfl)
    (hf : X.fn x = true ∨ X.env.scope.names.lookup x = some .local := by first | exact .inl rfl | exact .inr rfl | assumption) : JS X N E (.Assign [.Name x pos'] e pos) (sAsg c (gNm i)) := PS.imp (ps_set hN hi hx he h1 hf) fun Z σ H q => tAsg_name (fun _ _ _ h => h) q
def sPar (i j : Nat) (a : CA) : CS := fun σ η k => a σ η (fun ds η1 => match ds with
  | [x, y] => k.nx ((σ.set i (some x)).set j (some y)) η1
  | _ => false) k.xc
theorem js_par {i j : Nat} {x y : Str} {a b : Expr} {ca : CA} {px py pt pos : Pos} {kt k2 pt2} (hc : X.calm = true) (hN : X.N.Nodup) (hi : X.N[i]? = some x) (hj : X.N[j]? = some y) (hij : i ≠ j) (hx : X.env.scope.names.lookup x = some .local) (hy : X.env.scope.names.lookup y = some .local)
    (ha : JA X N E [a, b] ca) (hw : swappedStores [.Tuple [.Name x px, .Name y py] kt pt] (.Tuple [a, b] k2 pt2) X.env = pure (some [x, y])) : JS X N E (.Assign [.Tuple [.Name x px, .Name y py] kt pt] (.Tuple [a, b] k2 pt2) pos) (sPar i j ca) :=
  PS.imp (ps_par hc hN hi hj hij hx hy ha hw) fun Z σ H q => by
    obtain ⟨W, σd, k, rfl, o, s, h, hk⟩ := q
    refine tAr.bind o s hk.xc h fun W1 ds vs x1 o1 r1 s1 hx1 h1 => ?_
    match ds, r1, h1 with
    | [d, e], r1, h1 =>
      obtain ⟨v, u, rfl, ra, rb⟩ := rel2 r1
      exact ⟨v, u, rfl, hk.nx W1 _ _ x1 o1 ((s1.set i ra).set j rb) h1⟩
    | [], _, h1 => cases h1
    | [_], _, h1 => cases h1
    | _ :: _ :: _ :: _, _, h1 => cases h1
theorem rel3 {W : Wl} {d e f : D} {vs : List V} (h : RelDs W [d, e, f] vs) : ∃ v u w, vs = [v, u, w] ∧ RelD W d v ∧ RelD W e u ∧ RelD W f w := by
  rw [RelDs] at h
  obtain ⟨v, vs', rfl, h1, h2⟩ := h
  obtain ⟨u, w, rfl, h3, h4⟩ := rel2 h2
  exact ⟨v, u, w, rfl, h1, h3, h4⟩
def sPar3 (i j l : Nat) (a : CA) : CS := fun σ η k => a σ η (fun ds η1 => match ds with
  | [x, y, z] => k.nx (((σ.set i (some x)).set j (some y)).set l (some z)) η1
  | _ => false) k.xc
/-! x op= e -/
def sAug (i : Nat) (f : F2) (c : CE) : CS := fun σ η k => match σ[i]? with
  | some (some x) => c σ η (fun y η1 => match f x y η1 with
    | some (d, η2) => k.nx (σ.set i (some d)) η2
    | none => false) k.xc
  | _ => false
theorem js_aug {i : Nat} {x : Str} {e : Expr} {c : CE} {op : Operator} {f : F2} {pos pos' : Pos} (hN : X.N.Nodup) (hi : X.N[i]? = some x) (hx : L2.Loc X.env.scope x) (he : JE X N E e c) (ho : OpR X (inplaceOp op) (r2 X.K N f))
    (hf : X.fn x = true ∨ X.env.scope.names.lookup x = some .local := by first | exact .inl rfl | exact .inr rfl | assumption) : JS X N E (.AugAssign (.Name x pos') op e pos) (sAug i f c) :=
  PS.imp (ps_aug hN hi hx he ho hf) fun Z σ H q => by
    obtain ⟨W, σd, k, rfl, o, s, h, hk⟩ := q
    simp only [sAug] at h
    cases e : σd[i]? with
    | none => rw [e] at h; cases h
    | some y =>
      cases y with
      | none => rw [e] at h; cases h
      | some d =>
        rw [e] at h
        obtain ⟨v, ev, rv⟩ := s.get i d e
        refine ⟨v, ev, tE.bind o s hk.xc h fun W1 dy y x1 o1 r1 s1 hx1 h1 => ?_⟩
        cases ef : f d dy W1.η with
        | none => rw [ef] at h1; cases h1
        | some p =>
          obtain ⟨z, η'⟩ := p
          rw [ef] at h1
          exact ⟨W1, d, dy, z, η', rfl, o1, rv.mono o x1, r1, ef, fun W' w x3 o3 e3 r3 => hk.nx W' _ _ (x1.trans o o1 x3) o3 ((s1.mono o1 x3).set i r3) (by rw [e3]; exact h1)⟩
theorem opd_idiv : OpR X (inplaceOp .FloorDiv) (r2 X.K N (fI2c divOk idiv)) := opd_intc iop_fdiv divOk_ok fun _ _ => rfl
end
end DL

/-! what a for walks, for, while, comprehensions -/
namespace DL
open PySem PySem.Spec L2
/-- what is walked: the items; a cell that must not change meanwhile, with its list -/
structure Its where
  l : List D
  fz : Option (Nat × List D)
def Its.fr (it : Its) (η : Hd) : Hd := match it.fz with
  | none => η
  | some (r, l) => frzAt r l η
def Its.un (it : Its) (η : Hd) : Hd := match it.fz with
  | none => η
  | some (r, l) => unfAt r l η
def FzOk (W : Wl) (it : Its) : Prop := ∀ r l, it.fz = some (r, l) → W.η.get r = some (.lst l)
def Its.w (it : Its) (W : Wl) : Wl := ⟨W.μ, it.fr W.η, W.H⟩
/-- what a walk leans on stays -/
structure Sty (Wf W1 : Wl) : Prop where
  tx : Tx Wf W1
  fz : ∀ r l vs, Wf.η.get r = some (.frz l) → Wf.H (Wf.μ r) = some (.lst vs) → W1.H (Wf.μ r) = some (.lst vs)
  ld : ∀ r t l ob u, Wf.η.get r = some (.ldc t l) → Wf.H (Wf.μ r) = some (.frz ob u) → W1.H (Wf.μ r) = some (.frz ob u)
theorem Ext.sty {K : PySem.W.Frag} {N : Names} {W W1 : Wl} (o : W.Ok K N) (x : Ext W W1) : Sty W W1 := ⟨x.tx o, fun r l vs h hv => x.fr _ _ hv (fun _ z => nomatch z) fun q c e m z => by
  by_cases y : q = r
  · rw [y, h] at e; cases e; cases m
  · exact o.apart h e y z, fun r t l ob u h hv => x.fr _ _ hv (fun _ z => nomatch z) fun q c e m z => by
  by_cases y : q = r
  · rw [y, h] at e; cases e; cases m
  · exact o.apart h e y z⟩
structure WalkD (K : PySem.W.Frag) (N : Nm) (Wf : Wl) (l : List D) (J : It) : Prop where
  go : ∀ W1 i, Sty Wf W1 → W1.Ok K N.toNames → i < l.length → J.go i W1.H
  stop : ∀ W1, Sty Wf W1 → W1.Ok K N.toNames → J.stop l.length W1.H
  yld : ∀ W1 i x H', Sty Wf W1 → W1.Ok K N.toNames → i < l.length → J.yld i W1.H x H' → ∃ W2 d, l[i]? = some d ∧ Ext W1 W2 ∧ W2.Ok K N.toNames ∧ W2.H = H' ∧ W2.η = W1.η ∧ RelD W2 d x
abbrev CI := SD → Hd → (Its → Hd → Bool) → KX → Bool
def tI (K : PySem.W.Frag) (N : Nm) (E : XK) (c : CI) : TI := fun σ H R => ∃ W σd k kx, W.H = H ∧ W.Ok K N.toNames ∧ RelS W σd σ ∧ c σd W.η k kx = true ∧
  (∀ W' it J, Ext W W' → W'.Ok K N.toNames → FzOk W' it → WalkD K N (it.w W') it.l J → k it W'.η = true → R J W'.H) ∧ Xk K N E W kx
def JI (X : Cx) (N : Nm) (E : XK) (tg iter : Expr) (c : CI) : Prop := PI X tg iter (tI X.K N E c)
section
variable {X : Cx} {N : Nm} {E : XK}
theorem PI.imp {tg iter : Expr} {t t' : TI} (h : PI X tg iter t) (f : ∀ σ H R, t' σ H R → t σ H R) : PI X tg iter t' := ⟨fun pins s σ H R I q => h.run pins s σ H R I (f σ H R q)⟩
/-- frozen and thawed -/
theorem Its.froze {K : PySem.W.Frag} {W : Wl} {it : Its} (o : W.Ok K N.toNames) (h : FzOk W it) : Ext W (it.w W) ∧ (it.w W).Ok K N.toNames := by
  unfold Its.w Its.fr
  cases e : it.fz with
  | none => exact ⟨Ext.refl W, o⟩
  | some p => obtain ⟨r, l⟩ := p; exact o.freeze (h r l e)
theorem Its.thaw {K : PySem.W.Frag} {W W1 : Wl} {it : Its} (o : W.Ok K N.toNames) (h : FzOk W it) (x : Ext (it.w W) W1) (o1 : W1.Ok K N.toNames) : Ext W ⟨W1.μ, it.un W1.η, W1.H⟩ ∧ Wl.Ok K N.toNames ⟨W1.μ, it.un W1.η, W1.H⟩ := by
  unfold Its.un
  unfold Its.w Its.fr at x
  cases e : it.fz with
  | none => rw [e] at x; exact ⟨x, o1⟩
  | some p => obtain ⟨r, l⟩ := p; rw [e] at x; exact o.unfreeze (h r l e) x o1
theorem Its.un_nx (it : Its) (η : Hd) : (it.un η).nx = η.nx := by
  unfold Its.un; cases it.fz with
  | none => rfl
  | some p => rfl
theorem thaw_tx {W1 : Wl} (it : Its) : Tx W1 ⟨W1.μ, it.un W1.η, W1.H⟩ := ⟨Nat.le_of_eq (Its.un_nx it W1.η).symm, fun _ _ => rfl, fun _ _ e => e, fun _ _ _ e => e⟩
theorem RelS.tx {W W1 : Wl} {σd : SD} {σ : St} (x : Tx W W1) (h : RelS W σd σ) : RelS W1 σd σ := ⟨h.len, fun i d e => by obtain ⟨v, e', r⟩ := h.get i d e; exact ⟨v, e', r.tx x⟩⟩
theorem RelX.tx {W W1 : Wl} {x : Xc} {cls : Value} {dd : Option Addr} (t : Tx W W1) (hx : ∀ a f, W.H a = some (.xd f) → W1.H a = some (.xd f)) (h : RelX N W x cls dd) : RelX N W1 x cls dd := by
  obtain ⟨h1, h2⟩ := h
  refine ⟨h1, ?_⟩
  cases e : x.p with
  | none => rw [e] at h2; exact h2
  | some d => rw [e] at h2; obtain ⟨a, v, q1, q2, q3⟩ := h2; exact ⟨a, v, q1, hx a _ q2, q3.tx t⟩
/-- what is wanted behind, where a cell is frozen meanwhile -/
def KS.thaw (k : KS) (it : Its) : KS := ⟨fun σ η => k.nx σ (it.un η), fun d η => k.rt d (it.un η), fun σ η => k.bk σ (it.un η), fun σ η => k.ct σ (it.un η), fun x η => k.xc x (it.un η)⟩
theorem Sk.thaw {K : PySem.W.Frag} {W : Wl} {k : KS} {Z : Ends} {it : Its} (o : W.Ok K N.toNames) (h : FzOk W it) (hk : Sk K N E W k Z) : Sk K N E (it.w W) (k.thaw it) Z where
  nx := fun W1 σd σ x o1 s e => by
    obtain ⟨x2, o2⟩ := Its.thaw o h x o1
    exact hk.nx ⟨W1.μ, it.un W1.η, W1.H⟩ σd σ x2 o2 (s.tx (thaw_tx it)) e
  rt := fun W1 d v x o1 r e => by
    obtain ⟨x2, o2⟩ := Its.thaw o h x o1
    exact hk.rt ⟨W1.μ, it.un W1.η, W1.H⟩ d v x2 o2 (r.tx (thaw_tx it)) e
  bk := fun W1 σd σ x o1 s e => by
    obtain ⟨x2, o2⟩ := Its.thaw o h x o1
    exact hk.bk ⟨W1.μ, it.un W1.η, W1.H⟩ σd σ x2 o2 (s.tx (thaw_tx it)) e
  ct := fun W1 σd σ x o1 s e => by
    obtain ⟨x2, o2⟩ := Its.thaw o h x o1
    exact hk.ct ⟨W1.μ, it.un W1.η, W1.H⟩ σd σ x2 o2 (s.tx (thaw_tx it)) e
  xc := fun W1 xx cls dd x o1 r e => by
    obtain ⟨x2, o2⟩ := Its.thaw o h x o1
    exact hk.xc ⟨W1.μ, it.un W1.η, W1.H⟩ xx cls dd x2 o2 (r.tx (thaw_tx it) fun _ _ e => e) e

/-! ### the sources -/
/-- a list or a tuple -/
def iSeq (K : PySem.W.Frag) (tl : TE) : TI := fun σ H R => tl σ H fun x H1 => (∃ a, x = .ref a ∧ (∃ xs, SqL K H1 a xs) ∧ R (Itl K a) H1) ∨ (∃ a, x = .ref a ∧ (∃ xs, SqT K H1 a xs) ∧ R (Itt K a) H1)
theorem pi_seq {tg l : Expr} {tl : TE} (hl : PE X l tl) : PI X tg l (iSeq X.K tl) := by
  refine ⟨fun pins s σ H R I h => ?_⟩
  refine thn (hl.run pins s σ H _ I h) fun v s1 ⟨x, H1, I1, r1, q1⟩ => ?_
  rcases q1 with ⟨a, e, ⟨xs, hq⟩, q⟩ | ⟨a, e, ⟨xs, hq⟩, q⟩
  · subst e
    cases r1
    obtain ⟨its, rv, p, hz⟩ := I1.list hq
    refine wpAny_pyIter_list p.isList ?_
    refine ⟨s1.heap.objs.size, [s1.heap.objs.size], _, _, H1, rfl, I1.kept (t' := s1.toks) fun b o e => Heap.get?_push_of_some _ e, turn_list a _, ⟨_, Heap.get?_push_size _ rfl, rfl, rfl⟩, fun b hb => ?_, q⟩
    have e : b = s1.heap.objs.size := by simpa using hb
    subst e
    exact I1.fpOk (Nat.le_refl _) (I1.hok.fresh (Nat.le_refl _))
  · subst e
    cases r1
    obtain ⟨its, rv, p, hz⟩ := I1.tuple hq
    refine wpAny_pyIter_tuple (show s1.heap.IsTuple a its.toArray from p) ?_
    refine ⟨s1.heap.objs.size, [s1.heap.objs.size], _, _, H1, rfl, I1.kept (t' := s1.toks) fun b o e => Heap.get?_push_of_some _ e, turn_tuple a _, ⟨_, Heap.get?_push_size _ rfl, rfl, rfl⟩, fun b hb => ?_, q⟩
    have e : b = s1.heap.objs.size := by simpa using hb
    subst e
    exact I1.fpOk (Nat.le_refl _) (I1.hok.fresh (Nat.le_refl _))
/-- what a value gives to walk -/
def itsOf (η : Hd) : D → Option Its
  | .tup l => some ⟨l, none⟩
  | .ref r => match η.get r with
    | some (.lst l) => some ⟨l, some (r, l)⟩
    | some (.frz l) => some ⟨l, none⟩
    | _ => none
  | _ => none
def ciSeq (c : CE) : CI := fun σ η k kx => c σ η (fun d η1 => match itsOf η1 d with
  | some it => k it η1
  | none => false) kx
/-- a list that stays -/
theorem walkD_list {K : PySem.W.Frag} {Wf : Wl} {a : Addr} {l : List D} {vs : List V} (st : ∀ W1, Sty Wf W1 → W1.H a = some (.lst vs)) (r : RelDs Wf l vs) : WalkD K N Wf l (Itl K a) := by
  have hl := r.length
  refine ⟨fun W1 i x o hi => ?_, fun W1 x o => ?_, fun W1 i y H' x o hi hy => ?_⟩
  · exact ⟨vs, vs[i]'(by omega), SqL.of (st W1 x), by simp [show i < vs.length by omega]⟩
  · exact ⟨vs, SqL.of (st W1 x), by omega⟩
  · obtain ⟨e1, e2⟩ := hy
    obtain ⟨d, e3, e4⟩ := (r.tx x.tx).get (e2 vs (SqL.of (st W1 x)))
    exact ⟨W1, d, e3, Ext.refl W1, o, e1.symm, rfl, e4⟩
theorem walkD_tup {K : PySem.W.Frag} {Wf : Wl} {a : Addr} {l : List D} {vs : List V} (h : Wf.H a = some (.tup vs)) (r : RelDs Wf l vs) : WalkD K N Wf l (Itt K a) := by
  have hl := r.length
  refine ⟨fun W1 i x o hi => ?_, fun W1 x o => ?_, fun W1 i y H' x o hi hy => ?_⟩
  · exact ⟨vs, vs[i]'(by omega), SqT.of (x.tx.tp _ _ h), by simp [show i < vs.length by omega]⟩
  · exact ⟨vs, SqT.of (x.tx.tp _ _ h), by omega⟩
  · obtain ⟨e1, e2⟩ := hy
    obtain ⟨d, e3, e4⟩ := (r.tx x.tx).get (e2 vs (SqT.of (x.tx.tp _ _ h)))
    exact ⟨W1, d, e3, Ext.refl W1, o, e1.symm, rfl, e4⟩
theorem its_walk {K : PySem.W.Frag} {W : Wl} {d : D} {v : V} {it : Its} (o : W.Ok K N.toNames) (r : RelD W d v) (h : itsOf W.η d = some it) : FzOk W it ∧
    ((∃ a, v = .ref a ∧ (∃ xs, SqL K W.H a xs) ∧ WalkD K N (it.w W) it.l (Itl K a)) ∨ (∃ a, v = .ref a ∧ (∃ xs, SqT K W.H a xs) ∧ WalkD K N (it.w W) it.l (Itt K a))) := by
  cases d with
  | tup l =>
    cases h
    obtain ⟨a, vs, rfl, hs, rs⟩ := relTup r
    exact ⟨(fun r l e => nomatch e), .inr ⟨a, rfl, ⟨vs, SqT.of hs⟩, walkD_tup (Wf := W) hs rs⟩⟩
  | ref q =>
    simp only [itsOf] at h
    cases e : W.η.get q with
    | none => rw [e] at h; cases h
    | some c =>
      rw [e] at h
      rw [relRef r]
      cases c with
      | lst l =>
        cases h
        have fz : FzOk W ⟨l, some (q, l)⟩ := fun r l' e' => by cases e'; exact e
        obtain ⟨vs, h1, h2, h3⟩ := o.cell q _ e
        obtain ⟨xf, of⟩ := Its.froze o fz
        have gq : (Its.w ⟨l, some (q, l)⟩ W).η.get q = some (.frz l) := by
          show (frzAt q l W.η).get q = some (.frz l)
          unfold frzAt
          rw [Hd.get_set, if_pos rfl, e]; rfl
        exact ⟨fz, .inl ⟨_, rfl, ⟨vs, SqL.of h1⟩, walkD_list (fun W1 x => x.fz q l _ gq h1) (h2.mono o xf)⟩⟩
      | frz l =>
        cases h
        obtain ⟨vs, h1, h2, h3⟩ := o.cell q _ e
        exact ⟨(fun r l e => nomatch e), .inl ⟨_, rfl, ⟨vs, SqL.of h1⟩, walkD_list (Wf := W) (fun W1 x => x.fz q l _ e h1) h2⟩⟩
      | _ => cases h
  | _ => cases h
theorem ji_seq {tg e : Expr} {c : CE} (h : JE X N E e c) : JI X N E tg e (ciSeq c) := PI.imp (pi_seq h) fun σ H R q => by
  obtain ⟨W, σd, k, kx, rfl, o, s, h, hk, hx⟩ := q
  refine tE.bind o s hx h fun W1 d v x1 o1 r1 s1 hx1 h1 => ?_
  cases e : itsOf W1.η d with
  | none => rw [e] at h1; cases h1
  | some it =>
    rw [e] at h1
    obtain ⟨fz, h | h⟩ := its_walk o1 r1 e
    · obtain ⟨a, e1, e2, e3⟩ := h
      exact .inl ⟨a, e1, e2, hk W1 it _ x1 o1 fz e3 h1⟩
    · obtain ⟨a, e1, e2, e3⟩ := h
      exact .inr ⟨a, e1, e2, hk W1 it _ x1 o1 fz e3 h1⟩
/-- range -/
def rangeD : Nat → Int → List D
  | 0, _ => []
  | n + 1, i => .int i :: rangeD n (i + 1)
theorem rangeD_len : ∀ (n : Nat) (i : Int), (rangeD n i).length = n
  | 0, _ => rfl
  | n + 1, i => by rw [rangeD, List.length_cons, rangeD_len n (i + 1)]
theorem rangeD_get : ∀ (n : Nat) (i : Int) (k : Nat), k < n → (rangeD n i)[k]? = some (.int (i + k))
  | 0, _, k, h => absurd h (by omega)
  | n + 1, i, 0, h => by rw [rangeD]; simp
  | n + 1, i, k + 1, h => by
    rw [rangeD]
    show (rangeD n (i + 1))[k]? = _
    rw [rangeD_get n (i + 1) k (by omega)]
    congr 2; omega
def rOk (i : Int) : Bool := Nat.ble i.natAbs 1000000000000000000
theorem rOk_ok {i : Int} (h : rOk i = true) : -(2 ^ 62) ≤ i ∧ i < 2 ^ 62 := by
  have := Nat.le_of_ble_eq_true h
  omega
def ciR1 (a : CA) : CI := fun σ η k kx => a σ η (fun ds η1 => match ds with
  | [.int j] => match rOk j with
    | true => k ⟨rangeD j.toNat 0, none⟩ η1
    | false => false
  | _ => false) kx
def ciR2 (a : CA) : CI := fun σ η k kx => a σ η (fun ds η1 => match ds with
  | [.int i, .int j] => match rOk i, rOk j with
    | true, true => k ⟨rangeD (j - i).toNat i, none⟩ η1
    | _, _ => false
  | _ => false) kx
theorem walkD_range {K : PySem.W.Frag} {Wf : Wl} {n : Nat} {i : Int} : WalkD K N Wf (rangeD n i) (Itr i n) := by
  refine ⟨fun W1 k x o hi => ?_, fun W1 x o => ?_, fun W1 k y H' x o hi hy => ?_⟩
  · rw [rangeD_len] at hi; exact hi
  · rw [rangeD_len]; exact Nat.le_refl _
  · obtain ⟨e1, e2⟩ := hy
    rw [rangeD_len] at hi
    exact ⟨W1, .int (i + k), rangeD_get n i k hi, Ext.refl W1, o, e1.symm, rfl, by rw [e2]; exact mkInt⟩
theorem ji_range1 {tg a : Expr} {ca : CA} {p pos : Pos} (hg : Gl X "range") (hm : X.mg "range" = none) (ha : JA X N E [a] ca) (hs : starEach [a] X.env = [(false, eval a X.env)] := by rfl) : JI X N E tg (.Call (.Name "range" p) [a] [] pos) (ciR1 ca) :=
  PI.imp (pi_range1 hg hm ha hs) fun σ H R q => by
    obtain ⟨W, σd, k, kx, rfl, o, s, h, hk, hx⟩ := q
    refine tAr.bind o s hx h fun W1 ds vs x1 o1 r1 s1 hx1 h1 => ?_
    match ds, r1, h1 with
    | [.int j], r1, h1 =>
      simp only at h1
      cases e : rOk j with
      | false => rw [e] at h1; cases h1
      | true =>
        rw [e] at h1
        obtain ⟨v, rfl, r⟩ := rel1 r1
        rw [relInt r]
        exact ⟨j, rfl, (rOk_ok e).1, (rOk_ok e).2, hk W1 _ _ x1 o1 (by intro r l e; cases e) walkD_range h1⟩
    | [], _, h1 => cases h1
    | [.non], _, h1 => cases h1
    | [.bl _], _, h1 => cases h1
    | [.str _], _, h1 => cases h1
    | [.tup _], _, h1 => cases h1
    | [.ref _], _, h1 => cases h1
    | _ :: _ :: _, _, h1 => simp at h1
theorem ji_range2 {tg a b : Expr} {ca : CA} {p pos : Pos} (hg : Gl X "range") (hm : X.mg "range" = none) (ha : JA X N E [a, b] ca) (hs : starEach [a, b] X.env = [(false, eval a X.env), (false, eval b X.env)] := by rfl) (hs2 : starEach [b] X.env = [(false, eval b X.env)] := by rfl) : JI X N E tg (.Call (.Name "range" p) [a, b] [] pos) (ciR2 ca) :=
  PI.imp (pi_range2 hg hm ha hs hs2) fun σ H R q => by
    obtain ⟨W, σd, k, kx, rfl, o, s, h, hk, hx⟩ := q
    refine tAr.bind o s hx h fun W1 ds vs x1 o1 r1 s1 hx1 h1 => ?_
    match ds, r1, h1 with
    | [x, y], r1, h1 =>
      obtain ⟨v, u, rfl, ra, rb⟩ := rel2 r1
      cases x with
      | int i =>
        cases y with
        | int j =>
          simp only at h1
          cases e : rOk i with
          | false => rw [e] at h1; cases h1
          | true =>
            cases e2 : rOk j with
            | false => rw [e, e2] at h1; cases h1
            | true =>
              rw [e, e2] at h1
              rw [relInt ra, relInt rb]
              exact ⟨i, j, rfl, ⟨(rOk_ok e).1, (rOk_ok e).2, (rOk_ok e2).1, (rOk_ok e2).2⟩, hk W1 _ _ x1 o1 (by intro r l e; cases e) walkD_range h1⟩
        | _ => cases h1
      | _ => cases h1
    | [], _, h1 => cases h1
    | [_], _, h1 => simp at h1
    | _ :: _ :: _ :: _, _, h1 => simp at h1
/-- reversed(list or tuple) -/
def itsRev (η : Hd) (d : D) : Option Its := match itsOf η d with
  | some it => some ⟨it.l.reverse, it.fz⟩
  | none => none
def ciRev (c : CE) : CI := fun σ η k kx => c σ η (fun d η1 => match itsRev η1 d with
  | some it => k it η1
  | none => false) kx
theorem rev_get {W : Wl} {l : List D} {vs : List V} {i : Nat} {x : V} (r : RelDs W l vs) (hi : i < l.length) (h : vs[vs.length - 1 - i]? = some x) : ∃ d, l.reverse[i]? = some d ∧ RelD W d x := by
  obtain ⟨d, e1, e2⟩ := r.get h
  refine ⟨d, ?_, e2⟩
  rw [List.getElem?_reverse hi, r.length]; exact e1
theorem ji_rev {tg e : Expr} {c : CE} {p pos : Pos} (hg : Gl X "reversed") (hm : X.mg "reversed" = none) (he : JE X N E e c) (hs : starEach [e] X.env = (false, eval e X.env) :: starEach [] X.env := by rfl) : JI X N E tg (.Call (.Name "reversed" p) [e] [] pos) (ciRev c) :=
  PI.imp (RT.pi_revA hg hm he hs) fun σ H R q => by
    obtain ⟨W, σd, k, kx, rfl, o, s, h, hk, hx⟩ := q
    refine tE.bind o s hx h fun W1 d v x1 o1 r1 s1 hx1 h1 => ?_
    unfold itsRev at h1
    cases e : itsOf W1.η d with
    | none => rw [e] at h1; cases h1
    | some it =>
      rw [e] at h1
      simp only at h1
      cases d with
      | tup l =>
        cases e
        obtain ⟨a, vs, rfl, hs, rs⟩ := relTup r1
        refine ⟨a, vs, rfl, .inr ⟨SqT.of hs, hk W1 ⟨l.reverse, none⟩ _ x1 o1 (fun r l e => nomatch e) ?_ h1⟩⟩
        have hl := rs.length
        refine ⟨fun W2 i x o hi => ?_, fun W2 x o => ?_, fun W2 i y H' x o hi hy => ?_⟩
        · rw [List.length_reverse] at hi
          exact ⟨by omega, vs, vs[vs.length - 1 - i]'(by omega), SqT.of (x.tx.tp _ _ hs), by simp [show vs.length - 1 - i < vs.length by omega]⟩
        · show vs.length ≤ l.reverse.length
          rw [List.length_reverse]; omega
        · rw [List.length_reverse] at hi
          obtain ⟨e1, e2⟩ := hy
          obtain ⟨d, e3, e4⟩ := rev_get (rs.tx x.tx) hi (e2 vs (SqT.of (x.tx.tp _ _ hs)))
          exact ⟨W2, d, e3, Ext.refl W2, o, e1.symm, rfl, e4⟩
      | ref q =>
        rw [relRef r1]
        have go : ∀ (it : Its) (vs : List V), FzOk W1 it → W1.H (W1.μ q) = some (.lst vs) → RelDs (it.w W1) it.l vs → (it.w W1).Ok X.K N.toNames → (∀ W2, Sty (it.w W1) W2 → W2.H (W1.μ q) = some (.lst vs)) → k ⟨it.l.reverse, it.fz⟩ W1.η = true → RT.iRevA X.K (fun σ H Q => Q (.ref (W1.μ q)) H) σ W1.H R := by
          intro it vs fz h1 rs of st hk1
          have hl := rs.length
          refine ⟨W1.μ q, vs, rfl, .inl ⟨SqL.of h1, hk W1 ⟨it.l.reverse, it.fz⟩ _ x1 o1 fz ?_ hk1⟩⟩
          show WalkD X.K N (it.w W1) it.l.reverse (Itv X.K (W1.μ q) vs.length)
          refine ⟨fun W2 i x o hi => ?_, fun W2 x o => ?_, fun W2 i y H' x o hi hy => ?_⟩
          · rw [List.length_reverse] at hi
            exact ⟨by omega, vs, vs[vs.length - 1 - i]'(by omega), SqL.of (st W2 x), by simp [show vs.length - 1 - i < vs.length by omega]⟩
          · show vs.length ≤ it.l.reverse.length
            rw [List.length_reverse]; omega
          · rw [List.length_reverse] at hi
            obtain ⟨e1, e2⟩ := hy
            obtain ⟨d, e3, e4⟩ := rev_get (rs.tx x.tx) hi (e2 vs (SqL.of (st W2 x)))
            exact ⟨W2, d, e3, Ext.refl W2, o, e1.symm, rfl, e4⟩
        simp only [itsOf] at e
        cases eg : W1.η.get q with
        | none => rw [eg] at e; cases e
        | some c =>
          rw [eg] at e
          cases c with
          | lst l =>
            cases e
            have fz : FzOk W1 ⟨l, some (q, l)⟩ := fun r l' e' => by cases e'; exact eg
            obtain ⟨vs, g1, g2, g3⟩ := o1.cell q _ eg
            obtain ⟨xf, of⟩ := Its.froze o1 fz
            have gq : (Its.w ⟨l, some (q, l)⟩ W1).η.get q = some (.frz l) := by
              show (frzAt q l W1.η).get q = some (.frz l)
              unfold frzAt
              rw [Hd.get_set, if_pos rfl, eg]; rfl
            exact go ⟨l, some (q, l)⟩ vs fz g1 (g2.mono o1 xf) of (fun W2 x => x.fz q l _ gq g1) h1
          | frz l =>
            cases e
            obtain ⟨vs, g1, g2, g3⟩ := o1.cell q _ eg
            exact go ⟨l, none⟩ vs (fun r l e => nomatch e) g1 g2 o1 (fun W2 x => x.fz q l _ eg g1) h1
          | _ => cases e
      | _ => cases e

/-! ### for -/
def forD (g : CG) (b : CS) (k : KS) : List D → SD → Hd → Bool
  | [], σ, η => k.nx σ η
  | d :: ds, σ, η => g d σ η (fun σ1 η1 => b σ1 η1 { k with nx := forD g b k ds, ct := forD g b k ds, bk := k.nx }) k.xc
def sFor (i : CI) (g : CG) (b : CS) : CS := fun σ η k => i σ η (fun it η1 => forD g b (k.thaw it) it.l σ (it.fr η1)) k.xc
theorem js_for {tg iter : Expr} {body : List Stmt} {ci : CI} {g : CG} {b : CS} {pos : Pos} (hp : PassesOwn (model X.prog X.w) X.A X.env X.xe) (hc : X.calm = true) (hi : JI X N E tg iter ci) (hg : JG X N E tg g) (hb : JB X N E body b)
    (hs : ∀ x, foldedSetIterable iter X.env x = pure x := by intro _; rfl) : JS X N E (.For tg iter body [] pos) (sFor ci g b) := PS.imp (ps_for hp hc hi hg hb hs) fun Z σ H q => by
  obtain ⟨W, σd, k, rfl, o, s, h, hk⟩ := q
  refine ⟨W, σd, _, k.xc, rfl, o, s, h, fun W1 it J x1 o1 fz wk h1 => ?_, hk.xc⟩
  obtain ⟨xf, of⟩ := Its.froze o1 fz
  have hk1 : Sk X.K N E (it.w W1) (k.thaw it) Z := (hk.mono o o1 x1).thaw o1 fz
  have s1 : RelS (it.w W1) σd σ := ((s.mono o x1).mono o1 xf)
  refine ⟨fun i m σ2 H2 => m = it.l.length - i ∧ i ≤ it.l.length ∧ ∃ W2 σd2, W2.H = H2 ∧ Ext (it.w W1) W2 ∧ W2.Ok X.K N.toNames ∧ RelS W2 σd2 σ2 ∧ forD g b (k.thaw it) (it.l.drop i) σd2 W2.η = true,
    ⟨it.l.length, by omega, Nat.zero_le _, it.w W1, σd, rfl, Ext.refl _, of, s1, h1⟩, ?_⟩
  rintro i m σ2 H2 ⟨rfl, hi, W2, σd2, rfl, x2, o2, s2, h2⟩
  by_cases hlt : i < it.l.length
  · refine .inr ⟨wk.go W2 i (x2.sty of) o2 hlt, fun σ3 H3 => ∃ W3 σd3, W3.H = H3 ∧ Ext (it.w W1) W3 ∧ W3.Ok X.K N.toNames ∧ RelS W3 σd3 σ3 ∧ forD g b (k.thaw it) (it.l.drop (i + 1)) σd3 W3.η = true, fun σ3 H3 p3 => ⟨it.l.length - (i + 1), by omega, rfl, hlt, p3⟩, fun y H3 hy => ?_⟩
    obtain ⟨W3, d, e3, x3, o3, eH, eη, r3⟩ := wk.yld W2 i y H3 (x2.sty of) o2 hlt hy
    subst eH
    have ed : it.l.drop i = d :: it.l.drop (i + 1) := by
      rw [List.drop_eq_getElem_cons hlt]
      have : it.l[i] = d := by
        have := List.getElem?_eq_getElem hlt
        rw [this] at e3; exact Option.some.inj e3
      rw [this]
    rw [ed] at h2
    have x03 := x2.trans of o2 x3
    have hk3 := hk1.mono of o3 x03
    refine ⟨W3, d, σd2, _, (k.thaw it).xc, rfl, o3, r3, s2.mono o2 x3, (by rw [eη]; exact h2), fun W4 σd4 σ4 x4 o4 s4 h4 => ?_, hk3.xc⟩
    have hk4 := hk3.mono o3 o4 x4
    have x04 := x03.trans of o3 x4
    exact ⟨W4, σd4, _, rfl, o4, s4, h4, ⟨fun W5 σd5 σ5 x5 o5 s5 h5 => ⟨W5, σd5, rfl, x04.trans of o4 x5, o5, s5, h5⟩, hk4.rt, hk4.nx, fun W5 σd5 σ5 x5 o5 s5 h5 => ⟨W5, σd5, rfl, x04.trans of o4 x5, o5, s5, h5⟩, hk4.xc⟩⟩
  · have e : i = it.l.length := by omega
    subst e
    rw [List.drop_length] at h2
    exact .inl ⟨wk.stop W2 (x2.sty of) o2, hk1.nx W2 σd2 σ2 x2 o2 s2 h2⟩

/-! ### while -/
def whileD (t : CT) (b : CS) (k : KS) : Nat → SD → Hd → Bool
  | 0, _, _ => false
  | n + 1, σ, η => t σ η (fun x η1 => match x with
    | true => b σ η1 { k with nx := whileD t b k n, ct := whileD t b k n, bk := k.nx }
    | false => k.nx σ η1) k.xc
def fuelW : Nat := 1000000
def sWhile (t : CT) (b : CS) : CS := fun σ η k => whileD t b k fuelW σ η
theorem js_while {c : Expr} {body : List Stmt} {t : CT} {b : CS} {pos : Pos} (hp : PassesOwn (model X.prog X.w) X.A X.env X.xe) (hc : JT X N E c t) (hb : JB X N E body b) : JS X N E (.While c body [] pos) (sWhile t b) := PS.imp (ps_while hp hc hb) fun Z σ H q => by
  obtain ⟨W, σd, k, rfl, o, s, h, hk⟩ := q
  refine ⟨fun m σ2 H2 => ∃ W2 σd2, W2.H = H2 ∧ Ext W W2 ∧ W2.Ok X.K N.toNames ∧ RelS W2 σd2 σ2 ∧ whileD t b k m σd2 W2.η = true, ⟨fuelW, W, σd, rfl, Ext.refl W, o, s, h⟩, ?_⟩
  rintro m σ2 H2 ⟨W2, σd2, rfl, x2, o2, s2, h2⟩
  cases m with
  | zero => cases h2
  | succ m =>
    have hk2 := hk.mono o o2 x2
    refine tT.bind o2 s2 hk2.xc h2 fun W3 y x3 o3 s3 hx3 h3 => ?_
    have x03 := x2.trans o o2 x3
    have hk3 := hk2.mono o2 o3 x3
    cases y with
    | true =>
      rw [if_pos rfl]
      refine ⟨fun σ4 H4 => ∃ W4 σd4, W4.H = H4 ∧ Ext W W4 ∧ W4.Ok X.K N.toNames ∧ RelS W4 σd4 σ4 ∧ whileD t b k m σd4 W4.η = true, fun σ4 H4 p => ⟨m, Nat.lt_succ_self m, p⟩, ?_⟩
      exact ⟨W3, σd2, _, rfl, o3, s3, h3, ⟨fun W5 σd5 σ5 x5 o5 s5 h5 => ⟨W5, σd5, rfl, x03.trans o o3 x5, o5, s5, h5⟩, hk3.rt, hk3.nx, fun W5 σd5 σ5 x5 o5 s5 h5 => ⟨W5, σd5, rfl, x03.trans o o3 x5, o5, s5, h5⟩, hk3.xc⟩⟩
    | false =>
      rw [if_neg (by decide)]
      exact hk3.nx W3 σd2 σ2 (Ext.refl W3) o3 s3 h3
end
end DL

/-! comprehensions -/
namespace DL
open PySem PySem.Spec L2
section
variable {X : Cx} {N : Nm} {E : XK}
/-! ### targets that store to slots of vs alone -/
def tGw (K : PySem.W.Frag) (N : Nm) (vs : List Nat) (c : CG) : TG := fun v σ H Q => ∃ W d σd k, W.H = H ∧ W.Ok K N.toNames ∧ RelD W d v ∧ RelS W σd σ ∧ c d σd W.η k (fun _ _ => false) = true ∧
  (∀ W' σd' σ', Ext W W' → W'.Ok K N.toNames → RelS W' σd' σ' → wipe σ' vs = wipe σ vs → k σd' W'.η = true → Q σ' W'.H)
def tGsw (K : PySem.W.Frag) (N : Nm) (vs : List Nat) (c : CGs) : TGs := fun us σ H Q => ∃ W ds σd k, W.H = H ∧ W.Ok K N.toNames ∧ RelDs W ds us ∧ RelS W σd σ ∧ c ds σd W.η k (fun _ _ => false) = true ∧
  (∀ W' σd' σ', Ext W W' → W'.Ok K N.toNames → RelS W' σd' σ' → wipe σ' vs = wipe σ vs → k σd' W'.η = true → Q σ' W'.H)
def JGw (X : Cx) (N : Nm) (vs : List Nat) (e : Expr) (c : CG) : Prop := PG X e (tGw X.K N vs c)
def JGsw (X : Cx) (N : Nm) (vs : List Nat) (e : List Expr) (c : CGs) : Prop := PGs X e (tGsw X.K N vs c)
theorem set_comm' {α : Type} (l : List α) (i j : Nat) (a b : α) (h : i ≠ j) : (l.set i a).set j b = (l.set j b).set i a := List.set_comm a b h
theorem wipe_set : ∀ (vs : List Nat) (σ : St) (i : Nat) (x : Option V), i ∈ vs → wipe (σ.set i x) vs = wipe σ vs
  | [], σ, i, x, h => nomatch h
  | v :: vs, σ, i, x, h => by
    by_cases z : i ∈ vs
    · show (wipe (σ.set i x) vs).set v none = (wipe σ vs).set v none
      rw [wipe_set vs σ i x z]
    · have e : i = v := by
        rcases List.mem_cons.mp h with e | e
        · exact e
        · exact absurd e z
      subst e
      show (wipe (σ.set i x) vs).set i none = (wipe σ vs).set i none
      have gen : ∀ (vs : List Nat) (σ : St), i ∉ vs → (wipe (σ.set i x) vs).set i none = (wipe σ vs).set i none := by
        intro vs
        induction vs with
        | nil => intro σ _; show (σ.set i x).set i none = σ.set i none; exact List.set_set _
        | cons u us ih =>
          intro σ hn
          have hu : u ≠ i := fun z => hn (by rw [z]; exact List.mem_cons_self)
          have hus : i ∉ us := fun z => hn (List.mem_cons_of_mem _ z)
          show ((wipe (σ.set i x) us).set u none).set i none = ((wipe σ us).set u none).set i none
          rw [set_comm' _ _ _ _ _ hu, set_comm' _ _ _ _ _ hu, ih σ hus]
      exact gen vs σ z
theorem wipe_wipe : ∀ (us : List Nat) (σ : St), wipe (wipe σ us) us = wipe σ us := by
  intro us
  induction us with
  | nil => intro σ; rfl
  | cons u us ih =>
    intro σ
    show (wipe ((wipe σ us).set u none) us).set u none = (wipe σ us).set u none
    by_cases z : u ∈ us
    · rw [wipe_set us _ u none z, ih]
    · have gen : ∀ (us : List Nat) (σ : St), u ∉ us → wipe (σ.set u none) us = (wipe σ us).set u none := by
        intro us
        induction us with
        | nil => intro σ _; rfl
        | cons a us ih2 =>
          intro σ hn
          have ha : u ≠ a := fun z => hn (by rw [z]; exact List.mem_cons_self)
          show (wipe (σ.set u none) us).set a none = ((wipe σ us).set a none).set u none
          rw [ih2 σ (fun z => hn (List.mem_cons_of_mem _ z)), set_comm' _ _ _ _ _ ha]
      rw [gen us _ z, ih, List.set_set]
theorem jgw_name {vs : List Nat} {i : Nat} {x : Str} {pos : Pos} (h : PG X (.Name x pos) (gName i)) (hi : i ∈ vs := by decide) : JGw X N vs (.Name x pos) (gNm i) := PG.imp h fun v σ H Q q => by
  obtain ⟨W, d, σd, k, rfl, o, r, s, h, hk⟩ := q
  exact hk W _ _ (Ext.refl W) o (s.set i r) (wipe_set vs σ i _ hi) h
theorem jgsw_nil {vs : List Nat} : JGsw X N vs [] gsNil := PGs.imp pgs_nil fun v σ H Q q => by
  obtain ⟨W, ds, σd, k, rfl, o, r, s, h, hk⟩ := q
  cases ds with
  | nil => rw [RelDs] at r; exact ⟨r, hk W _ _ (Ext.refl W) o s rfl h⟩
  | cons _ _ => cases h
theorem jgsw_cons {vs : List Nat} {e : Expr} {es : List Expr} {g : CG} {r : CGs} (hg : JGw X N vs e g) (hr : JGsw X N vs es r) (ha : ((assignEach (e :: es) X.env).map (·.2)) = assign e X.env :: ((assignEach es X.env).map (·.2)) := by rfl) : JGsw X N vs (e :: es) (gsCons g r) := PGs.imp (pgs_cons hg hr ha) fun v σ H Q q => by
  obtain ⟨W, ds, σd, k, rfl, o, rr, s, h, hk⟩ := q
  cases ds with
  | nil => cases h
  | cons d ds =>
    rw [RelDs] at rr
    obtain ⟨v, vs', rfl, r1, r2⟩ := rr
    exact ⟨v, vs', rfl, W, d, σd, _, rfl, o, r1, s, h, fun W1 σd1 σ1 x1 o1 s1 w1 h1 => ⟨W1, ds, σd1, k, rfl, o1, r2.mono o x1, s1, h1, fun W2 σd2 σ2 x2 o2 s2 w2 h2 => hk W2 σd2 σ2 (x1.trans o o1 x2) o2 s2 (w2.trans w1) h2⟩⟩
theorem jgw_tup {vs : List Nat} {es : List Expr} {kk : Nat} {pos : Pos} {r : CGs} {n : Nat} (hc : X.calm = true) (h : JGsw X N vs es r) (hl : (assignEach es X.env).length = n := by rfl) (hf : (assignEach es X.env).findIdx? (·.1) = none := by rfl) : JGw X N vs (.Tuple es kk pos) (gTp n r) :=
  PG.imp (pg_tup (n := n) hc h hl hf) fun v σ H Q q => by
    obtain ⟨W, d, σd, k, rfl, o, rr, s, h, hk⟩ := q
    cases d with
    | tup ds =>
      simp only [gTp] at h
      cases e : Nat.beq ds.length n with
      | false => rw [e] at h; cases h
      | true =>
        rw [e] at h
        obtain ⟨a, vs', rfl, hs, rs⟩ := relTup rr
        exact ⟨a, vs', rfl, SqT.of hs, by rw [← rs.length]; exact Nat.eq_of_beq_eq_true e, W, ds, σd, k, rfl, o, rs, s, h, hk⟩
    | _ => cases h
/-! ### the tests -/
def JTs (X : Cx) (N : Nm) (E : XK) (ifs : List Expr) (c : CT) : Prop := PTs X ifs (tT X.K N E c)
theorem PTs.imp {ifs : List Expr} {t t' : TT} (h : PTs X ifs t) (f : ∀ σ H Q, t' σ H Q → t σ H Q) : PTs X ifs t' := ⟨fun pins s σ H Q I q => h.run pins s σ H Q I (f σ H Q q)⟩
def ctYes : CT := fun _ η k _ => k true η
theorem jts_nil : JTs X N E [] ctYes := PTs.imp pts_nil fun σ H Q q => by
  obtain ⟨W, σd, k, kx, rfl, o, s, h, hk, hx⟩ := q
  exact hk W true (Ext.refl W) o h
theorem jts_one {c : Expr} {t : CT} (h : JT X N E c t) : JTs X N E [c] t := pts_one h
/-! ### the block -/
def wipeD (σ : SD) : List Nat → SD
  | [] => σ
  | v :: vs => (wipeD σ vs).set v none
theorem RelS.wipe {W : Wl} {σd : SD} {σ : St} (h : RelS W σd σ) : ∀ vs : List Nat, RelS W (wipeD σd vs) (L2.wipe σ vs)
  | [] => h
  | v :: vs => (RelS.wipe h vs).none_at v none
def kF : KX := fun _ _ => false
theorem Xk.never {K : PySem.W.Frag} {W : Wl} : Xk K N E W kF := fun _ _ _ _ _ _ _ h => nomatch h
def lcD (g : CG) (t : CT) (e : CE) (σ : SD) (k : List D → Hd → Bool) : List D → Nat → List D → Hd → Bool
  | [], _, acc, η => k acc.reverse η
  | _ :: _, 0, _, _ => false
  | d :: ds, n + 1, acc, η => g d σ η (fun σ1 η1 => t σ1 η1 (fun b η2 => match b with
    | true => e σ1 η2 (fun y η3 => lcD g t e σ k ds n (y :: acc) η3) kF
    | false => lcD g t e σ k ds n acc η2) kF) kF
def Hd.bump (η : Hd) : Hd := ⟨Nat.succ η.nx, η.cs⟩
def line1 : Nat := 16777215
def cLc (i : CI) (g : CG) (t : CT) (e : CE) (vs : List Nat) : CE := fun σ η kv kx => i σ η (fun it η1 => lcD g t e (wipeD σ vs) (fun acc η2 => kv (.ref η1.nx) ((it.un η2).add η1.nx (.lst acc))) it.l line1 [] (Hd.bump (it.fr η1))) kx
/-- the worlds of a comprehension's loop: the list's own cell g laid aside -/
structure Lc (K : PySem.W.Frag) (N : Nm) (Wb : Wl) (g : Nat) (Da : Addr) (W : Wl) (acc : List D) : Prop where
  ok : W.Ok K N.toNames
  off : W.η.get g = none
  x : Ext Wb ⟨W.μ, W.η.add g (.lst acc.reverse), W.H⟩
  og : Wl.Ok K N.toNames ⟨W.μ, W.η.add g (.lst acc.reverse), W.H⟩
  at_ : W.μ g = Da
theorem Lc.drop {K : PySem.W.Frag} {Wb W0 : Wl} {g : Nat} {Da : Addr} {W : Wl} {acc : List D} (h : Lc K N Wb g Da W acc) (ob : Wb.Ok K N.toNames) (o0 : W0.Ok K N.toNames) (x0 : Ext W0 Wb) : Ext W0 W := by
  have := (x0.trans o0 ob h.x).drop (η' := W.η) h.og rfl (fun r c e => by
    show (W.η.add g (.lst acc.reverse)).get r = some c
    rw [Hd.get_add]
    by_cases z : r = g
    · rw [z, h.off] at e; cases e
    · rw [if_neg z]; exact e)
  exact this.1
theorem Hd.set_add (η : Hd) (g : Nat) (c c' : Cell) : (η.add g c).set g c' = η.add g c' := by
  unfold Hd.add Hd.set put
  simp [Nat.beq_refl]
/-- behind a step, the list's cell laid again and one item more -/
theorem Lc.grow {K : PySem.W.Frag} {Wb : Wl} {g : Nat} {Da : Addr} {W W2 : Wl} {acc : List D} {y : D} {v : V} (h : Lc K N Wb g Da W acc) (ob : Wb.Ok K N.toNames) (x : Ext W W2) (o2 : W2.Ok K N.toNames) (r : RelD W2 y v) (hl : acc.length < sizeLine) :
    ∃ vs, W2.H Da = some (.lst vs) ∧ vs.length < sizeLine ∧ Lc K N Wb g Da ⟨W2.μ, W2.η, upd W2.H Da (.lst (vs ++ [v]))⟩ (y :: acc) ∧ Tx W2 ⟨W2.μ, W2.η, upd W2.H Da (.lst (vs ++ [v]))⟩ := by
  have gg : (W.η.add g (.lst acc.reverse)).get g = some (.lst acc.reverse) := by rw [Hd.get_add, if_pos rfl]
  have gnx : g < W.η.nx := h.og.lt g _ gg
  obtain ⟨x2, og2⟩ := h.og.readd (W2 := W2) (g := g) gg (η0 := W.η) rfl (fun q => by
    show W.η.get q = if q = g then none else (W.η.add g (.lst acc.reverse)).get q
    by_cases z : q = g
    · rw [if_pos z, z, h.off]
    · rw [if_neg z, Hd.get_add, if_neg z]) x o2
  have gg2 : (W2.η.add g (.lst acc.reverse)).get g = some (.lst acc.reverse) := by rw [Hd.get_add, if_pos rfl]
  have ma : W2.μ g = Da := by rw [x.mu g gnx, h.at_]
  obtain ⟨vs, h1, h2, h3⟩ := og2.cell g _ gg2
  have h1' : W2.H Da = some (.lst vs) := by rw [← ma]; exact h1
  have hlen : vs.length = acc.length := by rw [← h2.length, List.length_reverse]
  have t2 : Tx W2 ⟨W2.μ, W2.η.add g (.lst acc.reverse), W2.H⟩ := ⟨Nat.le_refl _, fun _ _ => rfl, fun _ _ e => e, fun _ _ _ e => e⟩
  obtain ⟨x3, og3⟩ := og2.put (r := g) (c0 := .lst acc.reverse) (c := .lst (acc.reverse ++ [y])) (ob := .lst (vs ++ [v])) gg2 rfl (fun xx => ⟨_, upd_same, (h2.mono og2 xx).append (.cons ((r.tx t2).mono og2 xx) .nil), by rw [List.length_append, List.length_reverse]; show acc.length + 1 ≤ sizeLine; omega⟩)
  have eW : Wl.put ⟨W2.μ, W2.η.add g (.lst acc.reverse), W2.H⟩ g (.lst (acc.reverse ++ [y])) (.lst (vs ++ [v])) = ⟨W2.μ, W2.η.add g (.lst (y :: acc).reverse), upd W2.H Da (.lst (vs ++ [v]))⟩ := by
    unfold Wl.put
    show Wl.mk W2.μ ((W2.η.add g (.lst acc.reverse)).set g (.lst (acc.reverse ++ [y]))) (upd W2.H (W2.μ g) (.lst (vs ++ [v]))) = _
    rw [Hd.set_add, ma, List.reverse_cons]
  rw [eW] at x3 og3
  have off2 : W2.η.get g = none := by
    cases e : W2.η.get g with
    | none => rfl
    | some c =>
      rcases x.cs g c e with ⟨c0, e0, _⟩ | ⟨h4, _⟩
      · rw [h.off] at e0; cases e0
      · omega
  have xb : Ext Wb ⟨W2.μ, W2.η.add g (.lst (y :: acc).reverse), upd W2.H Da (.lst (vs ++ [v]))⟩ := (h.x.trans ob h.og x2).trans ob og2 x3
  have sub : ∀ r c, W2.η.get r = some c → (W2.η.add g (.lst (y :: acc).reverse)).get r = some c := fun r c e => by
    rw [Hd.get_add]
    by_cases z : r = g
    · rw [z, off2] at e; cases e
    · rw [if_neg z]; exact e
  have dr := xb.drop (η' := W2.η) og3 rfl sub
  refine ⟨vs, h1', by omega, ⟨dr.2, off2, xb, og3, ma⟩, Nat.le_refl _, fun _ _ => rfl, fun a us e => ?_, fun a _ us e => ?_⟩
  · show upd W2.H Da _ a = some (.tup us)
    rw [upd_ne (fun z => by rw [z, h1'] at e; cases e)]; exact e
  · show upd W2.H Da _ a = _
    rw [upd_ne (fun z => by rw [z, h1'] at e; cases e)]; exact e
/-- behind a step without an item -/
theorem Lc.step {K : PySem.W.Frag} {Wb : Wl} {g : Nat} {Da : Addr} {W W2 : Wl} {acc : List D} (h : Lc K N Wb g Da W acc) (ob : Wb.Ok K N.toNames) (x : Ext W W2) (o2 : W2.Ok K N.toNames) : Lc K N Wb g Da W2 acc := by
  have gg : (W.η.add g (.lst acc.reverse)).get g = some (.lst acc.reverse) := by rw [Hd.get_add, if_pos rfl]
  have gnx : g < W.η.nx := h.og.lt g _ gg
  obtain ⟨x2, og2⟩ := h.og.readd (W2 := W2) (g := g) gg (η0 := W.η) rfl (fun q => by
    show W.η.get q = if q = g then none else (W.η.add g (.lst acc.reverse)).get q
    by_cases z : q = g
    · rw [if_pos z, z, h.off]
    · rw [if_neg z, Hd.get_add, if_neg z]) x o2
  refine ⟨o2, ?_, h.x.trans ob h.og x2, og2, by rw [x.mu g gnx, h.at_]⟩
  cases e : W2.η.get g with
  | none => rfl
  | some c =>
    rcases x.cs g c e with ⟨c0, e0, _⟩ | ⟨h4, _⟩
    · rw [h.off] at e0; cases e0
    · omega
/-- the start of a comprehension's list -/
theorem Lc.start {K : PySem.W.Frag} {Wf : Wl} {Da : Addr} (of : Wf.Ok K N.toNames) (hD : Wf.H Da = none) : (∃ ob : (Wf.new Da (.lst []) (.lst [])).Ok K N.toNames, Ext Wf (Wf.new Da (.lst []) (.lst []))) ∧
    Lc K N (Wf.new Da (.lst []) (.lst [])) Wf.η.nx Da ⟨(Wf.new Da (.lst []) (.lst [])).μ, Hd.bump Wf.η, upd Wf.H Da (.lst [])⟩ [] := by
  obtain ⟨x, o⟩ := of.new (c := .lst []) (ob := .lst []) hD ⟨[], upd_same, .nil, Nat.zero_le _⟩
  have off : (Hd.bump Wf.η).get Wf.η.nx = none := by
    cases e : Wf.η.get Wf.η.nx with
    | none => exact e
    | some c => exact absurd (of.lt _ c e) (Nat.lt_irrefl _)
  have e : Wl.mk (Wf.new Da (.lst []) (.lst [])).μ ((Hd.bump Wf.η).add Wf.η.nx (.lst [])) (upd Wf.H Da (.lst [])) = Wf.new Da (.lst []) (.lst []) := rfl
  have dr := x.drop (η' := Hd.bump Wf.η) o rfl (fun r c h => by
    show (Wf.η.new (.lst [])).get r = some c
    rw [Hd.get_new]
    by_cases z : r = Wf.η.nx
    · rw [z, off] at h; cases h
    · rw [if_neg z]; exact h)
  exact ⟨⟨o, x⟩, dr.2, off, (by rw [List.reverse_nil, e]; exact Ext.refl _), (by rw [List.reverse_nil, e]; exact o), Wl.new_mu Wf Da (.lst []) (.lst [])⟩
theorem Its.un_add (it : Its) (η : Hd) (g : Nat) (c : Cell) (h : ∀ r l, it.fz = some (r, l) → r ≠ g) : it.un (η.add g c) = (it.un η).add g c := by
  unfold Its.un
  cases e : it.fz with
  | none => rfl
  | some p =>
    obtain ⟨r, l⟩ := p
    have hne := h r l e
    have e2 : Nat.beq g r = false := by
      cases z : Nat.beq g r with
      | false => rfl
      | true => exact absurd (Nat.eq_of_beq_eq_true z).symm hne
    show unfAt r l (η.add g c) = (unfAt r l η).add g c
    unfold unfAt Hd.set Hd.add
    have : put r (Cell.lst l) ((g, c) :: η.cs) = (g, c) :: put r (Cell.lst l) η.cs := by
      rw [put]; simp only [e2]
    simp only [this]
theorem lc_of {E' : XK} {K : PySem.W.Frag} {ci : CI} {g : CG} {t : CT} {e : CE} {vs : List Nat} {σ : St} {H : Hp} {Q : VK} (h : tE K N E (cLc ci g t e vs) σ H Q) : tLc (tI K N E ci) (tGw K N vs g) (tT K N E' t) (tE K N E' e) vs σ H Q := by
  obtain ⟨W, σd, kv, kx, rfl, o, s, h, hv, hx⟩ := h
  refine ⟨W, σd, _, kx, rfl, o, s, h, fun W1 it J x1 o1 fz wk h1 => fun Da hD => ?_, hx⟩
  obtain ⟨xf, of⟩ := Its.froze o1 fz
  have enx : (it.w W1).η.nx = W1.η.nx := by
    unfold Its.w Its.fr
    cases it.fz with
    | none => rfl
    | some p => rfl
  obtain ⟨⟨ob, xb⟩, L0⟩ := Lc.start (N := N) (Da := Da) of hD
  generalize hWb : (it.w W1).new Da (.lst []) (.lst []) = Wb at ob xb L0
  rw [enx] at L0
  have s0 : RelS (it.w W1) (wipeD σd vs) (wipe σ vs) := ((s.mono o x1).mono o1 xf).wipe vs
  refine ⟨fun i m H2 => m = it.l.length - i ∧ i ≤ it.l.length ∧ ∃ W2 acc n, W2.H = H2 ∧ Lc K N Wb W1.η.nx Da W2 acc ∧ acc.length + n ≤ line1 ∧ lcD g t e (wipeD σd vs) (fun acc η2 => kv (.ref W1.η.nx) ((it.un η2).add W1.η.nx (.lst acc))) (it.l.drop i) n acc W2.η = true,
    ⟨it.l.length, by omega, Nat.zero_le _, _, [], line1, rfl, L0, by simp, h1⟩, ?_⟩
  rintro i m H2 ⟨rfl, hi, W2, acc, n, rfl, L2', hn, h2⟩
  have xf2 : Ext (it.w W1) W2 := L2'.drop ob of xb
  have s2 : RelS W2 (wipeD σd vs) (wipe σ vs) := s0.mono of xf2
  by_cases hlt : i < it.l.length
  · refine .inr ⟨wk.go W2 i (xf2.sty of) L2'.ok hlt, fun H3 => ∃ W3 acc n, W3.H = H3 ∧ Lc K N Wb W1.η.nx Da W3 acc ∧ acc.length + n ≤ line1 ∧ lcD g t e (wipeD σd vs) (fun acc η2 => kv (.ref W1.η.nx) ((it.un η2).add W1.η.nx (.lst acc))) (it.l.drop (i + 1)) n acc W3.η = true, fun H3 p3 => ⟨it.l.length - (i + 1), by omega, rfl, hlt, p3⟩, fun y H3 hy => ?_⟩
    obtain ⟨W3, d, e3, x3, o3, eH, eη, r3⟩ := wk.yld W2 i y H3 (xf2.sty of) L2'.ok hlt hy
    subst eH
    have ed : it.l.drop i = d :: it.l.drop (i + 1) := by
      rw [List.drop_eq_getElem_cons hlt]
      have : it.l[i] = d := by
        have := List.getElem?_eq_getElem hlt
        rw [this] at e3; exact Option.some.inj e3
      rw [this]
    rw [ed] at h2
    cases n with
    | zero => cases h2
    | succ n =>
      refine ⟨W3, d, wipeD σd vs, _, rfl, o3, r3, s2.mono L2'.ok x3, (by rw [eη]; exact h2), fun W4 σd4 σ4 x4 o4 s4 w4 h4 => ⟨w4.trans (wipe_wipe vs σ), ?_⟩⟩
      refine tT.bind (kx := kF) o4 s4 Xk.never h4 fun W5 b x5 o5 s5 hx5 h5 => ?_
      have x25 : Ext W2 W5 := x3.trans L2'.ok o3 (x4.trans o3 o4 x5)
      cases b with
      | true =>
        rw [if_pos rfl]
        refine tE.bind (kx := kF) o5 s5 Xk.never h5 fun W6 dy vy x6 o6 r6 s6 hx6 h6 => ?_
        have hll : line1 = 16777215 := rfl
        have hls : sizeLine = 16777216 := rfl
        obtain ⟨us, g1, g2, L6, t6⟩ := L2'.grow ob (x25.trans L2'.ok o5 x6) o6 r6 (by omega)
        exact ⟨us, g1, g2, _, dy :: acc, n, rfl, L6, by rw [List.length_cons]; omega, h6⟩
      | false =>
        rw [if_neg (by decide)]
        exact ⟨W5, acc, n, rfl, L2'.step ob x25 o5, by omega, h5⟩
  · have ei : i = it.l.length := by omega
    subst ei
    rw [List.drop_length] at h2
    refine .inl ⟨wk.stop W2 (xf2.sty of) L2'.ok, ?_⟩
    have h2' : kv (.ref W1.η.nx) ((it.un W2.η).add W1.η.nx (.lst acc.reverse)) = true := h2
    have xg : Ext (it.w W1) ⟨W2.μ, W2.η.add W1.η.nx (.lst acc.reverse), W2.H⟩ := xb.trans of ob L2'.x
    obtain ⟨xt, ot⟩ := Its.thaw o1 fz xg L2'.og
    have eu : it.un (W2.η.add W1.η.nx (.lst acc.reverse)) = (it.un W2.η).add W1.η.nx (.lst acc.reverse) := Its.un_add it _ _ _ fun r l er => Nat.ne_of_lt (o1.lt r _ (fz r l er))
    refine hv ⟨W2.μ, it.un (W2.η.add W1.η.nx (.lst acc.reverse)), W2.H⟩ (.ref W1.η.nx) (.ref Da) (x1.trans o o1 xt) ot ?_ (by show kv _ (it.un (W2.η.add W1.η.nx (.lst acc.reverse))) = true; rw [eu]; exact h2')
    rw [RelD]
    refine ⟨?_, by rw [L2'.at_]⟩
    show W1.η.nx < (it.un (W2.η.add W1.η.nx (.lst acc.reverse))).nx
    rw [Its.un_nx]
    exact L2'.og.lt W1.η.nx (.lst acc.reverse) (by show (W2.η.add W1.η.nx (.lst acc.reverse)).get _ = _; rw [Hd.get_add, if_pos rfl])
theorem je_lc {E' : XK} {elt tg iter : Expr} {ifs : List Expr} {scope : Scope} {own : List (Str × Nat)} {pos : Pos} {ci : CI} {g : CG} {t : CT} {e : CE} (hc : X.calm = true) (hN : X.N.Nodup) (hi : JI X N E tg iter ci) (ok : BlkOk X.N X.env.scope scope own)
    (hg : ∀ (s : Shared) (H : Hp) (C : Addr) (cl : List (Str × Addr)) (fp : List Addr), JGw (X.blk s H scope (compEnvC scope cl C X.env) fp) N (own.map (·.2)) tg g) (ht : ∀ (s : Shared) (H : Hp) (C : Addr) (cl : List (Str × Addr)) (fp : List Addr), JTs (X.blk s H scope (compEnvC scope cl C X.env) fp) N E' ifs t)
    (he : ∀ (s : Shared) (H : Hp) (C : Addr) (cl : List (Str × Addr)) (fp : List Addr), JE (X.blk s H scope (compEnvC scope cl C X.env) fp) N E' elt e) (hs : ∀ x, foldedSetIterable iter X.env x = pure x := by intro _; rfl) :
    JE X N E (.ListComp elt [⟨tg, iter, ifs, 0⟩] scope pos) (cLc ci g t e (own.map (·.2))) := PE.imp (pe_lc (g := tGw X.K N (own.map (fun p : Str × Nat => p.2)) g) (tt := tT X.K N E' t) (te := tE X.K N E' e) hc hN hi ok hg ht he hs) fun σ H Q q => lc_of q
/-! ### two fors -/
theorem Its.fr_add (it : Its) (η : Hd) (g : Nat) (c : Cell) (h : ∀ r l, it.fz = some (r, l) → r ≠ g) : it.fr (η.add g c) = (it.fr η).add g c := by
  unfold Its.fr
  cases e : it.fz with
  | none => rfl
  | some p =>
    obtain ⟨r, l⟩ := p
    have hne := h r l e
    have e2 : Nat.beq g r = false := by
      cases z : Nat.beq g r with
      | false => rfl
      | true => exact absurd (Nat.eq_of_beq_eq_true z).symm hne
    show frzAt r l (η.add g c) = (frzAt r l η).add g c
    unfold frzAt Hd.set Hd.add
    have : put r (Cell.frz l) ((g, c) :: η.cs) = (g, c) :: put r (Cell.frz l) η.cs := by
      rw [put]; simp only [e2]
    simp only [this]
theorem Its.fr_none (it : Its) {η : Hd} {g : Nat} (h : η.get g = none) : (it.fr η).get g = none := by
  unfold Its.fr
  cases e : it.fz with
  | none => exact h
  | some p =>
    obtain ⟨r, l⟩ := p
    show (η.set r (.frz l)).get g = none
    rw [Hd.get_set]
    by_cases z : g = r
    · rw [if_pos z, ← z, h]; rfl
    · rw [if_neg z]; exact h
theorem Its.un_none (it : Its) {η : Hd} {g : Nat} (h : η.get g = none) : (it.un η).get g = none := by
  unfold Its.un
  cases e : it.fz with
  | none => exact h
  | some p =>
    obtain ⟨r, l⟩ := p
    show (η.set r (.lst l)).get g = none
    rw [Hd.get_set]
    by_cases z : g = r
    · rw [if_pos z, ← z, h]; rfl
    · rw [if_neg z]; exact h
/-- a walk within: its cell frozen over the list that grows -/
theorem Lc.freeze {K : PySem.W.Frag} {Wb : Wl} {g : Nat} {Da : Addr} {W : Wl} {acc : List D} {it : Its} (h : Lc K N Wb g Da W acc) (fz : FzOk W it) :
    ∃ Wf, Wf.Ok K N.toNames ∧ Lc K N Wf g Da (it.w W) acc ∧ (∀ W2 acc2, Lc K N Wf g Da W2 acc2 → Sty (it.w W) W2) ∧ (Wb.Ok K N.toNames → ∀ W2 acc2, Lc K N Wf g Da W2 acc2 → Lc K N Wb g Da ⟨W2.μ, it.un W2.η, W2.H⟩ acc2) := by
  have ne : ∀ r l, it.fz = some (r, l) → r ≠ g := fun r l e z => by
    have := fz r l e
    rw [z, h.off] at this; cases this
  have fzg : FzOk ⟨W.μ, W.η.add g (.lst acc.reverse), W.H⟩ it := fun r l e => by
    show (W.η.add g (.lst acc.reverse)).get r = some (.lst l)
    rw [Hd.get_add, if_neg (ne r l e)]; exact fz r l e
  obtain ⟨xf, of⟩ := Its.froze h.og fzg
  have ew : it.w ⟨W.μ, W.η.add g (.lst acc.reverse), W.H⟩ = ⟨W.μ, (it.fr W.η).add g (.lst acc.reverse), W.H⟩ := by
    show Wl.mk W.μ (it.fr (W.η.add g (.lst acc.reverse))) W.H = _
    rw [Its.fr_add it _ _ _ ne]
  rw [ew] at xf of
  refine ⟨⟨W.μ, (it.fr W.η).add g (.lst acc.reverse), W.H⟩, of, ⟨(Its.froze h.ok fz).2, Its.fr_none it h.off, Ext.refl _, of, h.at_⟩, fun W2 acc2 L => ⟨?_, fun r l us hr hv => ?_, fun r tt l ob2 us hr hv => ?_⟩, fun ob W2 acc2 L => ?_⟩
  · have t := L.x.tx of
    exact ⟨t.nx, t.mu, t.tp, t.tf⟩
  · refine L.x.fr _ _ hv (fun _ z => nomatch z) fun q c e m z => ?_
    have hr' : ((it.fr W.η).add g (.lst acc.reverse)).get r = some (.frz l) := by
      rw [Hd.get_add]
      by_cases y : r = g
      · have hr2 : (it.fr W.η).get r = some (.frz l) := hr
        rw [y, Its.fr_none it h.off] at hr2; cases hr2
      · rw [if_neg y]; exact hr
    by_cases y : q = r
    · rw [y] at e
      have e' : ((it.fr W.η).add g (.lst acc.reverse)).get r = some c := e
      rw [hr'] at e'; cases e'; cases m
    · exact of.apart hr' e y z
  · refine L.x.fr _ _ hv (fun _ z => nomatch z) fun q c e m z => ?_
    have hr' : ((it.fr W.η).add g (.lst acc.reverse)).get r = some (.ldc tt l) := by
      rw [Hd.get_add]
      by_cases y : r = g
      · have hr2 : (it.fr W.η).get r = some (.ldc tt l) := hr
        rw [y, Its.fr_none it h.off] at hr2; cases hr2
      · rw [if_neg y]; exact hr
    by_cases y : q = r
    · rw [y] at e
      have e' : ((it.fr W.η).add g (.lst acc.reverse)).get r = some c := e
      rw [hr'] at e'; cases e'; cases m
    · exact of.apart hr' e y z
  · have x2 : Ext (it.w ⟨W.μ, W.η.add g (.lst acc.reverse), W.H⟩) ⟨W2.μ, W2.η.add g (.lst acc2.reverse), W2.H⟩ := by rw [ew]; exact L.x
    obtain ⟨xt, ot⟩ := Its.thaw h.og fzg x2 L.og
    have eu : it.un (W2.η.add g (.lst acc2.reverse)) = (it.un W2.η).add g (.lst acc2.reverse) := Its.un_add it _ _ _ ne
    have xt' : Ext ⟨W.μ, W.η.add g (.lst acc.reverse), W.H⟩ ⟨W2.μ, (it.un W2.η).add g (.lst acc2.reverse), W2.H⟩ := by rw [← eu]; exact xt
    have ot' : Wl.Ok K N.toNames ⟨W2.μ, (it.un W2.η).add g (.lst acc2.reverse), W2.H⟩ := by rw [← eu]; exact ot
    have off' := Its.un_none it L.off
    have dr := xt'.drop (η' := it.un W2.η) ot' rfl (fun r c e => by
      show ((it.un W2.η).add g (.lst acc2.reverse)).get r = some c
      rw [Hd.get_add]
      by_cases z : r = g
      · rw [z, off'] at e; cases e
      · rw [if_neg z]; exact e)
    exact ⟨dr.2, off', h.x.trans ob h.og xt', ot', L.at_⟩
end
end DL

/-! defs, calls, exceptions -/
namespace DL
open PySem PySem.Spec L2
abbrev CF := List D → Hd → KV → KX → Bool
def spD (K : PySem.W.Frag) (N : Nm) (F : CF) : Sp := fun vs H Q E => ∃ W ds kv kx, W.H = H ∧ W.Ok K N.toNames ∧ RelDs W ds vs ∧ F ds W.η kv kx = true ∧ Vk K N W kv Q ∧ Xk K N E W kx
abbrev JF (P : Program) (w : World) (K : PySem.W.Frag) (mg : Str → Option Value) (base : Heap) (k : Nat) (f : Addr) (fd : FuncData) (ps : List Str) (N : Nm) (F : CF) : Prop := FnOk P w K mg base (L2.CX P w) k f fd ps (spD K N F)
section
variable {X : Cx} {N : Nm} {E : XK}
def cCall (F : CF) (a : CA) : CE := fun σ η kv kx => a σ η (fun ds η1 => F ds η1 kv kx) kx
theorem je_call {k : Nat} {f : Addr} {fd : FuncData} {ps : List Str} {F : CF} {x : Str} {e : Expr} {es : List Expr} {c : CA} {p pos : Pos} (G : JF X.prog X.w X.K X.mg X.base k f fd ps N F) (hr : Room k X.A) (hg : Gl X x) (hm : X.mg x = some (.ref f)) (hk : PySem.W.keepIn X.K (.ref f) = true) (hb : Binds X.K fd ps [])
    (hx : Passes (L2.CX X.prog X.w) X E) (ha : JA X N E (e :: es) c) (hdb : (x == ("__debug__" : Str)) = false := by decide) (hs : starEach (e :: es) X.env = (false, eval e X.env) :: starEach es X.env := by rfl)
    (hpl : (backTo pos (starEach es X.env)).any (·.1) = false := by rfl) : JE X N E (.Call (.Name x p) (e :: es) [] pos) (cCall F c) :=
  PE.imp (pe_call G hr hg hm hk hb .nil hx ha hdb hs hpl) fun σ H Q q => by
    obtain ⟨W, σd, kv, kx, rfl, o, s, h, hv, hxx⟩ := q
    refine tAr.bind o s hxx h fun W1 ds vs x1 o1 r1 s1 hx1 h1 => ?_
    rw [List.append_nil]
    exact ⟨W1, ds, kv, kx, rfl, o1, r1, h1, hv.mono o o1 x1, hx1⟩
/-! ### the body of a def -/
def startD (n m : Nat) (ds : List D) : SD := ds.map some ++ List.replicate (m - n) none
/-- a def of n parameters and m slots -/
def cDef (n m : Nat) (b : CS) : CF := fun ds η kv kx => match Nat.beq ds.length n with
  | true => b (startD n m ds) η ⟨fun _ η1 => kv .non η1, kv, fun _ _ => false, fun _ _ => false, kx⟩
  | false => false
theorem rel_start {W : Wl} {N : List Str} {ds : List D} {vs : List V} (r : RelDs W ds vs) : RelS W (startD ds.length N.length ds) (L2.start N vs) := by
  unfold startD L2.start
  have hl := r.length
  refine ⟨by simp [hl], fun i d e => ?_⟩
  by_cases hi : i < ds.length
  · rw [List.getElem?_append_left (by simpa using hi), List.getElem?_map] at e
    cases q : ds[i]? with
    | none => rw [q] at e; cases e
    | some d' =>
      rw [q] at e
      simp only [Option.map_some, Option.some.injEq] at e
      subst e
      obtain ⟨v, e1, e2⟩ := r.get' q
      refine ⟨v, ?_, e2⟩
      rw [List.getElem?_append_left (by rw [List.length_map, ← hl]; exact hi), List.getElem?_map, e1]; rfl
  · rw [List.getElem?_append_right (by simpa using Nat.le_of_not_lt hi)] at e
    have := List.mem_of_getElem? e
    rw [List.mem_replicate] at this
    cases this.2
section
variable {P : Program} {w : World} {K : PySem.W.Frag} {mg : Str → Option Value} {base : Heap}
theorem jf_def {x qual : Str} {st : Stmt} {f : Addr} {fd : FuncData} {Ns ps : List Str} {k : Nat} {b : CS} (F : Fun K x qual st f fd) (S : FnScope Ns ps (defScope st))
    (hbody : ∀ (cdv : Value) (A : Around) (outer : List Env) (s : Shared) (H : Hp) (E : XK), Room k (A.deeper (PyProof.Rows.envOfC qual (defScope st) s.heap.objs.size f cdv)) → JB (cxOf (L2.CX P w) P w K mg base Ns qual (defScope st) f cdv A outer s H E) N E (defBody st) b) :
    JF P w K mg base (k + 1) f fd ps N (cDef ps.length Ns.length b) := by
  refine F.okX S (fun vs H Q E h => ?_) (fun cdv A outer s H vs Q E hr h => ?_)
  · obtain ⟨W, ds, kv, kx, _, _, r, h, _⟩ := h
    unfold cDef at h
    cases e : Nat.beq ds.length ps.length with
    | false => rw [e] at h; cases h
    | true => rw [← r.length]; exact Nat.eq_of_beq_eq_true e
  · obtain ⟨W, ds, kv, kx, rfl, o, r, h, hv, hx⟩ := h
    unfold cDef at h
    cases e : Nat.beq ds.length ps.length with
    | false => rw [e] at h; cases h
    | true =>
      rw [e] at h
      have el : ds.length = ps.length := Nat.eq_of_beq_eq_true e
      refine ⟨_, hbody cdv A outer s W.H E hr, W, startD ps.length Ns.length ds, _, rfl, o, by rw [← el]; exact rel_start r, h, ⟨fun W' σd σ x o' s' e' => hv W' .non .non x o' mkNon e', hv, (fun _ _ _ _ _ _ e' => nomatch e'), (fun _ _ _ _ _ _ e' => nomatch e'), hx⟩⟩
end
/-! ### raise -/
def sRaise (c : Nat) : CS := fun _ η k => k.xc ⟨c, none⟩ η
theorem js_raise {e : Expr} {C : Addr} {c : Nat} {pos : Pos} (hc : X.calm = true) (tk : Takes X (fun cls d _ H => E cls d H)) (he : PMk X e (fun _ H Q => Q (.ref C) none H)) (hC : N.cls c = C) : JS X N E (.Raise (some e) none pos) (sRaise c) :=
  PS.imp (ps_raise hc tk he) fun Z σ H q => by
    obtain ⟨W, σd, k, rfl, o, s, h, hk⟩ := q
    exact hk.xc W ⟨c, none⟩ (.ref C) none (Ext.refl W) o ⟨by rw [hC], rfl⟩ h
/-! ### list(range(..)), tuple(range(..)) -/
def tRgD (K : PySem.W.Frag) (N : Nm) (E : XK) (c : SD → Hd → (Int → Int → Hd → Bool) → KX → Bool) : St → Hp → (Int → Int → Hp → Prop) → Prop := fun σ H Q => ∃ W σd k kx, W.H = H ∧ W.Ok K N.toNames ∧ RelS W σd σ ∧ c σd W.η k kx = true ∧ (∀ W' a b, Ext W W' → W'.Ok K N.toNames → k a b W'.η = true → Q a b W'.H) ∧ Xk K N E W kx
abbrev CR := SD → Hd → (Int → Int → Hd → Bool) → KX → Bool
def JR (X : Cx) (N : Nm) (E : XK) (e : Expr) (c : CR) : Prop := PRg X e (tRgD X.K N E c)
theorem PRg.imp {e : Expr} {t t' : St → Hp → (Int → Int → Hp → Prop) → Prop} (h : PRg X e t) (f : ∀ σ H Q, t' σ H Q → t σ H Q) : PRg X e t' := fun pins s σ H Q I q => h pins s σ H Q I (f σ H Q q)
def crg1 (a : CE) : CR := fun σ η k kx => a σ η (fun x η1 => match x with
  | .int j => k 0 j η1
  | _ => false) kx
def crg2 (a b : CE) : CR := fun σ η k kx => a σ η (fun x η1 => b σ η1 (fun y η2 => match x, y with
  | .int i, .int j => k i j η2
  | _, _ => false) kx) kx
theorem jr_1 {a : Expr} {c : CE} {p pos : Pos} (hg : Gl X "range") (hm : X.mg "range" = none) (ha : JE X N E a c) (hs : starEach [a] X.env = (false, eval a X.env) :: starEach [] X.env := by rfl) : JR X N E (.Call (.Name "range" p) [a] [] pos) (crg1 c) :=
  PRg.imp (prg_1 hg hm ha hs) fun σ H Q q => by
    obtain ⟨W, σd, k, kx, rfl, o, s, h, hk, hx⟩ := q
    refine tE.bind o s hx h fun W1 d v x1 o1 r1 s1 hx1 h1 => ?_
    cases d with
    | int j => rw [relInt r1]; exact ⟨j, rfl, hk W1 0 j x1 o1 h1⟩
    | _ => cases h1
theorem rgV_rel {W : Wl} (a b : Int) : RelDs W (rangeD (b - a).toNat a) (rgV a b) := by
  unfold rgV
  have gen : ∀ (n : Nat) (a : Int) (k : Nat), RelDs W (rangeD n (a + k)) ((List.range' k n).map fun i => V.int (a + (i : Nat))) := by
    intro n
    induction n with
    | zero => intro a k; exact .nil
    | succ n ih =>
      intro a k
      rw [List.range'_succ, List.map_cons, rangeD]
      refine .cons mkInt ?_
      have := ih a (k + 1)
      rw [show a + (k : Int) + 1 = a + ((k + 1 : Nat) : Int) by omega]
      exact this
  have := gen (b - a).toNat a 0
  rw [List.range_eq_range']
  simpa using this
def cLstR (r : CR) : CE := fun σ η kv kx => r σ η (fun a b η1 => match rOk a, rOk b, Nat.ble (b - a).toNat line with
  | true, true, true => kv (.ref η1.nx) (η1.new (.lst (rangeD (b - a).toNat a)))
  | _, _, _ => false) kx
def cTupR (r : CR) : CE := fun σ η kv kx => r σ η (fun a b η1 => match rOk a, rOk b, Nat.ble (b - a).toNat line with
  | true, true, true => kv (.tup (rangeD (b - a).toNat a)) η1
  | _, _, _ => false) kx
theorem tRg.bind {K : PySem.W.Frag} {W : Wl} {kx : KX} {c : CR} {kt : Int → Int → Hd → Bool} {σ : St} {σd : SD} {Q' : Int → Int → Hp → Prop} (o : W.Ok K N.toNames) (s : RelS W σd σ) (hx : Xk K N E W kx) (h : c σd W.η kt kx = true)
    (hq : ∀ W' a b, Ext W W' → W'.Ok K N.toNames → kt a b W'.η = true → Q' a b W'.H) : tRgD K N E c σ W.H Q' := ⟨W, σd, kt, kx, rfl, o, s, h, hq, hx⟩
theorem je_listR {e : Expr} {c : CR} {p pos : Pos} (hc : X.calm = true) (hg : Gl X "list") (hm : X.mg "list" = none) (he : JR X N E e c) (hs : starEach [e] X.env = (false, eval e X.env) :: starEach [] X.env := by rfl) : JE X N E (.Call (.Name "list" p) [e] [] pos) (cLstR c) :=
  PE.imp (pe_listRg hc hg hm he hs) fun σ H Q q => by
    obtain ⟨W, σd, kv, kx, rfl, o, s, h, hv, hx⟩ := q
    refine tRg.bind o s hx h fun W1 a b x1 o1 h1 => ?_
    cases e1 : rOk a with
    | false => rw [e1] at h1; cases h1
    | true =>
      cases e2 : rOk b with
      | false => rw [e1, e2] at h1; cases h1
      | true =>
        cases e3 : Nat.ble (b - a).toNat line with
        | false => rw [e1, e2, e3] at h1; cases h1
        | true =>
          rw [e1, e2, e3] at h1
          have hl : (b - a).toNat ≤ 16777216 := Nat.le_of_ble_eq_true e3
          exact ⟨⟨(rOk_ok e1).1, (rOk_ok e1).2, (rOk_ok e2).1, (rOk_ok e2).2, by omega⟩, fun q hq => Vk.lst o1 (hv.mono o o1 x1) h1 hq (rgV_rel a b) (by rw [rangeD_len]; exact hl)⟩
theorem je_tupR {e : Expr} {c : CR} {p pos : Pos} (hc : X.calm = true) (hg : Gl X "tuple") (hm : X.mg "tuple" = none) (he : JR X N E e c) (hs : starEach [e] X.env = (false, eval e X.env) :: starEach [] X.env := by rfl) : JE X N E (.Call (.Name "tuple" p) [e] [] pos) (cTupR c) :=
  PE.imp (pe_tupRg hc hg hm he hs) fun σ H Q q => by
    obtain ⟨W, σd, kv, kx, rfl, o, s, h, hv, hx⟩ := q
    refine tRg.bind o s hx h fun W1 a b x1 o1 h1 => ?_
    cases e1 : rOk a with
    | false => rw [e1] at h1; cases h1
    | true =>
      cases e2 : rOk b with
      | false => rw [e1, e2] at h1; cases h1
      | true =>
        cases e3 : Nat.ble (b - a).toNat line with
        | false => rw [e1, e2, e3] at h1; cases h1
        | true =>
          rw [e1, e2, e3] at h1
          have hl : (b - a).toNat ≤ 16777216 := Nat.le_of_ble_eq_true e3
          exact ⟨⟨(rOk_ok e1).1, (rOk_ok e1).2, (rOk_ok e2).1, (rOk_ok e2).2, by omega⟩, fun q hq => Vk.tup (W0 := W) o1 (hv.mono o o1 x1) h1 hq (rgV_rel a b)⟩
end
end DL

/-! sorted -/
namespace DL
open PySem PySem.Spec L2
/-! ### the order of rows of ints -/
/-! ### the machine -/
section
variable {prog : Program} {w : World} {A : Around} {E : Value → Shared → Prop} {s : Shared}
/-! rows of ints -/
def IsRow (h : Heap) (v : Value) (ns : List Int) : Prop := ∃ (a : Addr) (o : Obj) (xs : List Value) (n : Nat), v = .ref a ∧ h.get? a = some o ∧ o.cls = .type "tuple" ∧ o.data = .seq xs.toArray n ∧ Vals (ns.map V.int) xs
theorem IsRow.keeps {h h' : Heap} {v : Value} {ns : List Int} (r : IsRow h v ns) (k : ∀ b o, h.get? b = some o → o.cls = .type "tuple" → h'.get? b = some o) : IsRow h' v ns := by
  obtain ⟨a, o, xs, n, e, h1, h2, h3, h4⟩ := r
  exact ⟨a, o, xs, n, e, k a o h1 h2, h2, h3, h4⟩
end
end DL

/-! sorted: the rule -/
namespace DL
open PySem PySem.Spec L2
section
variable {prog : Program} {w : World} {A : Around} {E : Value → Shared → Prop} {s : Shared}
end
section
variable {X : Cx} {N : Nm} {E : XK}
/-! ### read by trees -/
theorem rel_ints {W : Wl} : ∀ {ns : List Int} {vs : List V}, RelDs W (ns.map D.int) vs → vs = ns.map V.int
  | [], vs, h => by rw [List.map_nil, RelDs] at h; exact h
  | n :: ns, vs, h => by
    rw [List.map_cons, RelDs] at h
    obtain ⟨v, vs', rfl, h1, h2⟩ := h
    rw [rel_ints h2]
    rw [RelD] at h1
    rw [h1]; rfl
theorem ints_rel {W : Wl} : ∀ {ns : List Int}, RelDs W (ns.map D.int) (ns.map V.int)
  | [] => by rw [List.map_nil, RelDs]; rfl
  | n :: ns => RelDs.cons mkInt ints_rel
end
end DL

/-! methods called; a lambda handed to a def that tells its exceptions -/
namespace DL
open PySem PySem.Spec L2
section
variable {X : Cx} {N : Nm} {E : XK}
theorem je_mt {id : String} {name : Str} {f : FM} {o e : Expr} {es : List Expr} {co : CE} {c : CA} {apos cpos : Pos} (pa : PlainAttrs "list") (slot : Slot "list" name id) (hty : typeOf (.builtin id) = pure (.type "method_descriptor")) (hm : MtR X id (rM X.K N f)) (ho : JE X N E o co) (ha : JA X N E (e :: es) c)
    (hbase : attributeBase o name X.env (eval o X.env) = eval o X.env := by rfl)
    (hfew : ((backTo cpos (starEach (e :: es) X.env)).all (fun x => !x.1) && (backToKw cpos (keywordEach [] X.env)).all (fun x => x.1.isSome)
      && decide ((e :: es).length + ([] : List Keyword).length + (if ([] : List Keyword).isEmpty then 0 else 1) < 30)) = true := by rfl)
    (hline : (apos.endLine == cpos.line) = true := by rfl) (hs : starEach (e :: es) X.env = (false, eval e X.env) :: starEach es X.env := by rfl) (hplain : (backTo cpos (starEach es X.env)).any (·.1) = false := by rfl) :
    JE X N E (.Call (.Attribute o name apos) (e :: es) [] cpos) (cMt f co c) :=
  PE.imp (pe_bm pa slot hty hm ho ha hbase hfew hline hs hplain) fun σ H Q q => tBM_of q
/-- x.f(): no argument -/
def cMt0 (f : FM) (o : CE) : CE := fun σ η kv kx => o σ η (fun x η1 => match isL η1 x with
  | true => match f x [] η1 with
    | some (d, η2) => kv d η2
    | none => false
  | false => false) kx
theorem je_mt0 {id : String} {name : Str} {f : FM} {o : Expr} {co : CE} {apos cpos : Pos} (pa : PlainAttrs "list") (slot : Slot "list" name id) (hty : typeOf (.builtin id) = pure (.type "method_descriptor")) (hm : MtR X id (rM X.K N f)) (ho : JE X N E o co)
    (hbase : attributeBase o name X.env (eval o X.env) = eval o X.env := by rfl) (hline : (apos.endLine == cpos.line) = true := by rfl) :
    JE X N E (.Call (.Attribute o name apos) [] [] cpos) (cMt0 f co) :=
  PE.imp (pe_bm0 pa slot hty hm ho hbase hline) fun σ H Q q => by
    obtain ⟨W, σd, kv, kx, rfl, o, s, h, hv, hx⟩ := q
    refine tE.bind o s hx h fun W1 d v x1 o1 r1 s1 hx1 h1 => ?_
    cases e : isL W1.η d with
    | false => rw [e] at h1; cases h1
    | true =>
      rw [e] at h1
      refine ⟨isL_ty o1 r1 e, ?_⟩
      simp only at h1
      cases e2 : f d [] W1.η with
      | none => rw [e2] at h1; cases h1
      | some p =>
        obtain ⟨d2, η2⟩ := p
        rw [e2] at h1
        exact ⟨W1, d, [], d2, η2, rfl, o1, r1, .nil, e2, fun W' v x3 o3 e3 r3 => hv W' d2 v (x1.trans o o1 x3) o3 r3 (by rw [e3]; exact h1)⟩
/-! ### told -/
inductive HdsS (mg : Str → Option Value) (sg : Scope) : List ExceptHandler → List (Value × Str) → Prop
  | nil : HdsS mg sg [] []
  | cons {e ret : Str} {c : Value} {p4 p5 p6 p7 : Pos} {j} {hds : List ExceptHandler} {l : List (Value × Str)} (hge : sg.names.lookup e = some .globalImplicit) (hme : mg e = some c) (hde : (e == ("__debug__" : Str)) = false) (r : HdsS mg sg hds l) :
      HdsS mg sg (.ExceptHandler (some (.Name e p4)) none [.Return (some (.Constant (.str ret) j p5)) p6] p7 :: hds) ((c, ret) :: l)
def tsOf (l : List (Value × Str)) : List (Value × (Addr → Value → Option Addr → TS)) := l.map fun p => (p.1, fun _ _ _ D _ H => D.rt (.str p.2) H)
theorem HdsS.ok {Y : Cx} {sg : Scope} (hs : Y.env.scope = sg) {hds : List ExceptHandler} {l : List (Value × Str)} (h : HdsS Y.mg sg hds l) : HdsOk Y hds (tsOf l) := by
  induction h with
  | nil => exact .nil
  | cons hge hme hde r ih =>
    refine HdsOk.cons ⟨?_, hde, .inl hme⟩ (fun a oe cls d pn _ _ => ?_) ih
    · subst hs; exact hge
    · exact pss_one (ps_ret pe_str)
def cTold (hm : Nat → Option Str) (cb : CE) : CE := fun σ η kv kx => cb σ η kv (fun x η1 => match hm x.c with
  | some r => kv (.str r) η1
  | none => false)
/-! ### a lambda is made, and handed on -/
section
variable {X : Cx} {pins : List (Addr × Obj)} {σ : L2.St} {H : Hp} {s : Shared}
end
/-- a world where tables grow -/
theorem Wl.Ok.grown {K : PySem.W.Frag} {N : Names} {W : Wl} (o : W.Ok K N) {H1 : Hp} (eN : LamX.ExtN W.H H1) (T1 : Tabs N.tabs H1) : Ext W ⟨W.μ, W.η, H1⟩ ∧ Wl.Ok K N ⟨W.μ, W.η, H1⟩ := by
  have x : Ext W ⟨W.μ, W.η, H1⟩ := ⟨Nat.le_refl _, fun _ _ => rfl, fun a u h t _ => eN a u h t, fun a u h t => ⟨u, eN a u h t, t⟩, fun r c e => .inl ⟨c, e, id⟩⟩
  exact ⟨x, o.lt, fun r c e => (o.cell r c e).mono o x (fun ob t h => eN _ ob h t), o.inj, T1⟩
end
end DL

/-! states forgotten, tables of results, dice, the law's own loop -/
namespace DL
open PySem PySem.Spec L2
section
variable {X : Cx} {N : Nm} {E : XK}
def ipow (i j : Int) : Int := i ^ j.toNat
def powOk (i j : Int) : Bool := match j with
  | .ofNat n => Nat.ble n 1000 && Nat.ble i.natAbs 1000000000000000000
  | _ => false
theorem powOk_ok (i j : Int) (h : powOk i j = true) : CPow i j := by
  unfold powOk at h
  split at h
  · rename_i n
    obtain ⟨h1, h2⟩ := Bool.and_eq_true_iff.mp h
    have h1 := Nat.le_of_ble_eq_true h1
    have h2 := Nat.le_of_ble_eq_true h2
    exact ⟨by show (0 : Int) ≤ (n : Int); omega, by show (n : Int) ≤ _; omega, by omega⟩
  · cases h
def fPow : F2 := fI2c powOk ipow
theorem opd_pow : OpR X (binaryOp .Pow) (r2 X.K N fPow) := opd_intc op_pow powOk_ok fun _ _ => rfl
end
/-! ### the same data -/
def same : Nat → D → D → Bool
  | _, .int i, .int j => ieq i j
  | _, .non, .non => true
  | _, .bl a, .bl b => a == b
  | _, .str x, .str y => x == y
  | _, .ref a, .ref b => Nat.beq a b
  | n + 1, .tup a, .tup b => eqL (same n) a b
  | n + 1, .ftup a, .ftup b => eqL (same n) a b
  | _, _, _ => false
theorem eqL_eq {f : D → D → Bool} (hf : ∀ a b, f a b = true → a = b) : ∀ {a b : List D}, eqL f a b = true → a = b
  | [], [], _ => rfl
  | x :: xs, y :: ys, h => by
    simp only [eqL] at h
    cases e : f x y with
    | true => rw [e] at h; rw [hf _ _ e, eqL_eq hf h]
    | false => rw [e] at h; cases h
  | [], _ :: _, h => by simp [eqL] at h
  | _ :: _, [], h => by simp [eqL] at h
theorem same_eq : ∀ (n : Nat) (a b : D), same n a b = true → a = b := by
  intro n
  induction n with
  | zero =>
    intro a b h
    cases a <;> cases b <;> first | rfl | (simp only [same] at h; first | cases h | exact congrArg D.int (ieq_iff.mp h) | exact congrArg D.bl (beq_iff_eq.mp h) | exact congrArg D.str (beq_iff_eq.mp h) | exact congrArg D.ref (Nat.eq_of_beq_eq_true h))
  | succ n ih =>
    intro a b h
    cases a <;> cases b <;> first | rfl | (simp only [same] at h; first | cases h | exact congrArg D.int (ieq_iff.mp h) | exact congrArg D.bl (beq_iff_eq.mp h) | exact congrArg D.str (beq_iff_eq.mp h) | exact congrArg D.ref (Nat.eq_of_beq_eq_true h) | exact congrArg D.tup (eqL_eq ih h) | exact congrArg D.ftup (eqL_eq ih h))
/-- its cells are below n -/
def below : Nat → Nat → D → Bool
  | _, n, .ref r => Nat.ble (Nat.succ r) n
  | f + 1, n, .tup l => l.all (below f n)
  | f + 1, n, .ftup l => l.all (below f n)
  | 0, _, .tup _ => false
  | 0, _, .ftup _ => false
  | _, _, _ => true
theorem below_rel {W : Wl} {n : Nat} {cs : List (Nat × Cell)} : ∀ (f : Nat) {d : D} {v : V}, below f n d = true → RelD W d v → RelD ⟨W.μ, ⟨n, cs⟩, W.H⟩ d v := by
  intro f
  induction f with
  | zero =>
    intro d v h r
    cases d with
    | tup l => cases h
    | ftup l => cases h
    | ref q => rw [RelD] at *; exact ⟨Nat.le_of_ble_eq_true h, r.2⟩
    | _ => rw [RelD] at *; exact r
  | succ f ih =>
    intro d v h r
    cases d with
    | tup l =>
      rw [RelD] at *
      obtain ⟨a, vs, e, h1, h2⟩ := r
      refine ⟨a, vs, e, h1, ?_⟩
      have all : ∀ (l : List D) (vs : List V), l.all (below f n) = true → RelDs W l vs → RelDs ⟨W.μ, ⟨n, cs⟩, W.H⟩ l vs := by
        intro l
        induction l with
        | nil => intro vs _ r; rw [RelDs] at *; exact r
        | cons d l ihl =>
          intro vs hh r
          rw [RelDs] at *
          obtain ⟨v, vs', e, r1, r2⟩ := r
          simp only [List.all_cons, Bool.and_eq_true] at hh
          exact ⟨v, vs', e, ih hh.1 r1, ihl vs' hh.2 r2⟩
      exact all l vs h h2
    | ftup l =>
      rw [RelD] at *
      obtain ⟨a, vs, ob, e, h1, h3, h2⟩ := r
      refine ⟨a, vs, ob, e, h1, h3, ?_⟩
      have all : ∀ (l : List D) (vs : List V), l.all (below f n) = true → RelDs W l vs → RelDs ⟨W.μ, ⟨n, cs⟩, W.H⟩ l vs := by
        intro l
        induction l with
        | nil => intro vs _ r; rw [RelDs] at *; exact r
        | cons d l ihl =>
          intro vs hh r
          rw [RelDs] at *
          obtain ⟨v, vs', e, r1, r2⟩ := r
          simp only [List.all_cons, Bool.and_eq_true] at hh
          exact ⟨v, vs', e, ih hh.1 r1, ihl vs' hh.2 r2⟩
      exact all l vs h h2
    | ref q => rw [RelD] at *; exact ⟨Nat.le_of_ble_eq_true h, r.2⟩
    | _ => rw [RelD] at *; exact r
theorem belows_rel {W : Wl} {n : Nat} {cs : List (Nat × Cell)} {f : Nat} : ∀ {l : List D} {vs : List V}, l.all (below f n) = true → RelDs W l vs → RelDs ⟨W.μ, ⟨n, cs⟩, W.H⟩ l vs
  | [], _, _, r => by rw [RelDs] at *; exact r
  | d :: l, _, hh, r => by
    rw [RelDs] at *
    obtain ⟨v, vs', e, r1, r2⟩ := r
    simp only [List.all_cons, Bool.and_eq_true] at hh
    exact ⟨v, vs', e, below_rel f hh.1 r1, belows_rel hh.2 r2⟩
def is3 : List D → Bool
  | [.int _, .int _, .int _] => true
  | _ => false
def eqFs : List (Nat × D) → List (Nat × D) → Bool
  | [], [] => true
  | (a, d) :: s, (b, e) :: t => match Nat.beq a b with
    | true => match same 8 d e with
      | true => eqFs s t
      | false => false
    | false => false
  | _, _ => false
def belowF (n : Nat) : List (Nat × D) → Bool
  | [] => true
  | (_, d) :: t => match below 8 n d with
    | true => belowF n t
    | false => false
/-- of the cell c0 the cell c is kept -/
def cle (n : Nat) (c0 c : Cell) : Bool := match c with
  | .dice => match c0 with
    | .dice => true
    | .lst l => is3 l
    | _ => false
  | .lst m => match c0 with
    | .lst l => eqL (same 8) l m && l.all (below 8 n)
    | _ => false
  | .frz m => match c0 with
    | .frz l => eqL (same 8) l m && l.all (below 8 n)
    | _ => false
  | .ins k fs => match c0 with
    | .ins k0 fs0 => Nat.beq k0 k && (eqFs fs0 fs && belowF n fs0)
    | _ => false
  | _ => false
theorem eqFs_eq : ∀ {a b : List (Nat × D)}, eqFs a b = true → a = b
  | [], [], _ => rfl
  | [], _ :: _, h => by cases h
  | (_, _) :: _, [], h => by cases h
  | (a, d) :: s, (b, e) :: t, h => by
    simp only [eqFs] at h
    cases e1 : Nat.beq a b with
    | false => rw [e1] at h; cases h
    | true =>
      rw [e1] at h
      simp only at h
      cases e2 : same 8 d e with
      | false => rw [e2] at h; cases h
      | true =>
        rw [e2] at h
        rw [Nat.eq_of_beq_eq_true e1, same_eq 8 d e e2, eqFs_eq h]
theorem belowF_rel {W : Wl} {N : Names} {n : Nat} {cs : List (Nat × Cell)} : ∀ {fs : List (Nat × D)} {gs : List (Str × V)}, belowF n fs = true → RelFs W N fs gs → RelFs ⟨W.μ, ⟨n, cs⟩, W.H⟩ N fs gs
  | [], _, _, r => by rw [RelFs] at *; exact r
  | (k, d) :: fs, _, hh, r => by
    rw [RelFs] at *
    obtain ⟨v, gs', e, r1, r2⟩ := r
    simp only [belowF] at hh
    cases e1 : below 8 n d with
    | false => rw [e1] at hh; cases hh
    | true =>
      rw [e1] at hh
      exact ⟨v, gs', e, below_rel 8 e1 r1, belowF_rel hh r2⟩
theorem is3_eq {l : List D} (h : is3 l = true) : ∃ p q r, l = [.int p, .int q, .int r] := by
  match l, h with
  | [.int p, .int q, .int r], _ => exact ⟨p, q, r, rfl⟩
theorem rel3i {W : Wl} {p q r : Int} {vs : List V} (h : RelDs W [.int p, .int q, .int r] vs) : vs = [.int p, .int q, .int r] := rel_ints (ns := [p, q, r]) h
theorem cle_ok {K : PySem.W.Frag} {N : Names} {W : Wl} {n : Nat} {cs : List (Nat × Cell)} {a : Addr} {c0 c : Cell} (h : cle n c0 c = true) (r : RelC K N W a c0) : RelC K N ⟨W.μ, ⟨n, cs⟩, W.H⟩ a c ∧ (c.mut = true → c0.mut = true) := by
  cases c with
  | dice =>
    cases c0 with
    | dice => exact ⟨r, id⟩
    | lst l =>
      obtain ⟨p, q, s, rfl⟩ := is3_eq h
      obtain ⟨vs, h1, h2, _⟩ := r
      rw [rel3i h2] at h1
      exact ⟨⟨p, q, s, h1⟩, fun _ => rfl⟩
    | _ => cases h
  | lst m =>
    cases c0 with
    | lst l =>
      obtain ⟨h1, h2⟩ := Bool.and_eq_true_iff.mp h
      have e := eqL_eq (same_eq 8) h1
      subst e
      obtain ⟨vs, g1, g2, g3⟩ := r
      exact ⟨⟨vs, g1, belows_rel h2 g2, g3⟩, fun _ => rfl⟩
    | _ => cases h
  | frz m =>
    cases c0 with
    | frz l =>
      obtain ⟨h1, h2⟩ := Bool.and_eq_true_iff.mp h
      have e := eqL_eq (same_eq 8) h1
      subst e
      obtain ⟨vs, g1, g2, g3⟩ := r
      exact ⟨⟨vs, g1, belows_rel h2 g2, g3⟩, fun z => nomatch z⟩
    | _ => cases h
  | ins k fs =>
    cases c0 with
    | ins k0 fs0 =>
      obtain ⟨h0, h⟩ := Bool.and_eq_true_iff.mp h
      obtain ⟨h1, h2⟩ := Bool.and_eq_true_iff.mp h
      have e := eqFs_eq h1
      subst e
      have e0 := Nat.eq_of_beq_eq_true h0
      subst e0
      obtain ⟨dx, gs, g1, g2, g3⟩ := r
      exact ⟨⟨dx, gs, g1, belowF_rel h2 g2, g3⟩, fun _ => rfl⟩
    | _ => cases h
  | _ => cases h
def leSl (n : Nat) : SD → SD → Bool
  | [], [] => true
  | none :: s, _ :: t => leSl n s t
  | some d :: s, some e :: t => match same 8 e d with
    | true => match below 8 n d with
      | true => leSl n s t
      | false => false
    | false => false
  | _, _ => false
def leCs (n : Nat) (η : Hd) : List (Nat × Cell) → Bool
  | [] => true
  | p :: t => match Nat.ble (Nat.succ p.1) n with
    | true => match η.get p.1 with
      | some c0 => match cle n c0 p.2 with
        | true => leCs n η t
        | false => false
      | none => false
    | false => false
/-- the state st is kept of σ and η -/
def leS (st : SD × Hd) (σ : SD) (η : Hd) : Bool := match leSl st.2.nx st.1 σ with
  | true => match Nat.ble st.2.nx η.nx with
    | true => leCs st.2.nx η st.2.cs
    | false => false
  | false => false
/-! ### the body of the law's loop -/
def kT (m : Nat) : KS := ⟨fun σ _ => Nat.beq σ.length m, fun _ _ => false, fun _ _ => false, fun σ _ => Nat.beq σ.length m, fun _ _ => false⟩
abbrev CK := SD → Hd → Bool
def tK (K : PySem.W.Frag) (N : Nm) (E : XK) (m : Nat) (c : CK) : TS := fun Z σ H => ∃ W0 W σd, W0.Ok K N.toNames ∧ W0.η.nx ≤ 1 ∧ Ext W0 W ∧ W.H = H ∧ W.Ok K N.toNames ∧ RelS W σd σ ∧ c σd W.η = true ∧ Sk K N E W0 (kT m) Z
def JK (X : Cx) (N : Nm) (E : XK) (m : Nat) (b : List Stmt) (c : CK) : Prop := PSs X b (tK X.K N E m c)
section
variable {X : Cx} {N : Nm} {E : XK} {m : Nat}
theorem jk_of {b : List Stmt} {c : CS} (h : JB X N E b c) : JK X N E m b (fun σ η => c σ η (kT m)) := PSs.imp h fun Z σ H q => by
  obtain ⟨W0, W, σd, o0, h0, x, rfl, o, s, h, hk⟩ := q
  exact ⟨W, σd, kT m, rfl, o, s, h, hk.mono o0 o x⟩
theorem jk_cons {st : Stmt} {rest : List Stmt} {a : CS} {c : CK} (h1 : JS X N E st a) (h2 : JK X N E m rest c) : JK X N E m (st :: rest) (fun σ η => a σ η { kT m with nx := c }) := PSs.imp (pss_cons h1 h2) fun Z σ H q => by
  obtain ⟨W0, W, σd, o0, h0, x, rfl, o, s, h, hk⟩ := q
  have hk' := hk.mono o0 o x
  exact ⟨W, σd, _, rfl, o, s, h, ⟨fun W' σd' σ' x' o' s' e' => ⟨W0, W', σd', o0, h0, x.trans o0 o x', rfl, o', s', e', hk⟩, hk'.rt, hk'.bk, hk'.ct, hk'.xc⟩⟩
end
end DL

/-! tables of results, dice, the law's own loop -/
namespace DL
open PySem PySem.Spec L2
section
variable {K : PySem.W.Frag} {N : Names} {W W1 : Wl}
theorem put_put (r : Nat) (c d : Cell) : ∀ l : List (Nat × Cell), put r d (put r c l) = put r d l
  | [] => rfl
  | p :: t => by
    have rr : Nat.beq r r = true := Nat.beq_refl r
    cases e : Nat.beq p.1 r with
    | true => simp only [put, e, rr]
    | false => simp only [put, e, put_put r c d t]
theorem put_self (r : Nat) (c : Cell) : ∀ l : List (Nat × Cell), look r l = some c → put r c l = l
  | [], h => rfl
  | p :: t, h => by
    unfold put
    unfold look at h
    cases e : Nat.beq p.1 r with
    | true =>
      rw [e] at h
      have := Nat.eq_of_beq_eq_true e
      cases h; subst this; rfl
    | false => rw [e] at h; simp only; rw [put_self r c t h]
theorem Hd.set_set (η : Hd) (r : Nat) (c d : Cell) : (η.set r c).set r d = η.set r d := by unfold Hd.set; rw [put_put]
theorem Hd.set_self (η : Hd) (r : Nat) (c : Cell) (h : η.get r = some c) : η.set r c = η := by unfold Hd.set; rw [put_self r c _ h]
theorem Hd.new_set (η : Hd) (c d : Cell) : (η.new c).set η.nx d = η.new d := by
  unfold Hd.new Hd.set put
  have : Nat.beq η.nx η.nx = true := Nat.beq_refl _
  simp [this]
/-- a cell told otherwise -/
theorem Wl.Ok.swap (o : W.Ok K N) {r : Nat} {c0 c : Cell} (h : W.η.get r = some c0) (hc : RelC K N W (W.μ r) c) (m : c.mut = true → c0.mut = true) : Ext W ⟨W.μ, W.η.set r c, W.H⟩ ∧ Wl.Ok K N ⟨W.μ, W.η.set r c, W.H⟩ := by
  have gs : ∀ q, (W.η.set r c).get q = if q = r then some c else W.η.get q := fun q => by
    have := Hd.get_set W.η r c q
    rw [h] at this
    exact this
  have x : Ext W ⟨W.μ, W.η.set r c, W.H⟩ := by
    refine ⟨Nat.le_refl _, fun _ _ => rfl, fun _ _ e _ _ => e, fun a u e t => ⟨u, e, t⟩, fun q d e => ?_⟩
    have e' : (W.η.set r c).get q = some d := e
    rw [gs] at e'
    by_cases z : q = r
    · rw [if_pos z] at e'; cases e'; exact .inl ⟨c0, by rw [z]; exact h, m⟩
    · rw [if_neg z] at e'; exact .inl ⟨d, e', id⟩
  have t : Tx W ⟨W.μ, W.η.set r c, W.H⟩ := x.tx o
  have orig : ∀ q d, (W.η.set r c).get q = some d → ∃ d0, W.η.get q = some d0 := fun q d e => by
    rw [gs] at e
    by_cases z : q = r
    · exact ⟨c0, by rw [z]; exact h⟩
    · rw [if_neg z] at e; exact ⟨d, e⟩
  refine ⟨x, fun q d e => ?_, fun q d e => ?_, fun q s d1 d2 e1 e2 e => ?_, o.tab⟩
  · obtain ⟨d0, e0⟩ := orig q d e; exact o.lt q d0 e0
  · have e' : (W.η.set r c).get q = some d := e
    rw [gs] at e'
    by_cases z : q = r
    · rw [if_pos z] at e'; cases e'; rw [z]; exact hc.tx t (fun _ _ e => e)
    · rw [if_neg z] at e'; exact (o.cell q d e').tx t (fun _ _ e => e)
  · obtain ⟨c1, g1⟩ := orig q d1 e1
    obtain ⟨c2, g2⟩ := orig s d2 e2
    exact o.inj q s c1 c2 g1 g2 e
end
/-! ### dice -/
def l3 (p q r : Int) : List D := [.int p, .int q, .int r]
def allN : Nat → (Nat → Bool) → Bool
  | 0, _ => true
  | n + 1, f => match f n with
    | true => allN n f
    | false => false
theorem allN_get : ∀ {n : Nat} {f : Nat → Bool}, allN n f = true → ∀ i, i < n → f i = true
  | 0, _, _, i, h => absurd h (by omega)
  | n + 1, f, h, i, hi => by
    unfold allN at h
    cases e : f n with
    | false => rw [e] at h; cases h
    | true =>
      rw [e] at h
      by_cases z : i = n
      · rw [z]; exact e
      · exact allN_get h i (by omega)
def fRoll : CF := fun ds η kv kx => match ds with
  | [.ref g, .int (.ofNat (n + 1))] => match η.get g with
    | some .dice => match Nat.ble n 1000000000 with
      | true => allN (n + 1) fun v => kv (.int (Int.ofNat v)) η
      | false => false
    | _ => false
  | _ => false
def RollOk (F : CF) : Prop := ∀ (g : Nat) (m p q r : Int) (η : Hd) (kv : KV) (kx : KX), 0 < m → m ≤ 1000000001 → η.get g = some (.lst (l3 p q r)) →
  (∀ v p' q' r', 0 ≤ v → v < m → kv (.int v) (η.set g (.lst (l3 p' q' r'))) = true) → F [.ref g, .int m] η kv kx = true
def fDice : CF := fun ds η kv kx => match ds with
  | [.int _] => kv (.ref η.nx) (η.new .dice)
  | _ => false
def DiceOk (F : CF) : Prop := ∀ (c : Int) (η : Hd) (kv : KV) (kx : KX), (∀ p q r, kv (.ref η.nx) (η.new (.lst (l3 p q r))) = true) → F [.int c] η kv kx = true
noncomputable def dec (p : Prop) : Bool := @decide p (Classical.propDecidable p)
theorem dec_iff {p : Prop} : dec p = true ↔ p := by unfold dec; exact @decide_eq_true_iff p (Classical.propDecidable p)
section
variable {P : Program} {w : World} {K : PySem.W.Frag} {mg : Str → Option Value} {base : Heap} {N : Nm} {k : Nat} {f : Addr} {fd : FuncData} {ps : List Str} {F : CF}
theorem roll_inv {ds : List D} {η : Hd} {kv : KV} {kx : KX} (h : fRoll ds η kv kx = true) : ∃ g n, ds = [.ref g, .int (.ofNat (n + 1))] ∧ η.get g = some .dice ∧ n ≤ 1000000000 ∧ ∀ v, v < n + 1 → kv (.int (Int.ofNat v)) η = true := by
  unfold fRoll at h
  split at h
  · rename_i g n
    split at h
    · rename_i e
      split at h
      · rename_i e2
        exact ⟨g, n, rfl, e, Nat.le_of_ble_eq_true e2, allN_get h⟩
      · cases h
    · cases h
  · cases h
theorem jf_roll (h : JF P w K mg base k f fd ps N F) (hF : RollOk F) : JF P w K mg base k f fd ps N fRoll :=
  h.imp fun vs H Q E q => by
    obtain ⟨W, ds, kv, kx, rfl, o, r, h, hv, hx⟩ := q
    obtain ⟨g, n, rfl, hg, hn, ha⟩ := roll_inv h
    obtain ⟨p, q, s, hc⟩ := o.cell g _ hg
    have rc : RelC K N.toNames W (W.μ g) (.lst (l3 p q s)) := ⟨_, hc, .cons mkInt (.cons mkInt (.cons mkInt .nil)), by show 3 ≤ sizeLine; decide⟩
    obtain ⟨x1, o1⟩ := o.swap hg rc (fun _ => rfl)
    have g1 : (W.η.set g (.lst (l3 p q s))).get g = some (.lst (l3 p q s)) := by rw [Hd.get_set, if_pos rfl, hg]; rfl
    refine ⟨⟨W.μ, W.η.set g (.lst (l3 p q s)), W.H⟩, _, fun d η' => dec (∃ v p' q' r', d = .int v ∧ 0 ≤ v ∧ v < Int.ofNat (n + 1) ∧ η' = W.η.set g (.lst (l3 p' q' r'))), kx, rfl, o1, r.mono o x1, ?_, fun W2 d v x2 o2 r2 e => ?_, hx.mono o o1 x1⟩
    · refine hF g _ p q s _ _ _ (by show (0 : Int) < ((n + 1 : Nat) : Int); omega) (by show ((n + 1 : Nat) : Int) ≤ _; omega) g1 fun v p' q' r' h1 h2 => dec_iff.mpr ⟨v, p', q', r', rfl, h1, h2, ?_⟩
      exact Hd.set_set _ _ _ _
    · obtain ⟨v', p', q', r', rfl, h1, h2, e2⟩ := dec_iff.mp e
      have g2 : W2.η.get g = some (.lst (l3 p' q' r')) := by rw [e2, Hd.get_set, if_pos rfl, hg]; rfl
      have rd : RelC K N.toNames W2 (W2.μ g) .dice := by
        obtain ⟨us, k1, k2, _⟩ := o2.cell g _ g2
        rw [rel3i k2] at k1
        exact ⟨p', q', r', k1⟩
      obtain ⟨x3, o3⟩ := o2.swap g2 rd (fun _ => rfl)
      have eη : W2.η.set g .dice = W.η := by rw [e2, Hd.set_set, Hd.set_self _ _ _ hg]
      rw [eη] at x3 o3
      have rv : v = .int v' := by rw [RelD] at r2; exact r2
      subst rv
      refine hv ⟨W2.μ, W.η, W2.H⟩ (.int v') _ ((x1.trans o o1 x2).trans o o2 x3) o3 mkInt ?_
      have : v' = Int.ofNat v'.toNat := (Int.toNat_of_nonneg h1).symm
      rw [this]
      exact ha _ (by have h2' : v' < ((n + 1 : Nat) : Int) := h2; omega)
theorem jf_dice (h : JF P w K mg base k f fd ps N F) (hF : DiceOk F) : JF P w K mg base k f fd ps N fDice :=
  h.imp fun vs H Q E q => by
    obtain ⟨W, ds, kv, kx, rfl, o, r, h, hv, hx⟩ := q
    unfold fDice at h
    split at h
    · rename_i c
      refine ⟨W, _, fun d η' => dec (∃ p q s, d = .ref W.η.nx ∧ η' = W.η.new (.lst (l3 p q s))), kx, rfl, o, r, hF c _ _ _ fun p q s => dec_iff.mpr ⟨p, q, s, rfl, rfl⟩, fun W2 d v x2 o2 r2 e => ?_, hx⟩
      obtain ⟨p, q, s, rfl, e2⟩ := dec_iff.mp e
      have g2 : W2.η.get W.η.nx = some (.lst (l3 p q s)) := by rw [e2, Hd.get_new, if_pos rfl]
      have rd : RelC K N.toNames W2 (W2.μ W.η.nx) .dice := by
        obtain ⟨us, k1, k2, _⟩ := o2.cell _ _ g2
        rw [rel3i k2] at k1
        exact ⟨p, q, s, k1⟩
      obtain ⟨x3, o3⟩ := o2.swap g2 rd (fun _ => rfl)
      have eη : W2.η.set W.η.nx .dice = W.η.new .dice := by rw [e2, Hd.new_set]
      rw [eη] at x3 o3
      exact hv ⟨W2.μ, W.η.new .dice, W2.H⟩ _ v (x2.trans o o2 x3) o3 (r2.mono o2 x3) h
    · cases h
/-! ### a def known by a table of its results -/
/-- what a def makes: a value, an exception -/
inductive Rs where
  | val (d : D)
  | exc (c : Nat)
end
end DL

/-! the law's own loop over its dice -/
namespace DL
open PySem PySem.Spec L2
def delC (g : Nat) : List (Nat × Cell) → List (Nat × Cell)
  | [] => []
  | p :: t => match Nat.beq p.1 g with
    | true => delC g t
    | false => p :: delC g t
def Hd.del (η : Hd) (g : Nat) : Hd := ⟨η.nx, delC g η.cs⟩
theorem look_del (g q : Nat) : ∀ l : List (Nat × Cell), look q (delC g l) = if q = g then none else look q l
  | [] => by simp [delC, look]
  | p :: t => by
    have ih := look_del g q t
    unfold delC
    cases e : Nat.beq p.1 g with
    | true =>
      have e' := Nat.eq_of_beq_eq_true e
      simp only [ih, look]
      by_cases h : q = g
      · simp [h]
      · have : Nat.beq p.1 q = false := by
          cases z : Nat.beq p.1 q with
          | false => rfl
          | true => exact absurd ((Nat.eq_of_beq_eq_true z).symm.trans e') h
        simp [h, this]
    | false =>
      simp only [look, ih]
      by_cases h : q = g
      · subst h; simp [e]
      · simp [h]
theorem Hd.get_del (η : Hd) (g q : Nat) : (η.del g).get q = if q = g then none else η.get q := look_del g q η.cs
def dicesL : List D → Hd → Bool
  | [], _ => true
  | .ref g :: t, η => match η.get g with
    | some .dice => dicesL t (η.del g)
    | _ => false
  | _ :: _, _ => false
theorem dicesL_cons {d : D} {t : List D} {η : Hd} (h : dicesL (d :: t) η = true) : ∃ g, d = .ref g ∧ η.get g = some .dice ∧ dicesL t (η.del g) = true := by
  cases d with
  | ref g =>
    simp only [dicesL] at h
    cases e : η.get g with
    | none => rw [e] at h; cases h
    | some c =>
      cases c with
      | dice => rw [e] at h; exact ⟨g, rfl, e, h⟩
      | _ => rw [e] at h; cases h
  | _ => cases h
theorem Wl.Ok.aside {K : PySem.W.Frag} {N : Names} {W W5 : Wl} (o : W.Ok K N) {g : Nat} (hg : W.η.get g = some .dice) (x : Ext ⟨fun _ => W.μ g, ⟨1, [(0, .dice)]⟩, W.H⟩ W5) (o5 : W5.Ok K N) : Ext W ⟨W.μ, W.η.del g, W5.H⟩ ∧ Wl.Ok K N ⟨W.μ, W.η.del g, W5.H⟩ := by
  have keep : ∀ a u, noT u → W.H a = some u → a ≠ W.μ g → W5.H a = some u := fun a u t e ne => x.fr a u e t (fun _ _ _ _ z => ne z.symm)
  have xx : Ext W ⟨W.μ, W.η.del g, W5.H⟩ := by
    refine ⟨Nat.le_refl _, fun _ _ => rfl, fun a u e t hn => keep a u t e (Ne.symm (hn g _ hg rfl)), x.th, fun q c e => ?_⟩
    have e' : (W.η.del g).get q = some c := e
    rw [Hd.get_del] at e'
    by_cases z : q = g
    · rw [if_pos z] at e'; cases e'
    · rw [if_neg z] at e'; exact .inl ⟨c, e', id⟩
  have orig : ∀ q c, (W.η.del g).get q = some c → q ≠ g ∧ W.η.get q = some c := fun q c e => by
    rw [Hd.get_del] at e
    by_cases z : q = g
    · rw [if_pos z] at e; cases e
    · rw [if_neg z] at e; exact ⟨z, e⟩
  refine ⟨xx, fun q c e => o.lt q c (orig q c e).2, fun q c e => ?_, fun q s c d e1 e2 e => o.inj q s c d (orig q c e1).2 (orig s d e2).2 e, o5.tab⟩
  obtain ⟨z, e'⟩ := orig q c e
  exact (o.cell q c e').mono o xx (fun ob t h => keep _ ob t h (o.apart hg e' z))
theorem RelS.blank {W : Wl} {σ : St} {m : Nat} (h : σ.length = m) : RelS W (List.replicate m none) σ := by
  refine ⟨by rw [List.length_replicate]; exact h.symm, fun i d e => ?_⟩
  have := List.mem_of_getElem? e
  rw [List.mem_replicate] at this
  cases this.2
section
variable {X : Cx} {N : Nm} {E : XK}
/-- what the rounds give -/
def RndQ (K : PySem.W.Frag) (N : Nm) (H : Hp) (Q : VK) : Prop := ∀ W' r l v, Ext ⟨fun _ => 0, ⟨0, []⟩, H⟩ W' → W'.Ok K N.toNames → W'.η.get r = some (.lst l) → dicesL l (frzAt r l W'.η) = true → RelD W' (.ref r) v → Q v W'.H
def spRnd (K : PySem.W.Frag) (N : Nm) : Sp := fun vs H Q _ => ∃ (a : Addr) (ns : List Int) (m : Nat), vs = [.ref a, .int (Int.ofNat m)] ∧ m ≤ 4 ∧ SqL K H a (ns.map V.int) ∧ Tabs N.tabs H ∧ RndQ K N H Q
def tLaw (K : PySem.W.Frag) (N : Nm) (m : Nat) : TS := fun Z σ H => ∃ (a : Addr) (ns : List Int), σ[0]? = some (some (.ref a)) ∧ σ.length = m ∧ SqL K H a (ns.map V.int) ∧ Tabs N.tabs H ∧ ∀ H', Z.rt (.bl true) H'
/-- for dice in _law_rounds(script, n): body; return True -/
theorem law_loop {k : Nat} {f : Addr} {fd : FuncData} {ps : List Str} {i m n : Nat} {x y : Str} {e0 e1 : Expr} {body : List Stmt} {c : CK} {p p' p2 pos pos2 : Pos} {jj} {pb : Pos}
    (G : FnOk X.prog X.w X.K X.mg X.base (L2.CX X.prog X.w) k f fd ps (spRnd X.K N)) (hr : Room k X.A) (hgl : Gl X x) (hm : X.mg x = some (.ref f)) (hk : PySem.W.keepIn X.K (.ref f) = true) (hb : Binds X.K fd ps []) (hx : Passes (L2.CX X.prog X.w) X E)
    (h0 : PE X e0 (tVar 0)) (h1 : PE X e1 (tC (.int (Int.ofNat n)))) (hn : n ≤ 4)
    (hp : PassesOwn (model X.prog X.w) X.A X.env X.xe) (hc : X.calm = true) (hg : JG X N E (.Name y p') (gNm i)) (hbody : JK X N E m body c) (hgen : c ((List.replicate m none).set i (some (.ref 0))) ⟨1, [(0, .dice)]⟩ = true)
    (hs : ∀ x', foldedSetIterable (.Call (.Name x p) [e0, e1] [] p2) X.env x' = pure x' := by intro _; rfl)
    (hdb : (x == ("__debug__" : Str)) = false := by decide) (hs1 : starEach (e0 :: [e1]) X.env = (false, eval e0 X.env) :: starEach [e1] X.env := by rfl) (hs2 : starEach (e1 :: []) X.env = (false, eval e1 X.env) :: starEach [] X.env := by rfl)
    (hpl : (backTo p2 (starEach [e1] X.env)).any (·.1) = false := by rfl) :
    PSs X [.For (.Name y p') (.Call (.Name x p) [e0, e1] [] p2) body [] pos, .Return (some (.Constant (.bool true) jj pb)) pos2] (tLaw X.K N m) := by
  refine PSs.imp (pss_cons (ps_for hp hc (pi_seq (pe_call G hr hgl hm hk hb .nil hx (pa_cons h0 (pa_cons h1 pa_nil hs2) hs1) hdb hs1 hpl)) hg hbody hs) (pss_one (ps_ret pe_bl))) fun Z σ H q => ?_
  obtain ⟨a, ns, e1, em, e2, e3, e4⟩ := q
  refine ⟨.ref a, e1, ?_⟩
  refine ⟨a, ns, n, rfl, hn, e2, e3, fun W1 r l v x1 o1 hr hd rv => ?_⟩
  have ev := relRef rv
  subst ev
  obtain ⟨vs, g1, g2, g3⟩ := o1.cell r _ hr
  refine .inl ⟨_, rfl, ⟨vs, SqL.of g1⟩, ?_⟩
  have fz : FzOk W1 ⟨l, some (r, l)⟩ := fun r' l' e => by cases e; exact hr
  obtain ⟨xf, of⟩ := Its.froze o1 fz
  have gq : (frzAt r l W1.η).get r = some (.frz l) := by
    unfold frzAt
    rw [Hd.get_set, if_pos rfl, hr]; rfl
  have wk : WalkD X.K N (Its.w ⟨l, some (r, l)⟩ W1) l (Itl X.K (W1.μ r)) := walkD_list (fun W1 x => x.fz r l _ gq g1) (g2.mono o1 xf)
  refine ⟨fun i m' σ2 H2 => m' = l.length - i ∧ i ≤ l.length ∧ σ2.length = m ∧ ∃ W2, W2.H = H2 ∧ Ext (Its.w ⟨l, some (r, l)⟩ W1) W2 ∧ W2.Ok X.K N.toNames ∧ dicesL (l.drop i) W2.η = true,
    ⟨l.length, by omega, Nat.zero_le _, em, Its.w ⟨l, some (r, l)⟩ W1, rfl, Ext.refl _, of, hd⟩, ?_⟩
  rintro i' m' σ2 H2 ⟨rfl, hi, hσ, W2, rfl, x2, o2, h2⟩
  by_cases hlt : i' < l.length
  · refine .inr ⟨wk.go W2 i' (x2.sty of) o2 hlt, fun σ3 H3 => σ3.length = m ∧ ∃ W3, W3.H = H3 ∧ Ext (Its.w ⟨l, some (r, l)⟩ W1) W3 ∧ W3.Ok X.K N.toNames ∧ dicesL (l.drop (i' + 1)) W3.η = true, fun σ3 H3 p3 => ⟨l.length - (i' + 1), by omega, rfl, hlt, p3⟩, fun yv H3 hy => ?_⟩
    obtain ⟨W3, d, e3', x3, o3, eH, eη, r3⟩ := wk.yld W2 i' yv H3 (x2.sty of) o2 hlt hy
    subst eH
    have ed : l.drop i' = d :: l.drop (i' + 1) := by
      rw [List.drop_eq_getElem_cons hlt]
      have : l[i'] = d := by
        have := List.getElem?_eq_getElem hlt
        rw [this] at e3'; exact Option.some.inj e3'
      rw [this]
    rw [ed, ← eη] at h2
    obtain ⟨g, rfl, hgd, h2⟩ := dicesL_cons h2
    have x03 := x2.trans of o2 x3
    have o' : Wl.Ok X.K N.toNames ⟨fun _ => W3.μ g, ⟨1, [(0, .dice)]⟩, W3.H⟩ := by
      have one : ∀ q (cc : Cell), (Hd.mk 1 [(0, .dice)]).get q = some cc → q = 0 ∧ cc = .dice := fun q cc e => by
        unfold Hd.get look at e
        cases ez : Nat.beq 0 q with
        | true => simp only [ez] at e; cases e; exact ⟨(Nat.eq_of_beq_eq_true ez).symm, rfl⟩
        | false => simp only [ez] at e; cases e
      refine ⟨fun q cc e => ?_, fun q cc e => ?_, fun q s cc d e1 e2 e => ?_, o3.tab⟩
      · rw [(one q cc e).1]; exact Nat.zero_lt_one
      · obtain ⟨rfl, rfl⟩ := one q cc e
        obtain ⟨a1, a2, a3, h⟩ := o3.cell g _ hgd
        exact ⟨a1, a2, a3, h⟩
      · rw [(one q cc e1).1, (one s d e2).1]
    have rv' : RelD ⟨fun _ => W3.μ g, ⟨1, [(0, .dice)]⟩, W3.H⟩ (.ref 0) yv := by
      have e9 := relRef r3
      rw [RelD]; exact ⟨Nat.zero_lt_one, e9⟩
    refine ⟨⟨fun _ => W3.μ g, ⟨1, [(0, .dice)]⟩, W3.H⟩, .ref 0, List.replicate m none, c, fun _ _ => false, rfl, o', rv', RelS.blank hσ, hgen, fun W4 σd4 σ4 x4 o4 s4 h4 => ?_, fun _ _ _ _ _ _ _ e => by cases e⟩
    have nxt : ∀ W5 σd5 σ5, Ext ⟨fun _ => W3.μ g, ⟨1, [(0, .dice)]⟩, W3.H⟩ W5 → W5.Ok X.K N.toNames → RelS W5 σd5 σ5 → Nat.beq σd5.length m = true → (σ5.length = m ∧ ∃ W3, W3.H = W5.H ∧ Ext (Its.w ⟨l, some (r, l)⟩ W1) W3 ∧ W3.Ok X.K N.toNames ∧ dicesL (l.drop (i' + 1)) W3.η = true) := fun W5 σd5 σ5 x5 o5 s5 hl5 => by
      obtain ⟨xa, oa⟩ := o3.aside hgd x5 o5
      exact ⟨s5.len.symm.trans (Nat.eq_of_beq_eq_true hl5), ⟨W3.μ, W3.η.del g, W5.H⟩, rfl, x03.trans of o3 xa, oa, h2⟩
    exact ⟨_, W4, σd4, o', Nat.le_refl 1, x4, rfl, o4, s4, h4, ⟨nxt, (fun _ _ _ _ _ _ e => by cases e), (fun _ _ _ _ _ _ e => by cases e), nxt, (fun _ _ _ _ _ _ _ e => by cases e)⟩⟩
  · have e : i' = l.length := by omega
    subst e
    exact .inl ⟨wk.stop W2 (x2.sty of) o2, e4 _⟩
end
end DL

/-! the rounds -/
namespace DL
open PySem PySem.Spec L2
/-- what is wanted of the rounds' end -/
def kR : KS := ⟨fun _ _ => false, fun d η => match d with
  | .ref r => match η.get r with
    | some (.lst l) => dicesL l (frzAt r l η)
    | _ => false
  | _ => false, fun _ _ => false, fun _ _ => false, fun _ _ => false⟩
def rndσ (m : Nat) : SD := none :: none :: some (.ref 0) :: List.replicate (m - 3) none
def RndT (m : Nat) (c : CS) : Prop := ∀ l : List Int, l.length ≤ 4 → c (rndσ m) ⟨1, [(0, .lst (l.map D.int))]⟩ kR = true
theorem cut_ints (ns : List Int) (m : Nat) : ∃ l : List Int, cutV (ns.map V.int) none (some (Int.ofNat m)) = l.map V.int ∧ l.length ≤ m := by
  unfold cutV
  rw [← List.map_drop, ← List.map_take]
  refine ⟨_, rfl, ?_⟩
  rw [List.length_take]
  have h1 : HT.sIx (ns.map V.int).length (ns.map V.int).length (some (Int.ofNat m)) = min m (ns.map V.int).length := HT.sIx_nat _ _ m
  rw [h1]
  omega
def tRnd (K : PySem.W.Frag) (N : Nm) (n : Nat) : TS := fun Z σ H => ∃ (a : Addr) (ns : List Int) (m : Nat) (t : St), σ = some (.ref a) :: some (.int (Int.ofNat m)) :: none :: t ∧ t.length = n - 3 ∧ m ≤ 4 ∧ SqL K H a (ns.map V.int) ∧ Tabs N.tabs H ∧ RndQ K N H Z.rt
section
variable {X : Cx} {N : Nm} {E : XK}
theorem rnd_body {n : Nat} {y : Str} {e0 e1 : Expr} {rest : List Stmt} {c : CS} {py p2 p3 p4 : Pos} (hN : X.N.Nodup) (hi : X.N[2]? = some y) (hl : L2.Loc X.env.scope y) (h0 : PE X e0 (tVar 0)) (h1 : PE X e1 (tVar 1)) (hr : JB X N E rest c) (hT : RndT n c)
    (hsw : swapsWith (.Subscript e0 (.Slice none (some e1) none p2) p3) (some (.Name y py)) p4.line X.env = pure false := by rfl) (hf : X.fn y = true ∨ X.env.scope.names.lookup y = some .local := by first | exact .inr rfl | assumption) :
    PSs X (.Assign [.Name y py] (.Subscript e0 (.Slice none (some e1) none p2) p3) p4 :: rest) (tRnd X.K N n) := by
  refine PSs.imp (pss_cons (ps_set hN hi hl (pe_slice sl_list h0 po_none (po_some h1)) hsw hf) hr) fun Z σ H q => ?_
  obtain ⟨a, ns, m, t, rfl, ht, hm, hS, hTb, hQ⟩ := q
  obtain ⟨l, el, ll⟩ := cut_ints ns m
  refine ⟨.ref a, rfl, .int (Int.ofNat m), rfl, Int.ofNat m, rfl, a, ns.map V.int, rfl, hS, fun p hp => ?_⟩
  rw [el]
  have o0 : Wl.Ok X.K N.toNames ⟨fun _ => 0, ⟨0, []⟩, H⟩ := ⟨(fun _ _ e => nomatch e), (fun _ _ e => nomatch e), (fun _ _ _ _ e => nomatch e), hTb⟩
  have hz : (l.map D.int).length ≤ sizeLine := by rw [List.length_map]; exact Nat.le_trans ll (Nat.le_trans hm (by decide))
  refine new_lst (Q := fun v H' => tS X.K N E c Z (some (.ref a) :: some (.int (Int.ofNat m)) :: some v :: t) H') o0 (fun W1 v x1 o1 e1 r1 => ?_) hp (ints_rel (ns := l)) hz
  refine ⟨W1, rndσ n, kR, rfl, o1, ?_, ?_, ⟨(fun _ _ _ _ _ _ e => by cases e), fun W2 d v2 x2 o2 r2 e2 => ?_, (fun _ _ _ _ _ _ e => by cases e), (fun _ _ _ _ _ _ e => by cases e), (fun _ _ _ _ _ _ _ e => by cases e)⟩⟩
  · refine ⟨by simp [rndσ, ht], fun i d e => ?_⟩
    match i with
    | 0 => simp [rndσ] at e
    | 1 => simp [rndσ] at e
    | 2 =>
      simp only [rndσ, List.getElem?_cons_succ, List.getElem?_cons_zero, Option.some.injEq] at e
      subst e
      exact ⟨v, rfl, r1⟩
    | i + 3 =>
      simp only [rndσ, List.getElem?_cons_succ] at e
      have := List.mem_of_getElem? e
      rw [List.mem_replicate] at this
      cases this.2
  · rw [e1]; exact hT l (Nat.le_trans ll hm)
  · unfold kR at e2
    dsimp only at e2
    cases d with
    | ref r =>
      dsimp only at e2
      cases eg : W2.η.get r with
      | none => rw [eg] at e2; cases e2
      | some cc =>
        cases cc with
        | lst l2 => rw [eg] at e2; exact hQ W2 r l2 v2 (x1.trans o0 o1 x2) o2 eg e2 r2
        | _ => rw [eg] at e2; cases e2
    | _ => cases e2
end
end DL

/-! the dice's own defs -/
namespace DL
open PySem PySem.Spec L2
def b_roll : CS := (sSeq (sIf (ctOr (cTst (cOp fEq (cOp fIx (cVar 0) (cC (.int 2))) (cC (.int 2)))) (ctAnd (cTst (cOp fEq (cOp fIx (cVar 0) (cC (.int 2))) (cC (.int 1)))) (cTst (cOp (fB2 igt) (cOp fIx (cVar 0) (cC (.int 0))) (cC (.int 0)))))) (sSeq (sAsg (cOp fMod (cFn (f1 gInt) (cCons (cOp fIx (cVar 0) (cC (.int 0))) cNil)) (cVar 1)) (gNm 2)) (sSeq (sAsg (cOp fDiv (cOp fIx (cVar 0) (cC (.int 0))) (cVar 1)) (gSb (cVar 0) (cC (.int 0)))) (sRet (cVar 2)))) sNil) (sSeq (sAsg (cC (.int 0)) (gSb (cVar 0) (cC (.int 2)))) (sSeq (sAsg (cOp fMod (cFn (f1 gInt) (cCons (cOp fAdd (cOp fAdd (cOp fMul (cOp fIx (cVar 0) (cC (.int 0))) (cC (.int 48271))) (cOp fMul (cOp fIx (cVar 0) (cC (.int 1))) (cC (.int 69621)))) (cC (.int 11))) cNil)) (cC (.int 2147483647))) (gSb (cVar 0) (cC (.int 0)))) (sSeq (sAsg (cOp fAdd (cOp fIx (cVar 0) (cC (.int 1))) (cC (.int 1))) (gSb (cVar 0) (cC (.int 1)))) (sRet (cOp fMod (cFn (f1 gInt) (cCons (cOp fAdd (cOp fDiv (cOp fIx (cVar 0) (cC (.int 0))) (cC (.int 7))) (cOp fIx (cVar 0) (cC (.int 0)))) cNil)) (cVar 1)))))))
def b_dice : CS := (sSeq (sIf (cTst (cChain (fB2 ilt) (fB2 ilt) (cOp fSub (cC (.int 0)) (cC (.int 10))) (cVar 0) (cC (.int 10)))) (sRet (cLst (cCons (cFn (f1 gAbs) (cCons (cVar 0) cNil)) (cCons (cC (.int 0)) (cCons (cC (.int 2)) cNil))))) sNil) (sRet (cLst (cCons (cVar 0) (cCons (cOp fAdd (cC (.int 1)) (cOp fMod (cFn (f1 gInt) (cCons (cVar 0) cNil)) (cC (.int 1009)))) (cCons (cFn (f1 gInt) (cCons (cOp (fB2 ige) (cVar 0) (cOp fPow (cC (.int 10)) (cC (.int 18)))) cNil)) cNil))))))
def b_rnd : CS := (sSeq (sIf (cTst (cOp fEq (cVar 2) (cLst cNil))) (sAsg (cLst (cCons (cC (.int 0)) cNil)) (gNm 2)) sNil) (sRet (cLc (ciSeq (cVar 2)) (gNm 3) ctYes (cCall fDice (cCons (cVar 3) cNil)) [3])))
theorem rnd_ok : RndT 4 b_rnd := by
  intro l hl
  match l, hl with
  | [], _ => rfl
  | [a], _ => rfl
  | [a, b], _ => rfl
  | [a, b, c], _ => rfl
  | [a, b, c, d], _ => rfl
  | _ :: _ :: _ :: _ :: _ :: _, h => exact absurd h (by simp)
theorem dice_ok : DiceOk (cDef 1 1 b_dice) := by
  intro c η kv kx h
  show b_dice [some (.int c)] η ⟨fun _ η1 => kv .non η1, kv, fun _ _ => false, fun _ _ => false, kx⟩ = true
  have pw : ∀ η' : Hd, fPow (.int 10) (.int 18) η' = some (.int (ipow 10 18), η') := fun _ => rfl
  have low : ∀ b : Bool, ige c (ipow 10 18) = b → b_dice [some (.int c)] η ⟨fun _ η1 => kv .non η1, kv, fun _ _ => false, fun _ _ => false, kx⟩ = true := fun b eb => by
    cases e1 : ilt (isub 0 10) c with
    | true =>
      cases e2 : ilt c 10 with
      | true =>
        simp [b_dice, sSeq, sIf, cTst, cChain, cOp, cC, cVar, fSub, fI2, fB2, e1, e2, sRet, cLst, cCons, cNil, cFn, f1, gAbs, line]
        exact h _ _ _
      | false =>
        cases b <;>
        · simp [b_dice, sSeq, sIf, sNil, cTst, cChain, cOp, cC, cVar, fSub, fI2, fB2, e1, e2, sRet, cLst, cCons, cNil, cFn, f1, gInt, line, fAdd, fOr, fMod, fI2c, modOk, pw, eb]
          exact h _ _ _
    | false =>
      cases b <;>
      · simp [b_dice, sSeq, sIf, sNil, cTst, cChain, cOp, cC, cVar, fSub, fI2, fB2, e1, sRet, cLst, cCons, cNil, cFn, f1, gInt, line, fAdd, fOr, fMod, fI2c, modOk, pw, eb]
        exact h _ _ _
  exact low _ rfl
theorem roll_ok : RollOk (cDef 2 3 b_roll) := by
  intro g m p q r η kv kx h0 h1 hg hk
  obtain ⟨n, rfl⟩ : ∃ n : Nat, m = Int.ofNat (n + 1) := ⟨m.toNat - 1, by show m = ((m.toNat - 1 + 1 : Nat) : Int); omega⟩
  have hn : n ≤ 1000000000 := by have : ((n + 1 : Nat) : Int) ≤ 1000000001 := h1; omega
  have gs : ∀ (η' : Hd) (l l' : List D), η'.get g = some (.lst l) → (η'.set g (.lst l')).get g = some (.lst l') := fun η' l l' e => by rw [Hd.get_set, if_pos rfl, e]; rfl
  show b_roll [some (.ref g), some (.int (Int.ofNat (n + 1))), none] η ⟨fun _ η1 => kv .non η1, kv, fun _ _ => false, fun _ _ => false, kx⟩ = true
  have ix : ∀ (η' : Hd) (a b c : Int), η'.get g = some (.lst (l3 a b c)) → fIx (.ref g) (.int 0) η' = some (.int a, η') ∧ fIx (.ref g) (.int 1) η' = some (.int b, η') ∧ fIx (.ref g) (.int 2) η' = some (.int c, η') := fun η' a b c e => by
    refine ⟨?_, ?_, ?_⟩ <;> (simp only [fIx, e]; rfl)
  have st : ∀ (η' : Hd) (a b c v : Int), η'.get g = some (.lst (l3 a b c)) → fSet (.ref g) (.int 0) (.int v) η' = some (η'.set g (.lst (l3 v b c))) ∧ fSet (.ref g) (.int 1) (.int v) η' = some (η'.set g (.lst (l3 a v c))) ∧ fSet (.ref g) (.int 2) (.int v) η' = some (η'.set g (.lst (l3 a b v))) := fun η' a b c v e => by
    refine ⟨?_, ?_, ?_⟩ <;> (simp only [fSet, e]; rfl)
  have eqi : ∀ (a b : Int) (η' : Hd), fEq (.int a) (.int b) η' = some (.bl (ieq a b), η') := fun a b η' => rfl
  have dv : divOk 0 (Int.ofNat (n + 1)) = true := by
    show Nat.ble n 1000000000 = true
    exact Nat.ble_eq_true_of_le hn
  have dv' : ∀ a, divOk a (Int.ofNat (n + 1)) = true := fun a => dv
  have md' : ∀ a, modOk a (Int.ofNat (n + 1)) = true := fun a => rfl
  have lo : ∀ a : Int, 0 ≤ imod a (Int.ofNat (n + 1)) ∧ imod a (Int.ofNat (n + 1)) < Int.ofNat (n + 1) := fun a => ⟨Int.emod_nonneg _ (by show ((n + 1 : Nat) : Int) ≠ 0; omega), Int.emod_lt_of_pos _ (by show (0 : Int) < ((n + 1 : Nat) : Int); omega)⟩
  have i0 := (ix η p q r hg).1
  have i2 := (ix η p q r hg).2.2
  have mul : ∀ (a : Int) (η' : Hd), fMul (.int a) (.int 48271) η' = some (.int (imul a 48271), η') ∧ fMul (.int a) (.int 69621) η' = some (.int (imul a 69621), η') := fun a η' => by
    have : mulOk a 48271 = true ∧ mulOk a 69621 = true := by unfold mulOk; exact ⟨by rw [Bool.or_eq_true]; exact .inr rfl, by rw [Bool.or_eq_true]; exact .inr rfl⟩
    simp [fMul, fOr, fI2c, this.1, this.2]
  have m1 := fun a η' => (mul a η').1
  have m2 := fun a η' => (mul a η').2
  have md1 : ∀ (a : Int) (η' : Hd), fMod (.int a) (.int 2147483647) η' = some (.int (imod a 2147483647), η') := fun _ _ => rfl
  have md2 : ∀ (a : Int) (η' : Hd), fMod (.int a) (.int (Int.ofNat (n + 1))) η' = some (.int (imod a (Int.ofNat (n + 1))), η') := fun _ _ => rfl
  have dv1 : ∀ (a : Int) (η' : Hd), fDiv (.int a) (.int (Int.ofNat (n + 1))) η' = some (.int (idiv a (Int.ofNat (n + 1))), η') := fun a η' => by simp only [fDiv, fI2c, dv']
  have dv7 : ∀ (a : Int) (η' : Hd), fDiv (.int a) (.int 7) η' = some (.int (idiv a 7), η') := fun _ _ => rfl
  have ad : ∀ (a b : Int) (η' : Hd), fAdd (.int a) (.int b) η' = some (.int (iadd a b), η') := fun _ _ _ => rfl
  have gt : ∀ (a b : Int) (η' : Hd), fB2 igt (.int a) (.int b) η' = some (.bl (igt a b), η') := fun _ _ _ => rfl
  have s0 := fun v => (st η p q r v hg).1
  have s2 := (st η p q r 0 hg).2.2
  have hS := fun a b c => gs η _ (l3 a b c) hg
  have j0 := fun a b c => (ix _ a b c (hS a b c)).1
  have j1 := fun a b c => (ix _ a b c (hS a b c)).2.1
  have t0 : ∀ a b c v, fSet (.ref g) (.int 0) (.int v) (η.set g (.lst (l3 a b c))) = some (η.set g (.lst (l3 v b c))) := fun a b c v => by rw [(st _ a b c v (hS a b c)).1, Hd.set_set]
  have t1 : ∀ a b c v, fSet (.ref g) (.int 1) (.int v) (η.set g (.lst (l3 a b c))) = some (η.set g (.lst (l3 a v c))) := fun a b c v => by rw [(st _ a b c v (hS a b c)).2.1, Hd.set_set]
  have fin : ∀ a : Int, ∀ l : List D, (∃ x y z, l = l3 x y z) → kv (.int (imod a (Int.ofNat (n + 1)))) (η.set g (.lst l)) = true := fun a l ⟨x, y, z, e⟩ => by
    rw [e]; exact hk _ _ _ _ (lo a).1 (lo a).2
  have three : ∀ (x y z : Int), ∃ x' y' z', l3 x y z = l3 x' y' z' := fun x y z => ⟨x, y, z, rfl⟩
  generalize hM : Int.ofNat (n + 1) = M at *
  have long : (match ieq r 2 with
      | true => false
      | false => match ieq r 1 with
        | true => !(igt p 0)
        | false => true) = true → b_roll [some (.ref g), some (.int M), none] η ⟨fun _ η1 => kv .non η1, kv, fun _ _ => false, fun _ _ => false, kx⟩ = true := fun hh => by
    cases e2 : ieq r 2 with
    | true => rw [e2] at hh; cases hh
    | false =>
      rw [e2] at hh
      cases e1 : ieq r 1 with
      | false =>
        simp [b_roll, sSeq, sIf, sNil, ctOr, ctAnd, cTst, cOp, cC, cVar, sRet, sAsg, gNm, gSb, cCons, cNil, cFn, f1, gInt, i0, i2, eqi, e1, e2, s2, j0, j1, t0, t1, m1, m2, ad, md1, dv7, md2, fin, three]
      | true =>
        rw [e1] at hh
        have e0 : igt p 0 = false := by simpa using hh
        simp [b_roll, sSeq, sIf, sNil, ctOr, ctAnd, cTst, cOp, cC, cVar, sRet, sAsg, gNm, gSb, cCons, cNil, cFn, f1, gInt, i0, i2, eqi, e0, e1, e2, gt, s2, j0, j1, t0, t1, m1, m2, ad, md1, dv7, md2, fin, three]
  cases e2 : ieq r 2 with
  | true => simp [b_roll, sSeq, sIf, sNil, ctOr, ctAnd, cTst, cOp, cC, cVar, sRet, sAsg, gNm, gSb, cCons, cNil, cFn, f1, gInt, i0, i2, eqi, e2, md2, dv1, s0, fin, three]
  | false =>
    cases e1 : ieq r 1 with
    | false => exact long (by rw [e2, e1])
    | true =>
      cases e0 : igt p 0 with
      | false => exact long (by rw [e2, e1, e0]; rfl)
      | true => simp [b_roll, sSeq, sIf, sNil, ctOr, ctAnd, cTst, cOp, cC, cVar, sRet, sAsg, gNm, gSb, cCons, cNil, cFn, f1, gInt, i0, i2, eqi, e0, e1, e2, gt, md2, dv1, s0, fin, three]
end DL

/-! the ends of a law -/
namespace DL
open PySem PySem.Spec L2
section
variable {X : Cx} {N : Nm} {E : XK}
end
def spLaw (K : PySem.W.Frag) (N : Nm) : Sp := fun vs H Q _ => ∃ (a : Addr) (ns : List Int), vs = [.ref a] ∧ SqL K H a (ns.map V.int) ∧ Tabs N.tabs H ∧ ∀ H', Q (.bl true) H'
theorem tLaw_of {K : PySem.W.Frag} {N : Nm} {Ns : List Str} {vs : List V} {H : Hp} {Q : VK} {E : XK} {nx : St → Hp → Prop} (h : spLaw K N vs H Q E) (hl : 1 ≤ Ns.length) : tLaw K N Ns.length { nx := nx, rt := Q } (L2.start Ns vs) H := by
  obtain ⟨a, ns, rfl, h1, h2, h3⟩ := h
  exact ⟨a, ns, rfl, by simp [L2.start]; omega, h1, h2, h3⟩
theorem tRnd_of {K : PySem.W.Frag} {N : Nm} {Ns : List Str} {vs : List V} {H : Hp} {Q : VK} {E : XK} {nx : St → Hp → Prop} (h : spRnd K N vs H Q E) (hl : 3 ≤ Ns.length) : tRnd K N Ns.length { nx := nx, rt := Q } (L2.start Ns vs) H := by
  obtain ⟨a, ns, m, rfl, h1, h2, h3, h4⟩ := h
  match Ns, hl with
  | _ :: _ :: _ :: t, _ => exact ⟨a, ns, m, List.replicate t.length none, by simp [L2.start, List.replicate_succ], by simp, h1, h2, h3, h4⟩
end DL

/-! generator expressions within sum, any, all -/
namespace DL
open PySem PySem.Spec L2
section
variable {X : Cx} {pins : List (Addr × Obj)} {σ : L2.St} {H : Hp} {s : Shared}
end
end DL

/-! the body of a generator expression, from yield to yield -/
namespace DL
open PySem PySem.Spec L2
section
variable {Y : Cx} {Γ : Type} {γ : Heap → Γ}
/-- what is said of each yield: as, the consumer's objects; W, what is wanted ahead of each turn; Yd, what is known of a value that is handed out -/
def gY (Y : Cx) (γ : Heap → Γ) (n : Nat) (as fp : List Addr) (σw : L2.St) (tn : Nat → Heap → Prop) (W : Nat → Γ → Hp → Prop) (Yd : Nat → Γ → V → Hp → Prop) : Protocol := fun m s₀ v s kap =>
  ∃ i y H, i < n ∧ n - (i + 1) + 1 ≤ m ∧ RelV y v ∧ Inv Y (pinsAt as s₀.heap) σw H s ∧ tn (i + 1) s.heap ∧ (∀ b ∈ fp, H b = none) ∧ Yd i (γ s₀.heap) y H ∧ ∀ s', Inv Y (pinsAt as s'.heap) σw H s' → tn (i + 1) s'.heap → W (i + 1) (γ s'.heap) H → kap (.send .none) s'
def gR (Y : Cx) (γ : Heap → Γ) (as : List Addr) (σw : L2.St) (End : Γ → Hp → Prop) : Nat → Shared → Shared → Prop := fun _ s₀ s₁ => ∃ H, Inv Y (pinsAt as s₀.heap) σw H s₁ ∧ End (γ s₀.heap) H
structure GStep {Γ : Type} (n : Nat) (J : It) (g : TG) (tt : TT) (te : TE) (vs : List Nat) (σw : L2.St) (W : Nat → Γ → Hp → Prop) (Yd : Nat → Γ → V → Hp → Prop) (End : Γ → Hp → Prop) : Prop where
  go : ∀ h i H, i < n → W i h H → J.go i H ∧ ∀ x H', J.yld i H x H' → g x σw H' fun σ2 H2 => wipe σ2 vs = σw ∧ tt σ2 H2 fun b H3 => if b = true then te σ2 H3 fun y H4 => Yd i h y H4 else W (i + 1) h H3
  stop : ∀ h H, W n h H → J.stop n H ∧ End h H
end
end DL

/-! the consumer's side of a generator expression -/
namespace DL
open PySem PySem.Spec L2
section
variable {Γ : Type} {γ : Heap → Γ} {Y : Cx} {A : Around} {as fp : List Addr} {n : Nat} {tn : Nat → Heap → Prop} {σw : L2.St} {W : Nat → Γ → Hp → Prop} {Yd : Nat → Γ → V → Hp → Prop} {End : Γ → Hp → Prop}
/-- woken in any state that is as it was, it goes on -/
def Rest (γ : Heap → Γ) (Y : Cx) (A : Around) (n : Nat) (as fp : List Addr) (σw : L2.St) (tn : Nat → Heap → Prop) (W : Nat → Γ → Hp → Prop) (Yd : Nat → Γ → V → Hp → Prop) (End : Γ → Hp → Prop) (i : Nat) (H : Hp) (gs : GenState) (m : Nat) : Prop :=
  ∀ s', Inv Y (pinsAt as s'.heap) σw H s' → tn i s'.heap → W i (γ s'.heap) H → gs.Goes (model Y.prog Y.w) A.in1 (fun n s₀ r s₁ => r = .ok .next ∧ gR Y γ as σw End n s₀ s₁) (gY Y γ n as fp σw tn W Yd) m (.send .none) s'
/-- the generator a, number gi, at rest ahead of turn i -/
structure GAt (γ : Heap → Γ) (Y : Cx) (A : Around) (n : Nat) (as fp : List Addr) (σw : L2.St) (tn : Nat → Heap → Prop) (W : Nat → Γ → Hp → Prop) (Yd : Nat → Γ → V → Hp → Prop) (End : Γ → Hp → Prop) (a : Addr) (gi i m : Nat) (H : Hp) (s : Shared) : Prop where
  isg : s.heap.IsGen a gi
  inv : Inv Y (pinsAt as s.heap) σw H s
  tni : tn i s.heap
  fpn : ∀ b ∈ fp, H b = none
  alive : ∀ b ∈ as, ∃ o, s.heap.get? b = some o
  gen : ∃ gs, s.gens[gi]? = some gs ∧ n - i + 1 ≤ m ∧ Rest γ Y A n as fp σw tn W Yd End i H gs m
theorem Inv.gens {pins : List (Addr × Obj)} {σ : L2.St} {H : Hp} {s : Shared} {g' : Array GenState} {h' : Heap} {t' : Nat} (I : Inv Y pins σ H s) (hb : PyProof.Rows.AllBare g') (k : ∀ b o, s.heap.get? b = some o → h'.get? b = some o) : Inv Y pins σ H { s with heap := h', gens := g', toks := t' } := by
  refine I.step (g' := g') (d' := s.drawn) (ch := []) (fun b hb => absurd hb (by simp)) (fun b o _ _ _ e _ => k b o e) (fun b o _ _ _ e _ => ⟨o.slots, k b o e⟩) (fun _ _ _ _ q => q) (fun b o _ e => ⟨o, k b o e⟩) (fun _ _ q => q) (fun _ _ _ q => q) (fun b ps q => ⟨#[], by rw [q]; simp⟩) (fun m hm => ?_) (fun b u q => ?_) hb
  · exact hm.keeps k
  · exact (I.hok b u q).stay (fun c v _ y => k c v y) (fun _ y => y) fun _ _ y => y
end
end DL

/-! any, all over a generator expression -/
namespace DL
open PySem PySem.Spec L2
section
variable {Γ : Type} {γ : Heap → Γ} {Y : Cx} {A : Around} {as fp : List Addr} {n : Nat} {tn : Nat → Heap → Prop} {σw : L2.St} {W : Nat → Γ → Hp → Prop} {Yd : Nat → Γ → V → Hp → Prop} {End : Γ → Hp → Prop} {a : Addr} {gi : Nat} {R : Result → Shared → Prop} {Fin : Bool → Hp → Prop}
end
theorem GAt.turned {Γ : Type} {γ : Heap → Γ} {Y : Cx} {A : Around} {as fp : List Addr} {n : Nat} {tn : Nat → Heap → Prop} {σw : L2.St} {W : Nat → Γ → Hp → Prop} {Yd : Nat → Γ → V → Hp → Prop} {End : Γ → Hp → Prop} {a S : Addr} {gi i m : Nat} {H : Hp} {s : Shared} {h' : Heap} {t' : Nat} {o' : Obj}
    (G : GAt γ Y A n as fp σw tn W Yd End a gi i m H s) (hS : S ∈ as) (hSa : S ≠ a) (hSf : S ∉ fp) (hst : ∀ b ∈ as, ∃ H0, FpOk Y [] H0 b) (tk : ∀ i h h', tn i h → (∀ b ∈ fp, ∀ o, h.get? b = some o → h'.get? b = some o) → tn i h') (hs : h'.get? S = some o') (hd : ∀ v, o'.data ≠ .cell v)
    (k : ∀ b o, b ≠ S → s.heap.get? b = some o → h'.get? b = some o) : GAt γ Y A n as fp σw tn W Yd End a gi i m H { s with heap := h', toks := t' } := by
  have hn : ∀ b ∈ as, H b = none := fun b hb => by
    obtain ⟨o, e⟩ := G.alive b hb
    exact (G.inv.pin (b, o) (List.mem_append_right _ (mem_pinsAt hb e))).2.1
  have I0 : Inv Y [] σw H s := G.inv.pins_of fun p hp => nomatch hp
  obtain ⟨H0, _, f1, f2, f3, f4, f5⟩ := hst S hS
  have I1 : Inv Y [] σw H { s with heap := h', toks := t' } := I0.turned (t' := t') k (hn S hS) f1 f3 f4 f5
  obtain ⟨o, nm, qn, ho, r⟩ := G.isg
  refine ⟨⟨o, nm, qn, k a o (Ne.symm hSa) ho, r⟩, I1.pins_of fun p hp => ?_, tk _ _ _ G.tni fun b hb o e => k b o (fun z => hSf (by rw [← z]; exact hb)) e, G.fpn, fun b hb => ?_, G.gen⟩
  · obtain ⟨h1, h2⟩ := of_pinsAt hp
    obtain ⟨H0, _, f1, f2, _⟩ := hst p.1 h1
    refine ⟨h2, hn _ h1, f1, f2, ?_⟩
    by_cases z : p.1 = S
    · rw [z] at h2
      have h2 : h'.get? S = some p.2 := h2
      rw [hs] at h2; cases h2; exact hd
    · obtain ⟨o, e⟩ := G.alive p.1 h1
      have h2 : h'.get? p.1 = some p.2 := h2
      rw [k _ o z e] at h2
      have h3 : o = p.2 := Option.some.inj h2
      rw [← h3]
      exact (G.inv.pin (p.1, o) (List.mem_append_right _ (mem_pinsAt h1 e))).2.2.2.2
  · by_cases z : b = S
    · exact ⟨o', by rw [z]; exact hs⟩
    · obtain ⟨o, e⟩ := G.alive b hb
      exact ⟨o, k b o z e⟩
section
variable {Y : Cx} {A : Around} {as fp : List Addr} {n : Nat} {tn : Nat → Heap → Prop} {σw : L2.St} {W : Nat → Int → Hp → Prop} {Yd : Nat → Int → V → Hp → Prop} {End : Int → Hp → Prop} {a S : Addr} {gi : Nat} {R : Result → Shared → Prop} {Fin : Int → Hp → Prop}
end
end DL

/-! the making of a generator expression -/
namespace DL
open PySem PySem.Spec L2
section
variable {X : Cx} {pins : List (Addr × Obj)} {σ : L2.St} {H : Hp} {s : Shared}
/-- the generator a, number gi, has been made in the state s5; Y its body's context -/
structure Mk (X : Cx) (pins : List (Addr × Obj)) (σ : L2.St) (g : TG) (tt : TT) (te : TE) (vs : List Nat) (Y : Cx) (J : It) (fp : List Addr) (tn : Nat → Heap → Prop) (a : Addr) (gi : Nat) (H2 : Hp) (s5 : Shared) : Prop where
  inv : Inv Y [] (wipe σ vs) H2 s5
  isg : s5.heap.IsGen a gi
  tn0 : tn 0 s5.heap
  keep : ∀ i h h', tn i h → (∀ b ∈ fp, ∀ o, h.get? b = some o → h'.get? b = some o) → tn i h'
  fpn : ∀ b ∈ fp, H2 b = none
  fpl : ∀ b ∈ fp, b < a
  fpa : FpOk Y [] H2 a
  sz : s5.heap.objs.size = a + 1
  obj : ∃ o, s5.heap.get? a = some o ∧ ∀ v, o.data ≠ .cell v
  gst : ∃ gs, s5.gens[gi]? = some gs ∧ ∀ (Γ : Type) (γ : Heap → Γ) (n : Nat) (as : List Addr) (W : Nat → Γ → Hp → Prop) (Yd : Nat → Γ → V → Hp → Prop) (End : Γ → Hp → Prop), (∀ b ∈ fp, b ∉ as) → GStep n J g tt te vs (wipe σ vs) W Yd End → Rest γ Y X.A.in1 n as fp (wipe σ vs) tn W Yd End 0 H2 gs (n + 1)
  prog : Y.prog = X.prog
  w : Y.w = X.w
  back : ∀ pins' σ' H' s', Inv Y pins' σ' H' s' → Inv X pins σ H' s'
end
end DL

/-! any, all, sum of a generator expression -/
namespace DL
open PySem PySem.Spec L2
section
variable {X : Cx} {N : Nm} {E : XK}
variable {T : Tbl} {k : Nat} {elt tg iter : Expr} {ifs : List Expr} {scope : Scope} {own : List (Str × Nat)} {wi : TI} {g : TG} {tt : TT} {te : TE}
theorem Mk.at {pins : List (Addr × Obj)} {σ : L2.St} {vs : List Nat} {Y : Cx} {J : It} {fp : List Addr} {tn : Nat → Heap → Prop} {a : Addr} {gi : Nat} {H2 : Hp} {s5 : Shared} (M : Mk X pins σ g tt te vs Y J fp tn a gi H2 s5)
    {Γ : Type} {γ : Heap → Γ} {n : Nat} {W : Nat → Γ → Hp → Prop} {Yd : Nat → Γ → V → Hp → Prop} {End : Γ → Hp → Prop} (G : GStep n J g tt te vs (wipe σ vs) W Yd End) : GAt γ Y X.A.in1 n [a] fp (wipe σ vs) tn W Yd End a gi 0 (n + 1) H2 s5 := by
  obtain ⟨gs, hgs, rest⟩ := M.gst
  have ia : Inv Y ([] ++ pinsAt [a] s5.heap) (wipe σ vs) H2 s5 := M.inv.pinned (fun b hb => by rw [List.mem_singleton.mp hb]; exact M.fpa) fun b hb => by rw [List.mem_singleton.mp hb]; exact M.obj
  refine ⟨M.isg, ia, M.tn0, M.fpn, fun b hb => ?_, gs, hgs, by omega, rest Γ γ n [a] W Yd End (fun b hb z => ?_) G⟩
  · rw [List.mem_singleton.mp hb]; obtain ⟨o, e, _⟩ := M.obj; exact ⟨o, e⟩
  · have := M.fpl b hb
    rw [List.mem_singleton.mp z] at this
    exact Nat.lt_irrefl _ this
end
end DL

/-! any, all, sum: the readings -/
namespace DL
open PySem PySem.Spec L2
section
variable {X : Cx} {N : Nm} {E : XK}
variable {E' : XK} {k : Nat} {elt tg iter : Expr} {ifs : List Expr} {scope : Scope} {own : List (Str × Nat)} {ci : CI} {g : CG} {t : CT} {e : CE} {p pos gpos : Pos}
end
end DL

/-! sum, min of lists, count, three names at once, o[i] op= e -/
namespace DL
open PySem PySem.Spec L2
section
variable {X : Cx} {N : Nm} {E : XK}
/-! ### sum -/
/-! ### min of a list of rows of ints -/
section
variable {prog : Program} {w : World} {A : Around} {R : Result → Shared → Prop} {I : Addr} {fp wr : List Addr} {G : Array GenState → Array GenState → Prop} {n : Nat} {P : Nat → Value → Prop} {St : Nat → Shared → Prop}
end
end
end DL

/-! count, three names at once, o[i] op= e, tuple(reversed(..)) -/
namespace DL
open PySem PySem.Spec L2
section
variable {X : Cx} {N : Nm} {E : XK}
/-- three names at once -/
theorem js_par3 {i j l : Nat} {x y z : Str} {a b c : Expr} {ca : CA} {px py pz pt pos : Pos} {kt k2 pt2} (hc : X.calm = true) (hN : X.N.Nodup) (hi : X.N[i]? = some x) (hj : X.N[j]? = some y) (hl : X.N[l]? = some z) (hij : i ≠ j) (hil : i ≠ l) (hjl : j ≠ l)
    (hx : X.env.scope.names.lookup x = some .local) (hy : X.env.scope.names.lookup y = some .local) (hz : X.env.scope.names.lookup z = some .local) (ha : JA X N E [a, b, c] ca)
    (hw : swappedStores [.Tuple [.Name x px, .Name y py, .Name z pz] kt pt] (.Tuple [a, b, c] k2 pt2) X.env = pure (some [x, y, z]))
    (hs : swapsWithSole [.Tuple [.Name x px, .Name y py, .Name z pz] kt pt] (.Tuple [a, b, c] k2 pt2) pos.line X.env = pure false := by rfl) :
    JS X N E (.Assign [.Tuple [.Name x px, .Name y py, .Name z pz] kt pt] (.Tuple [a, b, c] k2 pt2) pos) (sPar3 i j l ca) :=
  PS.imp (ps_par3 hc hN hi hj hl hij hil hjl hx hy hz ha hw hs) fun Z σ H q => by
    obtain ⟨W, σd, k, rfl, o, s, h, hk⟩ := q
    refine tAr.bind o s hk.xc h fun W1 ds vs x1 o1 r1 s1 hx1 h1 => ?_
    match ds, r1, h1 with
    | [d, e, f], r1, h1 =>
      obtain ⟨v, u, w, rfl, ra, rb, rc⟩ := rel3 r1
      exact ⟨v, u, w, rfl, hk.nx W1 _ _ x1 o1 (((s1.set i ra).set j rb).set l rc) h1⟩
    | [], _, h1 => cases h1
    | [_], _, h1 => cases h1
    | [_, _], _, h1 => cases h1
    | _ :: _ :: _ :: _ :: _, _, h1 => cases h1
end
end DL

/-! tuple(reversed(t)), t a tuple -/
namespace DL
open PySem PySem.Spec PyProof.Rows L2 RT
section
variable {prog : Program} {w : World} {A : Around} {E : Value → Shared → Prop} {s : Shared}
end
section
variable {X : Cx} {N : Nm} {E : XK}
end
end DL

/-! the end: the tables of all top defs are empty -/
namespace DL
open PySem PySem.Spec PyProof.Rows L2 LamX
section
variable {N : Nm} {P : Program} {w : World} {K : PySem.W.Frag} {mg : Str → Option Value} {base : Heap}
end
section
variable {X : Cx} {N : Nm} {E : XK}
end
end DL

/-! a for whose walk is cut into pieces -/
namespace DL
open PySem PySem.Spec L2
/-- a place within a walk: what is frozen meanwhile, what is left to be walked, the state -/
structure Pc where
  nb : Nat
  fz : Option (Nat × List D)
  rest : List D
  st : SD × Hd
def sameFz : Option (Nat × List D) → Option (Nat × List D) → Bool
  | none, none => true
  | some (a, l), some (b, m) => match Nat.beq a b with
    | true => eqL (same 8) l m
    | false => false
  | _, _ => false
/-- c stands here -/
def Pc.here (c : Pc) (fz : Option (Nat × List D)) (nb : Nat) (ds : List D) (σ : SD) (η : Hd) : Bool := match Nat.beq nb c.nb, Nat.ble nb c.st.2.nx with
  | true, true => match eqL (same 8) ds c.rest with
    | true => match sameFz fz c.fz with
      | true => leS c.st σ η
      | false => false
    | false => false
  | _, _ => false
section
variable {X : Cx} {N : Nm} {E : XK} {m : Nat}
end
end DL

/-! instances: attributes, methods, making -/
namespace DL
open PySem PySem.Spec L2
def clsS : Stmt → Nat → Stmt
  | .ClassDef _ _ _ body _ _ _ _ _ _ _, j => body.getD j (.Pass ⟨0, 0, 0, 0⟩)
  | s, _ => s
def fget (k : Nat) : List (Nat × D) → Option D
  | [] => none
  | p :: t => match Nat.beq p.1 k with
    | true => some p.2
    | false => fget k t
def fput (k : Nat) (d : D) : List (Nat × D) → List (Nat × D)
  | [] => [(k, d)]
  | p :: t => match Nat.beq p.1 k with
    | true => (p.1, d) :: t
    | false => p :: fput k d t
theorem fld_inj {FL : List Str} (hn : FL.Nodup) (hq : ("?" : Str) ∉ FL) {k : Nat} (hk : k < FL.length) : ∀ j, FL.getD j "?" = FL.getD k "?" → j = k := by
  intro j e
  have ek : FL.getD k "?" = FL[k] := by rw [List.getD, List.getElem?_eq_getElem hk]; rfl
  by_cases hj : j < FL.length
  · have ej : FL.getD j "?" = FL[j] := by rw [List.getD, List.getElem?_eq_getElem hj]; rfl
    rw [ej, ek] at e
    exact (List.getElem_inj hn).mp e
  · have ej : FL.getD j "?" = "?" := by rw [List.getD, List.getElem?_eq_none (by omega)]; rfl
    rw [ej, ek] at e
    exact absurd (by rw [e]; exact List.getElem_mem hk) hq
theorem fld_no {FL : List Str} {m : Str} (h : m ∉ FL) (hq : m ≠ "?") : ∀ j, FL.getD j "?" ≠ m := by
  intro j e
  by_cases hj : j < FL.length
  · have ej : FL.getD j "?" = FL[j] := by rw [List.getD, List.getElem?_eq_getElem hj]; rfl
    rw [ej] at e
    exact h (by rw [← e]; exact List.getElem_mem hj)
  · have ej : FL.getD j "?" = "?" := by rw [List.getD, List.getElem?_eq_none (by omega)]; rfl
    rw [ej] at e
    exact hq e.symm
section
variable {W : Wl} {N : Names}
theorem RelFs.get {f : Str} {k : Nat} (hf : N.fld k = f) : ∀ {fs : List (Nat × D)} {gs : List (Str × V)} {d : D}, (∀ j, N.fld j = f → j = k) → RelFs W N fs gs → fget k fs = some d → ∃ v, gs.lookup f = some v ∧ RelD W d v
  | [], gs, d, hi, h, e => by cases e
  | (j, x) :: fs, gs, d, hi, h, e => by
    rw [RelFs] at h
    obtain ⟨v, gs', rfl, h1, h2⟩ := h
    unfold fget at e
    cases q : Nat.beq j k with
    | true =>
      rw [q] at e
      cases e
      have : j = k := Nat.eq_of_beq_eq_true q
      subst this
      exact ⟨v, by rw [hf]; simp [List.lookup], h1⟩
    | false =>
      rw [q] at e
      obtain ⟨v', l, r⟩ := RelFs.get hf hi h2 e
      refine ⟨v', ?_, r⟩
      have ne : ¬ f = N.fld j := fun z => by
        have := hi j z.symm
        rw [this, Nat.beq_refl] at q; cases q
      have ne' : (f == N.fld j) = false := by simpa using ne
      simp only [List.lookup, ne']
      exact l
theorem RelFs.no {f : Str} (hf : ∀ j, N.fld j ≠ f) : ∀ {fs : List (Nat × D)} {gs : List (Str × V)}, RelFs W N fs gs → gs.lookup f = none
  | [], gs, h => by rw [RelFs] at h; subst h; rfl
  | (j, x) :: fs, gs, h => by
    rw [RelFs] at h
    obtain ⟨v, gs', rfl, h1, h2⟩ := h
    have ne' : (f == N.fld j) = false := by simpa using fun z => hf j z.symm
    simp only [List.lookup, ne']
    exact RelFs.no hf h2
theorem RelFs.put {f : Str} {k : Nat} (hf : N.fld k = f) (hi : ∀ j, N.fld j = f → j = k) {d : D} {v : V} (r : RelD W d v) : ∀ {fs : List (Nat × D)} {gs : List (Str × V)}, RelFs W N fs gs → RelFs W N (fput k d fs) (putF f v gs)
  | [], gs, h => by
    rw [RelFs] at h; subst h
    show RelFs W N [(k, d)] [(f, v)]
    rw [RelFs]; exact ⟨v, [], by rw [hf], r, by rw [RelFs]⟩
  | (j, x) :: fs, gs, h => by
    rw [RelFs] at h
    obtain ⟨u, gs', rfl, h1, h2⟩ := h
    unfold fput
    cases q : Nat.beq j k with
    | true =>
      have : j = k := Nat.eq_of_beq_eq_true q
      subst this
      show RelFs W N ((j, d) :: fs) (if N.fld j = f then (N.fld j, v) :: gs' else _)
      rw [if_pos hf, RelFs]
      exact ⟨v, gs', rfl, r, h2⟩
    | false =>
      have ne : ¬ N.fld j = f := fun z => by
        have := hi j z
        rw [this, Nat.beq_refl] at q; cases q
      show RelFs W N ((j, x) :: fput k d fs) (if N.fld j = f then _ else (N.fld j, u) :: putF f v gs')
      rw [if_neg ne, RelFs]
      exact ⟨u, _, rfl, h1, RelFs.put hf hi r h2⟩
theorem RelFs.len : ∀ {fs : List (Nat × D)} {gs : List (Str × V)}, RelFs W N fs gs → fs.length = gs.length
  | [], gs, h => by rw [RelFs] at h; subst h; rfl
  | (j, x) :: fs, gs, h => by
    rw [RelFs] at h
    obtain ⟨u, gs', rfl, h1, h2⟩ := h
    simp [RelFs.len h2]
end
/-- the fields of an instance of class c -/
def insAt (c : Nat) (η : Hd) : D → Option (Nat × List (Nat × D))
  | .ref r => match η.get r with
    | some (.ins c' fs) => match Nat.beq c' c with
      | true => some (r, fs)
      | false => none
    | _ => none
  | _ => none
section
variable {X : Cx} {N : Nm} {E : XK}
end
end DL

/-! dicts: in, len, sorted, displays; names of the top -/
namespace DL
open PySem PySem.Spec L2
section
variable {X : Cx} {N : Nm} {E : XK}
/-! ### in -/
theorem OpR.or {f : Value → Value → Sem Value} {r r' : R2} (h : OpR X f r) (h' : OpR X f r') : OpR X f (fun x y H Q => r x y H Q ∨ r' x y H Q) :=
  fun pins s σ H x y v u Q I rx ry q => q.elim (h pins s σ H x y v u Q I rx ry) (h' pins s σ H x y v u Q I rx ry)
/-! ### len -/
def gLenA (d : D) (η : Hd) : Option (D × Hd) := match d with
  | .ref r => match η.get r with
    | some (.dct _ kvs) => some (.int (Int.ofNat kvs.length), η)
    | _ => gLen d η
  | _ => gLen d η
theorem blt_lenA : CallR X (.builtin "len") (rN X.K N (f1 gLenA)) := CallR.imp (CallR.or (blt_len (N := N)) (CallR.or call_lenD call_len_dT)) fun xs H Q q => by
  obtain ⟨W, ds, d, η', rfl, o, rs, hf, hq⟩ := q
  obtain ⟨d0, rfl, hg⟩ := f1_inv hf
  have old : gLen d0 W.η = some (d, η') → rN X.K N fLen xs W.H Q := fun h => ⟨W, [d0], d, η', rfl, o, rs, h, hq⟩
  cases d0 with
  | ref r =>
    simp only [gLenA] at hg
    cases e : W.η.get r with
    | none => rw [e] at hg; exact .inl (old hg)
    | some c =>
      rw [e] at hg
      cases c with
      | dct t kvs =>
        simp only [Option.some.injEq, Prod.mk.injEq] at hg
        obtain ⟨rfl, rfl⟩ := hg
        obtain ⟨v, rfl, r1⟩ := rel1 rs
        rw [relRef r1]
        cases t with
        | false =>
          obtain ⟨ps, h1, h2, h3⟩ := o.cell _ _ e
          refine .inr (.inl ⟨_, ps, rfl, h1, ?_⟩)
          rw [← relK_len h2]
          exact same_w o hq mkInt
        | true =>
          obtain ⟨ps, h1, h2, h3⟩ := o.cell _ _ e
          refine .inr (.inr ⟨_, ps, rfl, h1, ?_⟩)
          rw [← relT_len h2]
          exact same_w o hq mkInt
      | _ => exact .inl (old hg)
  | _ => exact .inl (old hg)
/-! ### a name of the top that holds an int -/
/-! ### sorted of a dict with int keys -/
end
end DL

/-! comprehensions by clauses -/
namespace DL
open PySem PySem.Spec L2
/-- one clause: its walk, its target, its tests, what is done in each turn -/
def LoopR (J : It) (g : TG) (tt : TT) (tb : St → Hp → (Hp → Prop) → Prop) (vs : List Nat) (σw : St) (H0 : Hp) (Fn : Hp → Prop) : Prop :=
  ∃ W : Nat → Nat → Hp → Prop, (∃ m, W 0 m H0) ∧ ∀ i m H, W i m H → (J.stop i H ∧ Fn H) ∨ (J.go i H ∧ ∃ Nx : Hp → Prop, (∀ H', Nx H' → ∃ m', m' < m ∧ W (i + 1) m' H') ∧
    ∀ x H', J.yld i H x H' → g x σw H' fun σ2 H2 => wipe σ2 vs = σw ∧ tt σ2 H2 fun b H3 => if b = true then tb σ2 H3 Nx else Nx H3)
section
variable {Y : Cx}
end
section
variable {X : Cx}
end
end DL

/-! dict comprehensions: the readings -/
namespace DL
open PySem PySem.Spec L2
section
variable {X : Cx} {N : Nm} {E : XK}
/-! ### what is stored -/
end
end DL

/-! dict displays: {}, {k: v} -/
namespace DL
open PySem PySem.Spec L2
section
variable {X : Cx} {N : Nm} {E : XK}
end
end DL

/-! enumerate and zip over lists and tuples -/
namespace DL
open PySem PySem.Spec L2
/-! ### a list (true) or a tuple -/
def Sq (K : PySem.W.Frag) : Bool → Hp → Addr → List V → Prop
  | true => SqL K
  | false => SqT K
def IsQ : Bool → Heap → Addr → Array Value → Prop
  | true => fun h a l => h.IsList a l
  | false => fun h a l => h.IsTuple a l
def IsQI : Bool → Heap → Addr → Addr → Nat → Prop
  | true => fun h it a i => h.IsListIter it a i
  | false => fun h it a i => h.IsTupleIter it a i
def objQ : Bool → Addr → Obj
  | true => fun a => { cls := .type "list_iterator", data := .fields #[.ref a, .int 0 0] }
  | false => fun a => { cls := .type "tuple_iterator", data := .fields #[.ref a, .int 0 0] }
theorem objQ_is (f : Bool) {h : Heap} {it a : Addr} (e : h.get? it = some (objQ f a)) : IsQI f h it a 0 := by
  cases f with
  | true => exact ⟨_, e, rfl, rfl⟩
  | false => exact ⟨_, e, rfl, rfl⟩
theorem isQI_at {f : Bool} {h h' : Heap} {it a : Addr} {i : Nat} (st : IsQI f h it a i) (k : ∀ o, h.get? it = some o → h'.get? it = some o) : IsQI f h' it a i := by
  cases f with
  | true => exact Heap.IsListIter.at st k
  | false => exact Heap.IsTupleIter.at st k
theorem isQI_obj {f : Bool} {h : Heap} {it a : Addr} {i : Nat} (st : IsQI f h it a i) : ∃ o, h.get? it = some o ∧ ∀ v, o.data ≠ .cell v := by
  cases f with
  | true => obtain ⟨o, e, _, d⟩ := st; exact ⟨o, e, fun v q => by rw [d] at q; cases q⟩
  | false => obtain ⟨o, e, _, d⟩ := st; exact ⟨o, e, fun v q => by rw [d] at q; cases q⟩
theorem begins_q (f : Bool) (a : Addr) (its : Array Value) : Begins (.ref a) (objQ f a) fun h => IsQ f h a its := by
  cases f with
  | true => exact begins_list a its
  | false => exact begins_tuple a its
theorem draws_q {prog : Program} {w : World} {A : Around} (f : Bool) (hh : A.handled = none) (it l : Addr) (hne : l ≠ it) (its : Array Value) :
    Draws prog w A.in1 it [it, l] its.size (fun i v => its[i]? = some v) (fun i h => IsQI f h it l i ∧ IsQ f h l its) := by
  cases f with
  | true => exact Draws.list (A := A.in1) hh it l hne its
  | false => exact Draws.tuple (A := A.in1) hh it l hne its
theorem inv_q {X : Cx} {pins : List (Addr × Obj)} {σ : St} {H : Hp} {s : Shared} {a : Addr} {xs : List V} {f : Bool} (I : Inv X pins σ H s) (h : Sq X.K f H a xs) : ∃ its : List Value, Vals xs its ∧ IsQ f s.heap a its.toArray ∧ a < s.heap.objs.size := by
  cases f with
  | true => obtain ⟨its, rv, p, _⟩ := I.list h; exact ⟨its, rv, p.isList, p.lt⟩
  | false =>
    obtain ⟨its, rv, p, _⟩ := I.tuple h
    have p' : s.heap.IsTuple a its.toArray := p
    obtain ⟨o, e, _⟩ := p'
    exact ⟨its, rv, p, Heap.lt_size e⟩
theorem inv_q_inj {X : Cx} {pins : List (Addr × Obj)} {σ : St} {H : Hp} {s : Shared} {a : Addr} {xs ys : List V} {f : Bool} (I : Inv X pins σ H s) (h : Sq X.K f H a xs) (h' : Sq X.K f H a ys) : xs = ys := by
  cases f with
  | true => exact I.list_inj h h'
  | false => exact I.tuple_inj h h'
/-! ### enumerate -/
def IteQ (K : PySem.W.Frag) (f : Bool) (a : Addr) : It :=
  ⟨fun i H => ∃ (xs : List V) (x : V), Sq K f H a xs ∧ xs[i]? = some x, fun i H v H' => ∃ T x, v = .ref T ∧ H T = none ∧ H' = upd H T (.tup [.int (i : Nat), x]) ∧ ∀ xs, Sq K f H a xs → xs[i]? = some x, fun i H => ∃ xs : List V, Sq K f H a xs ∧ i = xs.length⟩
theorem turn_enumQ {P : Program} {w : World} {K : PySem.W.Frag} {elts : List Expr} {kk : Nat} {tpos : Pos} (f : Bool) (a e it : Addr) (hne : e ≠ it) (hea : e ≠ a) (hai : a ≠ it) :
    Turn P w K (.Tuple elts kk tpos) (IteQ K f a) [e, it] e (fun i h => (∃ old, IsEnum h e it ((i : Nat) : Int) old) ∧ IsQI f h it a i) where
  mem := by simp
  obj := fun i h st b hb => by
    obtain ⟨⟨old, he⟩, hi⟩ := st
    have e' : b = e ∨ b = it := by simpa using hb
    rcases e' with z | z
    · rw [z]; exact ⟨_, he, fun v q => nomatch q⟩
    · rw [z]; exact isQI_obj hi
  keep := fun i h h' st k => let ⟨⟨old, he⟩, hi⟩ := st; ⟨⟨old, k e (by simp) _ he⟩, isQI_at hi fun o q => k it (by simp) o q⟩
  item := by
    intro X hP hw hK hc i pins s σ H E I hf st hg
    subst hP hw hK
    obtain ⟨⟨old, he⟩, hit⟩ := st
    obtain ⟨xs, x, hq, hx⟩ := hg
    obtain ⟨its, rv, p, _⟩ := inv_q I hq
    obtain ⟨u, hu, ru⟩ := rv.get hx
    have hel : e < s.heap.objs.size := Heap.lt_size he
    have hil : it < s.heap.objs.size := by obtain ⟨_, q, _⟩ := isQI_obj hit; exact Heap.lt_size q
    have hlt : i < its.toArray.size := by
      have := List.getElem?_eq_some_iff.mp hu
      obtain ⟨z, _⟩ := this
      simpa using z
    refine wpAny_pyNext_enum_itemD (draws_q f (I.ok.hd hc) it a hai its.toArray) he ⟨hit, p⟩ hlt hne (by simp; exact ⟨hne, hea⟩) fun y h' tk hy ho hit' hT hsz hk => ?_
    have ey : y = u := by
      have hy' : its.toArray[i]? = some y := hy
      rw [show its.toArray[i]? = its[i]? by simp, hu] at hy'
      exact (Option.some.inj hy').symm
    subst ey
    refine ⟨_, rfl, wpAny_letOwnedTupleGo_enum (s := { s with heap := h', toks := tk + 1 }) ho fun h'' he' sb => ?_⟩
    have hT2 : h''.get? s.heap.objs.size = some { cls := .type "tuple", data := .seq #[.int i tk, y] } := (sb.2 _ (Nat.ne_of_gt hel)).trans hT
    have new : ObjOk X.prog X.w (upd H s.heap.objs.size (.tup [.int (i : Nat), x])) h'' s.heap.objs.size (.tup [.int (i : Nat), x]) :=
      ⟨by show 2 ≤ sizeLine; decide, [.int i tk, y], .cons ⟨_, rfl⟩ (.cons ru .nil), ⟨_, hT2, rfl, _, rfl⟩⟩
    have I1 : Inv X pins σ (upd H s.heap.objs.size (.tup [.int (i : Nat), x])) { s with heap := h'', toks := tk + 1 } :=
      I.turnedNew (t' := tk + 1) (ch := [e, it]) (fun b ob hb q => (sb.2 b (fun z => hb (by simp [z]))).trans (hk b ob (fun z => hb (by simp [z])) (fun z => hb (by simp [z])) q)) hf (Nat.le_refl _) new
    refine ⟨.ref s.heap.objs.size, _, I1, rfl, ⟨_, x, rfl, I.hok.fresh (Nat.le_refl _), rfl, fun ys hy => by rw [inv_q_inj I hy hq]; exact hx⟩, ⟨⟨y, ?_⟩, isQI_at hit'.1 fun o q => (sb.2 it (Ne.symm hne)).trans q⟩, fun b hb => ?_⟩
    · have e1 : ((i + 1 : Nat) : Int) = (i : Int) + 1 := by omega
      rw [e1]; exact he'
    · have hb' : b < s.heap.objs.size := by
        have e' : b = e ∨ b = it := by simpa using hb
        rcases e' with z | z
        · rw [z]; exact hel
        · rw [z]; exact hil
      rw [upd_ne (Nat.ne_of_lt hb')]
      exact (hf b hb).1
  done := by
    intro X hP hw hK hc i pins s σ H E I hf st hg
    subst hP hw hK
    obtain ⟨⟨old, he⟩, hit⟩ := st
    obtain ⟨xs, hq, hx⟩ := hg
    obtain ⟨its, rv, p, _⟩ := inv_q I hq
    obtain ⟨f0, f1, f2, f3, f4, f5⟩ := hf it (by simp)
    have hl := rv.length
    have hi : i = its.toArray.size := by simp; omega
    exact wpAny_pyNext_enum_endD (draws_q f (I.ok.hd hc) it a hai its.toArray) he (by rw [← hi]; exact ⟨hit, p⟩) fun h' eb => ⟨rfl, I.turned (t' := s.toks) (fun b o hb q => eb b o hb q) f0 f1 f3 f4 f5⟩
  self := fun A i s Q E st h => let ⟨⟨_, he⟩, _⟩ := st; wpAny_pyIter_enum he h
set_option maxHeartbeats 1000000 in
theorem meets_enum_newB1 {v : Value} {o : Obj} {H : Heap → Prop} (B : Begins v o H) :
    Meets (Builtin.«enumerate.__new__» ⟨[.type "enumerate", v], []⟩) (fun _ R s => H s.heap ∧
      R (.ok (.ret (.ref (s.heap.push o).objs.size))) { s with heap := (s.heap.push o).push { cls := .type "enumerate", data := .fields #[.none, .bool false, .ref s.heap.objs.size, rawInt 0, .none, .none] } }) :=
  .of_wp fun prog w A R s h => by
    obtain ⟨hp, g, d, tk, os⟩ := s; obtain ⟨h1, h⟩ := h
    have hsub := sub_enumerate
    have q1 : ∀ {A' : Around} {E : Value → Shared → Prop} {Q : Value → Shared → Prop}, Q (.ref hp.objs.size) ⟨hp.push o, g, d, tk, os⟩ → wpAny (model prog w) A' (pyIter v) Q E ⟨hp, g, d, tk, os⟩ :=
      fun q => B.iter prog w _ _ ⟨hp, g, d, tk, os⟩ _ h1 q
    wp_walk using q1
    refine wpAny_stack_any fun st => wpAny_pure ?_
    split
    · rename_i c _ _ _ _ _
      cases (c == Value.type "enumerate")
      · wp_walk using q1
        exact ⟨_, rfl, h⟩
      · wp_walk using q1
        exact ⟨_, rfl, h⟩
    · wp_walk using q1
      exact ⟨_, rfl, h⟩
theorem enum_begins1 {prog : Program} {w : World} {A : Around} {E : Value → Shared → Prop} {s : Shared} {v : Value} {o : Obj} {H : Heap → Prop} {Q : Value → Shared → Prop} (B : Begins v o H) (h1 : H s.heap)
    (h : ∀ h', IsEnum h' (s.heap.objs.size + 1) s.heap.objs.size 0 .none → h'.get? s.heap.objs.size = some o → h'.objs.size = s.heap.objs.size + 2 →
      (∀ b o, s.heap.get? b = some o → h'.get? b = some o) → Q (.ref (s.heap.objs.size + 1)) { s with heap := h' }) :
    wpAny (model prog w) A (call (.type "enumerate") [v]) Q E s := by
  refine callType_new F.called_enumerate (by decide) (F.typeCall_enumerate_1 _) (F.newCall_enumerate_1 _) (fun obj => F.args_object_init_2 obj _) F.entry_enumerate_new
    (meets_enum_newB1 B) ⟨h1, ?_⟩
  have hz : (s.heap.push o).objs.size = s.heap.objs.size + 1 := Heap.size_push ..
  show _ ∧ _
  rw [hz]
  have he : IsEnum ((s.heap.push o).push { cls := .type "enumerate", data := .fields #[.none, .bool false, .ref s.heap.objs.size, rawInt 0, .none, .none] }) (s.heap.objs.size + 1) s.heap.objs.size 0 .none := by
    have := Heap.get?_push_size (s.heap.push o) (o := { cls := .type "enumerate", data := .fields #[.none, .bool false, .ref s.heap.objs.size, rawInt 0, .none, .none] }) rfl
    rw [hz] at this; exact this
  refine ⟨⟨_, he, rfl⟩, h _ he (Heap.get?_push_of_some _ (Heap.get?_push_size _ B.free)) (by rw [Heap.size_push, hz]) fun b o x => Heap.get?_push_of_some _ (Heap.get?_push_of_some _ x)⟩
def iEnumQ (K : PySem.W.Frag) (ta : TA) : TI := fun σ H R => ta σ H fun vs H1 => ∃ f a xs, vs = [.ref a] ∧ Sq K f H1 a xs ∧ R (IteQ K f a) H1
theorem pi_enumQ {X : Cx} {e : Expr} {ta : TA} {p pos tpos : Pos} {elts : List Expr} {kk : Nat} (hg : Gl X "enumerate") (hm : X.mg "enumerate" = none) (ha : PA X [e] ta) (hs : starEach [e] X.env = [(false, eval e X.env)] := by rfl) :
    PI X (.Tuple elts kk tpos) (.Call (.Name "enumerate" p) [e] [] pos) (iEnumQ X.K ta) := by
  refine ⟨fun pins s σ H R I h => ?_⟩
  refine PyProof.Rows.Call_ (ld_blt I hg hm PyProof.Rows.boot_enumerate (PyProof.Rows.callWith_type1 (thn (ha.run pos pins s σ H _ I h) fun us s1 ⟨vs, H1, I1, r1, q1⟩ => ?_) hs rfl))
  obtain ⟨f, a, xs, ex, hq, q⟩ := q1
  subst ex
  cases r1 with
  | cons r rr =>
    cases rr
    cases r
    obtain ⟨its, rv, p', la⟩ := inv_q I1 hq
    refine enum_begins1 (begins_q f a its.toArray) p' fun h' he hit hsz hk => wpAny_pyIter_enum he ?_
    have I2 : Inv X pins σ H1 { s1 with heap := h' } := I1.kept (t' := s1.toks) hk
    refine ⟨s1.heap.objs.size + 1, [s1.heap.objs.size + 1, s1.heap.objs.size], _, _, H1, rfl, I2, turn_enumQ f a (s1.heap.objs.size + 1) s1.heap.objs.size (Nat.succ_ne_self _) (Nat.ne_of_gt (Nat.lt_succ_of_lt la)) (Nat.ne_of_lt la), ⟨⟨.none, he⟩, objQ_is f hit⟩, fun b hb => ?_, q⟩
    have e' : b = s1.heap.objs.size + 1 ∨ b = s1.heap.objs.size := by simpa using hb
    have hle : s1.heap.objs.size ≤ b := by
      rcases e' with z | z
      · rw [z]; exact Nat.le_add_right _ _
      · rw [z]; exact Nat.le_refl _
    exact I1.fpOk hle (I1.hok.fresh hle)
/-! ### zip of two -/
/-! ### zip of three -/
end DL

/-! enumerate and zip: the readings -/
namespace DL
open PySem PySem.Spec L2
/-- a list or tuple that stays from here on -/
def frzD (η : Hd) : D → Option (List D × Hd)
  | .tup l => some (l, η)
  | .ref r => match η.get r with
    | some (.lst l) => some (l, frzAt r l η)
    | some (.frz l) => some (l, η)
    | _ => none
  | _ => none
def Held (W : Wl) (f : Bool) (a : Addr) (l : List D) (vs : List V) : Prop := RelDs W l vs ∧ (f = false ∧ W.H a = some (.tup vs) ∨ f = true ∧ ∃ q, W.η.get q = some (.frz l) ∧ a = W.μ q ∧ W.H a = some (.lst vs))
section
variable {X : Cx} {N : Nm} {E : XK} {K : PySem.W.Frag} {W Wf W1 : Wl} {f : Bool} {a : Addr} {l : List D} {vs : List V}
theorem Held.sq (h : Held W f a l vs) (x : Sty W W1) : Sq K f W1.H a vs := by
  obtain ⟨_, ⟨rfl, h⟩ | ⟨rfl, q, h1, rfl, h3⟩⟩ := h
  · exact SqT.of (x.tx.tp _ _ h)
  · exact SqL.of (x.fz q l _ h1 h3)
theorem Held.rel (h : Held W f a l vs) (x : Sty W W1) : RelDs W1 l vs := h.1.tx x.tx
theorem Held.id (h : Held W f a l vs) (o : W.Ok K N.toNames) : Sq K f W.H a vs := h.sq ((Ext.refl W).sty o)
theorem frz_held {d : D} {v : V} {η' : Hd} (o : W.Ok K N.toNames) (r : RelD W d v) (h : frzD W.η d = some (l, η')) : Ext W ⟨W.μ, η', W.H⟩ ∧ Wl.Ok K N.toNames ⟨W.μ, η', W.H⟩ ∧ (∃ f a vs, v = .ref a ∧ Held ⟨W.μ, η', W.H⟩ f a l vs) ∧ ∀ f' a' l' vs', Held W f' a' l' vs' → Held ⟨W.μ, η', W.H⟩ f' a' l' vs' := by
  cases d with
  | tup l0 =>
    cases h
    obtain ⟨a, vs, rfl, hs, rs⟩ := relTup r
    exact ⟨Ext.refl W, o, ⟨false, a, vs, rfl, rs, .inl ⟨rfl, hs⟩⟩, fun _ _ _ _ h => h⟩
  | ref q =>
    simp only [frzD] at h
    cases e : W.η.get q with
    | none => rw [e] at h; cases h
    | some c =>
      rw [e] at h
      rw [relRef r]
      cases c with
      | lst l0 =>
        cases h
        obtain ⟨vs, h1, h2, h3⟩ := o.cell q _ e
        obtain ⟨xf, of⟩ := o.freeze e
        have gq : (frzAt q l W.η).get q = some (.frz l) := by
          unfold frzAt
          rw [Hd.get_set, if_pos rfl, e]; rfl
        refine ⟨xf, of, ⟨true, _, vs, rfl, h2.mono o xf, .inr ⟨rfl, q, gq, rfl, h1⟩⟩, fun f' a' l' vs' hh => ?_⟩
        obtain ⟨r1, hh⟩ := hh
        refine ⟨r1.mono o xf, ?_⟩
        rcases hh with ⟨e1, h⟩ | ⟨e1, p, g1, g2, g3⟩
        · exact .inl ⟨e1, h⟩
        · refine .inr ⟨e1, p, ?_, g2, g3⟩
          show (frzAt q l W.η).get p = some (.frz l')
          unfold frzAt
          have ne : p ≠ q := fun z => by rw [z, e] at g1; cases g1
          rw [Hd.get_set, if_neg ne]; exact g1
      | frz l0 =>
        cases h
        obtain ⟨vs, h1, h2, h3⟩ := o.cell q _ e
        exact ⟨Ext.refl W, o, ⟨true, _, vs, rfl, h2, .inr ⟨rfl, q, e, rfl, h1⟩⟩, fun _ _ _ _ h => h⟩
      | _ => cases h
  | _ => cases h
/-! ### enumerate -/
def enumD : Nat → List D → List D
  | _, [] => []
  | i, d :: ds => .tup [.int (Int.ofNat i), d] :: enumD (Nat.succ i) ds
theorem enumD_len : ∀ (i : Nat) (l : List D), (enumD i l).length = l.length
  | _, [] => rfl
  | i, d :: ds => by rw [enumD, List.length_cons, List.length_cons, enumD_len]
theorem enumD_get : ∀ (i : Nat) (l : List D) (k : Nat) (d : D), l[k]? = some d → (enumD i l)[k]? = some (.tup [.int (Int.ofNat (i + k)), d])
  | _, [], k, d, h => by simp at h
  | i, c :: ds, 0, d, h => by simp at h; subst h; rfl
  | i, c :: ds, k + 1, d, h => by
    show (enumD (Nat.succ i) ds)[k]? = _
    rw [enumD_get (Nat.succ i) ds k d (by simpa using h)]
    rw [show Nat.succ i + k = i + (k + 1) by omega]
theorem walkD_enum (h : Held Wf f a l vs) : WalkD K N Wf (enumD 0 l) (IteQ K f a) := by
  have hl := h.1.length
  refine ⟨fun W1 i x o hi => ?_, fun W1 x o => ?_, fun W1 i y H' x o hi hy => ?_⟩
  · rw [enumD_len] at hi
    exact ⟨vs, vs[i]'(by omega), h.sq x, by simp [show i < vs.length by omega]⟩
  · rw [enumD_len]; exact ⟨vs, h.sq x, hl⟩
  · obtain ⟨T, y0, rfl, hT, rfl, hy⟩ := hy
    obtain ⟨d, e3, e4⟩ := (h.rel x).get (hy vs (h.sq x))
    obtain ⟨x2, o2⟩ := o.lay (ob := .tup [.int (i : Nat), y0]) hT
    refine ⟨W1.lay T (.tup [.int (i : Nat), y0]), .tup [.int (Int.ofNat i), d], ?_, x2, o2, rfl, rfl, ?_⟩
    · have := enumD_get 0 l i d e3
      rw [Nat.zero_add] at this
      exact this
    · rw [RelD]
      exact ⟨T, _, rfl, upd_same, .cons mkInt (.cons (e4.mono o x2) .nil)⟩
def ciEnum (a : CA) : CI := fun σ η k kx => a σ η (fun ds η1 => match ds with
  | [d] => match frzD η1 d with
    | some (l, η2) => k ⟨enumD 0 l, none⟩ η2
    | none => false
  | _ => false) kx
theorem ji_enum {e : Expr} {ca : CA} {p pos tpos : Pos} {elts : List Expr} {kk : Nat} (hg : Gl X "enumerate") (hm : X.mg "enumerate" = none) (ha : JA X N E [e] ca) (hs : starEach [e] X.env = [(false, eval e X.env)] := by rfl) :
    JI X N E (.Tuple elts kk tpos) (.Call (.Name "enumerate" p) [e] [] pos) (ciEnum ca) :=
  PI.imp (pi_enumQ hg hm ha hs) fun σ H R q => by
    obtain ⟨W, σd, k, kx, rfl, o, s, h, hk, hx⟩ := q
    refine tAr.bind o s hx h fun W1 ds vs x1 o1 r1 s1 hx1 h1 => ?_
    match ds, r1, h1 with
    | [d], r1, h1 =>
      obtain ⟨v, rfl, r⟩ := rel1 r1
      simp only at h1
      cases e : frzD W1.η d with
      | none => rw [e] at h1; cases h1
      | some p =>
        obtain ⟨l, η2⟩ := p
        rw [e] at h1
        obtain ⟨x2, o2, ⟨f, a, vs, rfl, hh⟩, _⟩ := frz_held o1 r e
        exact ⟨f, a, vs, rfl, hh.id o2, hk ⟨W1.μ, η2, W1.H⟩ ⟨enumD 0 l, none⟩ _ (x1.trans o o1 x2) o2 (fun r l e => nomatch e) (walkD_enum hh) h1⟩
    | [], _, h1 => cases h1
    | _ :: _ :: _, _, h1 => simp at h1
/-! ### zip of two -/
/-! ### zip of three -/
end
end DL

/-! sorted of a dict whose keys are rows of ints -/
namespace DL
open PySem PySem.Spec L2
section
variable {prog : Program} {w : World} {d : Addr} {o : Obj} {es : Array DictEntry} {ep : Nat}
end
section
variable {X : Cx} {N : Nm} {E : XK}
end
end DL

/-! any, all of a generator expression with two clauses: the body -/
namespace DL
open PySem PySem.Spec L2
/-- as LoopR, the count of turns at most B -/
def LoopB (B : Nat) (J : It) (g : TG) (tt : TT) (tb : St → Hp → (Hp → Prop) → Prop) (vs : List Nat) (σw : St) (H0 : Hp) (Fn : Hp → Prop) : Prop :=
  ∃ W : Nat → Nat → Hp → Prop, (∃ m, m ≤ B ∧ W 0 m H0) ∧ ∀ i m H, W i m H → (J.stop i H ∧ Fn H) ∨ (J.go i H ∧ ∃ Nx : Hp → Prop, (∀ H', Nx H' → ∃ m', m' < m ∧ W (i + 1) m' H') ∧
    ∀ x H', J.yld i H x H' → g x σw H' fun σ2 H2 => wipe σ2 vs = σw ∧ tt σ2 H2 fun b H3 => if b = true then tb σ2 H3 Nx else Nx H3)
section
variable {Y : Cx}
end
end DL

/-! any, all of a generator expression with two clauses: the making, the walk -/
namespace DL
open PySem PySem.Spec L2
section
variable {Y : Cx}
end
end DL

/-! any, all of a generator expression with two clauses: the rules -/
namespace DL
open PySem PySem.Spec L2
section
variable {Y : Cx} {A : Around} {p : Bool} {Fin End : Hp → Prop} {oa : Obj} {σw : L2.St} {a : Addr} {gi : Nat} {R : Result → Shared → Prop}
end
section
variable {Y : Cx} {A : Around} {oa : Obj} {σw : L2.St} {a : Addr} {gi : Nat} {R : Result → Shared → Prop} {Fin : Bool → Hp → Prop}
end
section
variable {X : Cx} {pins : List (Addr × Obj)} {σ : L2.St} {H : Hp} {s : Shared}
variable {T : Tbl} {k : Nat} {elt t0 i0 t1 i1 : Expr} {ifs0 ifs1 : List Expr} {scope : Scope} {own : List (Str × Nat)} {vs1 : List Nat} {wi wi1 : TI} {g g1 : TG} {tt tt1 : TT} {te : TE}
end
end DL

/-! any, all of a generator expression with two clauses: the readings -/
namespace DL
open PySem PySem.Spec L2
section
variable {X : Cx} {N : Nm} {E : XK}
theorem LoopB.imp {B : Nat} {J : It} {g : TG} {tt : TT} {tb : St → Hp → (Hp → Prop) → Prop} {vs : List Nat} {σw : St} {H0 : Hp} {Fn Fn' : Hp → Prop} (h : LoopB B J g tt tb vs σw H0 Fn) (f : ∀ H, Fn H → Fn' H) : LoopB B J g tt tb vs σw H0 Fn' := by
  obtain ⟨W, hs, turn⟩ := h
  refine ⟨W, hs, fun i m H w => ?_⟩
  rcases turn i m H w with ⟨stop, z⟩ | z
  · exact .inl ⟨stop, f _ z⟩
  · exact .inr z
variable {E' : XK} {k : Nat} {elt t0 i0 t1 i1 : Expr} {ifs0 ifs1 : List Expr} {scope : Scope} {own : List (Str × Nat)} {vs1 : List Nat} {ci ci1 : CI} {g g1 : CG} {t t1' : CT} {e : CE} {p pos gpos : Pos}
end
end DL

/-! a name set to a dict comprehension -/
namespace DL
open PySem PySem.Spec L2
section
variable {X : Cx}
end
section
variable {X : Cx} {N : Nm} {E : XK}
end
end DL

/-! tuples that are known to have no dict: tuple(list), t.index(i) -/
namespace DL
open PySem PySem.Spec L2 PyProof.Rows
section
variable {X : Cx} {N : Nm} {E : XK}
/-! t.index(i) -/
end
end DL

/-! cuts to one of a set of states, the cells named anew -/
namespace DL
open PySem PySem.Spec L2
def RenD (n : Nat) (ρ : Nat → Nat) (d d' : D) : Prop := (∃ r, r < n ∧ d = .ref r ∧ d' = .ref (ρ r)) ∨ (d' = d ∧ below 8 0 d = true)
structure Ren (st : SD × Hd) (σ : SD) (η : Hd) (ρ : Nat → Nat) : Prop where
  one : 1 ≤ st.2.nx
  zero : ρ 0 = 0
  inj : ∀ i j, i < st.2.nx → j < st.2.nx → ρ i = ρ j → i = j
  lt : ∀ i, i < st.2.nx → ρ i < η.nx
  len : st.1.length = σ.length
  slot : ∀ (i : Nat) (d : D), st.1[i]? = some (some d) → ∃ d', σ[i]? = some (some d') ∧ RenD st.2.nx ρ d d'
  cell : ∀ (r : Nat) (c : Cell), st.2.get r = some c → r < st.2.nx ∧ ∃ c0, η.get (ρ r) = some c0 ∧ cle 0 c0 c = true
theorem tx_any {μ μ' : Nat → Addr} {η : Hd} {cs : List (Nat × Cell)} {H : Hp} : Tx ⟨μ, ⟨0, cs⟩, H⟩ ⟨μ', η, H⟩ := ⟨Nat.zero_le _, fun r h => absurd h (Nat.not_lt_zero r), fun _ _ h => h, fun _ _ _ h => h⟩
theorem Ren.ok {K : PySem.W.Frag} {N : Names} {W0 W : Wl} {st : SD × Hd} {σd : SD} {σ : St} {ρ : Nat → Nat} (o0 : W0.Ok K N) (o : W.Ok K N) (x : Ext W0 W) (s : RelS W σd σ) (h : Ren st σd W.η ρ) (h0 : W0.η.nx ≤ 1) :
    Ext W0 ⟨fun i => W.μ (ρ i), st.2, W.H⟩ ∧ Wl.Ok K N ⟨fun i => W.μ (ρ i), st.2, W.H⟩ ∧ RelS ⟨fun i => W.μ (ρ i), st.2, W.H⟩ st.1 σ := by
  refine ⟨⟨Nat.le_trans h0 h.one, fun r hr => ?_, x.fr, x.th, fun r c e => ?_⟩, ⟨fun r c e => (h.cell r c e).1, fun r c e => ?_, fun r s c d e1 e2 e => ?_, o.tab⟩, ?_⟩
  · have z : r = 0 := by have : r < W0.η.nx := hr; omega
    subst z
    show W.μ (ρ 0) = W0.μ 0
    rw [h.zero]; exact x.mu 0 hr
  · obtain ⟨hr, c0, g1, g2⟩ := h.cell r c e
    have gm := (cle_ok (cs := []) g2 (o.cell (ρ r) c0 g1)).2
    rcases x.cs (ρ r) c0 g1 with ⟨c1, k1, k2⟩ | ⟨k1, k2⟩
    · have hl := o0.lt _ _ k1
      have z : ρ r = 0 := by omega
      have z2 : r = 0 := h.inj r 0 hr h.one (by rw [z, h.zero])
      subst z2
      rw [h.zero] at k1
      exact .inl ⟨c1, k1, fun m => k2 (gm m)⟩
    · refine .inr ⟨?_, k2⟩
      by_cases z : r = 0
      · subst z; rw [h.zero] at k1; exact k1
      · omega
  · obtain ⟨hr, c0, g1, g2⟩ := h.cell r c e
    exact ((cle_ok (cs := []) g2 (o.cell (ρ r) c0 g1)).1).tx tx_any (fun _ _ h => h)
  · obtain ⟨hr, c1, g1, _⟩ := h.cell r c e1
    obtain ⟨hs, c2, g2, _⟩ := h.cell s d e2
    exact h.inj r s hr hs (o.inj _ _ c1 c2 g1 g2 e)
  · refine ⟨h.len.trans s.len, fun i d e => ?_⟩
    obtain ⟨d', e', rd⟩ := h.slot i d e
    obtain ⟨v, r1, r2⟩ := s.get i d' e'
    refine ⟨v, r1, ?_⟩
    rcases rd with ⟨r, hr, rfl, rfl⟩ | ⟨rfl, hb⟩
    · rw [RelD] at r2 ⊢
      exact ⟨hr, r2.2⟩
    · exact (below_rel (cs := []) 8 hb r2).tx tx_any
section
variable {X : Cx} {N : Nm} {E : XK} {m : Nat}
end
end DL

/-! is None; d.get(k, x) -/
namespace DL
open PySem PySem.Spec L2
section
variable {X : Cx} {N : Nm} {E : XK}
/-! d.get(k, x) -/
end
end DL

/-! sorted(d.items()), keys and values ints -/
namespace DL
open PySem PySem.Spec L2 PyProof.Rows
section
variable {K : PySem.W.Frag} {N : Names} {W : Wl}
theorem Wl.Ok.grow (o : W.Ok K N) {H' : Hp} (g : ∀ b u, W.H b = some u → H' b = some u) : Ext W ⟨W.μ, W.η, H'⟩ ∧ Wl.Ok K N ⟨W.μ, W.η, H'⟩ := by
  have x : Ext W ⟨W.μ, W.η, H'⟩ := ⟨Nat.le_refl _, fun _ _ => rfl, fun a u h _ _ => g a u h, fun a u h t => ⟨u, g a u h, t⟩, fun r c h => .inl ⟨c, h, id⟩⟩
  exact ⟨x, o.lt, fun r c e => (o.cell r c e).mono o x (fun ob _ => g _ ob), o.inj, tabs_keep o.tab fun b u h _ => g b u h⟩
end
section
variable {X : Cx}
end
end DL

/-! d.setdefault(k, x) -/
namespace DL
open PySem PySem.Spec L2
section
variable {X : Cx}
variable {N : Nm} {E : XK}
end
end DL

/-! sorted(d, key=lambda one: (len(one), one)) -/
namespace DL
open PySem PySem.Spec PyProof.Rows L2
section
variable {prog : Program} {w : World} {A : Around} {s : Shared}
end
end DL

/-! the order of rows by (len(one), one) -/
namespace DL
open PySem PySem.Spec PyProof.Rows L2
end DL

/-! sorted(d, key=lambda one: (len(one), one)), d a dict whose keys are rows of ints -/
namespace DL
open PySem PySem.Spec L2
section
variable {X : Cx} {N : Nm} {E : XK}
end
end DL

/-! sorted(d, key=lambda one: (len(one), one)): the reading -/
namespace DL
open PySem PySem.Spec L2
section
variable {X : Cx} {N : Nm} {E : XK}
end
end DL

/-! sorted(d.items()): the reading -/
namespace DL
open PySem PySem.Spec L2 PyProof.Rows
section
variable {X : Cx} {N : Nm} {E : XK}
end
end DL

/-! cuts to one of a set of states, the cells named anew, cells that hold cells -/
namespace DL
open PySem PySem.Spec L2
def RenDs (n : Nat) (ρ : Nat → Nat) : List D → List D → Prop
  | [], l => l = []
  | d :: t, l => ∃ d' t', l = d' :: t' ∧ RenD n ρ d d' ∧ RenDs n ρ t t'
def RenFs (n : Nat) (ρ : Nat → Nat) : List (Nat × D) → List (Nat × D) → Prop
  | [], l => l = []
  | (k, d) :: t, l => ∃ d' t', l = (k, d') :: t' ∧ RenD n ρ d d' ∧ RenFs n ρ t t'
def RenKv (n : Nat) (ρ : Nat → Nat) : List (D × D) → List (D × D) → Prop
  | [], l => l = []
  | (k, d) :: t, l => ∃ d' t', l = (k, d') :: t' ∧ RenD n ρ d d' ∧ RenKv n ρ t t'
def RenC (n : Nat) (ρ : Nat → Nat) (c c0 : Cell) : Prop := cle 0 c0 c = true ∨ (∃ l l0, c = .lst l ∧ c0 = .lst l0 ∧ RenDs n ρ l l0) ∨ (∃ k l l0, c = .ins k l ∧ c0 = .ins k l0 ∧ RenFs n ρ l l0) ∨ (∃ t l l0, c = .dct t l ∧ c0 = .dct t l0 ∧ RenKv n ρ l l0)
structure Ren2 (st : SD × Hd) (σ : SD) (η : Hd) (ρ : Nat → Nat) : Prop where
  one : 1 ≤ st.2.nx
  zero : ρ 0 = 0
  inj : ∀ i j, i < st.2.nx → j < st.2.nx → ρ i = ρ j → i = j
  lt : ∀ i, i < st.2.nx → ρ i < η.nx
  len : st.1.length = σ.length
  slot : ∀ (i : Nat) (d : D), st.1[i]? = some (some d) → ∃ d', σ[i]? = some (some d') ∧ RenD st.2.nx ρ d d'
  cell : ∀ (r : Nat) (c : Cell), st.2.get r = some c → r < st.2.nx ∧ ∃ c0, η.get (ρ r) = some c0 ∧ RenC st.2.nx ρ c c0
section
variable {W : Wl} {n : Nat} {ρ : Nat → Nat} {cs : List (Nat × Cell)}
theorem renD_rel {d d' : D} {v : V} (h : RenD n ρ d d') (r : RelD W d' v) : RelD ⟨fun i => W.μ (ρ i), ⟨n, cs⟩, W.H⟩ d v := by
  rcases h with ⟨r0, hr, rfl, rfl⟩ | ⟨rfl, hb⟩
  · rw [RelD] at r ⊢
    exact ⟨hr, r.2⟩
  · exact (below_rel (cs := []) 8 hb r).tx tx_any
theorem renDs_rel : ∀ {l l0 : List D} {vs : List V}, RenDs n ρ l l0 → RelDs W l0 vs → RelDs ⟨fun i => W.μ (ρ i), ⟨n, cs⟩, W.H⟩ l vs ∧ l.length = l0.length
  | [], l0, vs, h, r => by
    rw [RenDs] at h; subst h
    rw [RelDs] at r; subst r
    exact ⟨.nil, rfl⟩
  | d :: t, l0, vs, h, r => by
    rw [RenDs] at h
    obtain ⟨d', t', rfl, h1, h2⟩ := h
    rw [RelDs] at r
    obtain ⟨v, vs', rfl, r1, r2⟩ := r
    obtain ⟨q1, q2⟩ := renDs_rel h2 r2
    exact ⟨.cons (renD_rel h1 r1) q1, by simp [q2]⟩
theorem renFs_rel {N : Names} : ∀ {l l0 : List (Nat × D)} {vs : List (Str × V)}, RenFs n ρ l l0 → RelFs W N l0 vs → RelFs ⟨fun i => W.μ (ρ i), ⟨n, cs⟩, W.H⟩ N l vs ∧ l.length = l0.length
  | [], l0, vs, h, r => by
    rw [RenFs] at h; subst h
    rw [RelFs] at r; subst r
    exact ⟨by rw [RelFs], rfl⟩
  | (k, d) :: t, l0, vs, h, r => by
    rw [RenFs] at h
    obtain ⟨d', t', rfl, h1, h2⟩ := h
    rw [RelFs] at r
    obtain ⟨v, vs', rfl, r1, r2⟩ := r
    obtain ⟨q1, q2⟩ := renFs_rel h2 r2
    exact ⟨by rw [RelFs]; exact ⟨v, vs', rfl, renD_rel h1 r1, q1⟩, by simp [q2]⟩
theorem renKv_relK : ∀ {l l0 : List (D × D)} {vs : List (Key × V)}, RenKv n ρ l l0 → RelK W l0 vs → RelK ⟨fun i => W.μ (ρ i), ⟨n, cs⟩, W.H⟩ l vs ∧ l.length = l0.length
  | [], l0, vs, h, r => by
    rw [RenKv] at h; subst h
    rw [RelK] at r; subst r
    exact ⟨by rw [RelK], rfl⟩
  | (k, d) :: t, l0, vs, h, r => by
    rw [RenKv] at h
    obtain ⟨d', t', rfl, h1, h2⟩ := h
    rw [RelK] at r
    obtain ⟨k', v, vs', rfl, r0, r1, r2⟩ := r
    obtain ⟨q1, q2⟩ := renKv_relK h2 r2
    exact ⟨by rw [RelK]; exact ⟨k', v, vs', rfl, r0, renD_rel h1 r1, q1⟩, by simp [q2]⟩
theorem renKv_relT : ∀ {l l0 : List (D × D)} {vs : List (List Key × V)}, RenKv n ρ l l0 → RelT W l0 vs → RelT ⟨fun i => W.μ (ρ i), ⟨n, cs⟩, W.H⟩ l vs ∧ l.length = l0.length
  | [], l0, vs, h, r => by
    rw [RenKv] at h; subst h
    rw [RelT] at r; subst r
    exact ⟨by rw [RelT], rfl⟩
  | (k, d) :: t, l0, vs, h, r => by
    rw [RenKv] at h
    obtain ⟨d', t', rfl, h1, h2⟩ := h
    rw [RelT] at r
    obtain ⟨k', v, vs', rfl, r0, r1, r2⟩ := r
    obtain ⟨q1, q2⟩ := renKv_relT h2 r2
    exact ⟨by rw [RelT]; exact ⟨k', v, vs', rfl, r0, renD_rel h1 r1, q1⟩, by simp [q2]⟩
theorem renC_rel {K : PySem.W.Frag} {N : Names} {a : Addr} {c c0 : Cell} (h : RenC n ρ c c0) (r : RelC K N W a c0) : RelC K N ⟨fun i => W.μ (ρ i), ⟨n, cs⟩, W.H⟩ a c ∧ (c.mut = true → c0.mut = true) := by
  rcases h with h | ⟨l, l0, rfl, rfl, h⟩ | ⟨k, l, l0, rfl, rfl, h⟩ | ⟨t, l, l0, rfl, rfl, h⟩
  · obtain ⟨q1, q2⟩ := cle_ok (cs := []) h r
    exact ⟨q1.tx tx_any (fun _ _ h => h), q2⟩
  · obtain ⟨vs, r1, r2, r3⟩ := r
    obtain ⟨q1, q2⟩ := renDs_rel (cs := cs) h r2
    exact ⟨⟨vs, r1, q1, by rw [q2]; exact r3⟩, id⟩
  · obtain ⟨dx, gs, r1, r2, r3⟩ := r
    obtain ⟨q1, q2⟩ := renFs_rel (cs := cs) h r2
    exact ⟨⟨dx, gs, r1, q1, by rw [q2]; exact r3⟩, id⟩
  · cases t with
    | false =>
      obtain ⟨ps, r1, r2, r3⟩ := r
      obtain ⟨q1, q2⟩ := renKv_relK (cs := cs) h r2
      exact ⟨⟨ps, r1, q1, by rw [q2]; exact r3⟩, id⟩
    | true =>
      obtain ⟨ps, r1, r2, r3⟩ := r
      obtain ⟨q1, q2⟩ := renKv_relT (cs := cs) h r2
      exact ⟨⟨ps, r1, q1, by rw [q2]; exact r3⟩, id⟩
end
theorem Ren2.ok {K : PySem.W.Frag} {N : Names} {W0 W : Wl} {st : SD × Hd} {σd : SD} {σ : St} {ρ : Nat → Nat} (o0 : W0.Ok K N) (o : W.Ok K N) (x : Ext W0 W) (s : RelS W σd σ) (h : Ren2 st σd W.η ρ) (h0 : W0.η.nx ≤ 1) :
    Ext W0 ⟨fun i => W.μ (ρ i), st.2, W.H⟩ ∧ Wl.Ok K N ⟨fun i => W.μ (ρ i), st.2, W.H⟩ ∧ RelS ⟨fun i => W.μ (ρ i), st.2, W.H⟩ st.1 σ := by
  refine ⟨⟨Nat.le_trans h0 h.one, fun r hr => ?_, x.fr, x.th, fun r c e => ?_⟩, ⟨fun r c e => (h.cell r c e).1, fun r c e => ?_, fun r s c d e1 e2 e => ?_, o.tab⟩, ?_⟩
  · have z : r = 0 := by have : r < W0.η.nx := hr; omega
    subst z
    show W.μ (ρ 0) = W0.μ 0
    rw [h.zero]; exact x.mu 0 hr
  · obtain ⟨hr, c0, g1, g2⟩ := h.cell r c e
    have gm := (renC_rel (cs := []) g2 (o.cell (ρ r) c0 g1)).2
    rcases x.cs (ρ r) c0 g1 with ⟨c1, k1, k2⟩ | ⟨k1, k2⟩
    · have hl := o0.lt _ _ k1
      have z : ρ r = 0 := by omega
      have z2 : r = 0 := h.inj r 0 hr h.one (by rw [z, h.zero])
      subst z2
      rw [h.zero] at k1
      exact .inl ⟨c1, k1, fun m => k2 (gm m)⟩
    · refine .inr ⟨?_, k2⟩
      by_cases z : r = 0
      · subst z; rw [h.zero] at k1; exact k1
      · omega
  · obtain ⟨hr, c0, g1, g2⟩ := h.cell r c e
    exact (renC_rel (cs := st.2.cs) g2 (o.cell (ρ r) c0 g1)).1
  · obtain ⟨hr, c1, g1, _⟩ := h.cell r c e1
    obtain ⟨hs, c2, g2, _⟩ := h.cell s d e2
    exact h.inj r s hr hs (o.inj _ _ c1 c2 g1 g2 e)
  · refine ⟨h.len.trans s.len, fun i d e => ?_⟩
    obtain ⟨d', e', rd⟩ := h.slot i d e
    obtain ⟨v, r1, r2⟩ := s.get i d' e'
    exact ⟨v, r1, renD_rel rd r2⟩
section
variable {X : Cx} {N : Nm} {E : XK} {m : Nat}
end
end DL

/-! a def of the dice that makes one of few cells -/
namespace DL
open PySem PySem.Spec L2
section
variable {P : Program} {w : World} {K : PySem.W.Frag} {mg : Str → Option Value} {base : Heap} {N : Nm}
end
end DL

/-! a def whose results are known for some arguments -/
namespace DL
open PySem PySem.Spec L2
/-- an argument: data without cells; a cell without cells; the cell of an argument ahead -/
inductive Ag where
  | dt (d : D) | ce (c : Cell) | rp (j : Nat)
structure Rw where
  as : List Ag
  r : D
  c : Option Cell := none
section
variable {P : Program} {w : World} {K : PySem.W.Frag} {mg : Str → Option Value} {base : Heap} {N : Nm}
end
end DL

/-! a dict is walked: it is locked meanwhile -/
namespace DL
open PySem PySem.Spec L2
section
variable {K : PySem.W.Frag} {N : Names} {W W2 : Wl} {r : Nat} {t : Bool} {l : List (D × D)}
/-- what stands at a dict's address -/
def DObj (W : Wl) (t : Bool) (l : List (D × D)) (u : HO) : Prop := (t = false ∧ ∃ ps, u = .dK ps ∧ RelK W l ps ∧ l.length ≤ sizeLine) ∨ (t = true ∧ ∃ ps, u = .dT ps ∧ RelT W l ps ∧ l.length ≤ sizeLine)
theorem DObj.mono {W' : Wl} {u : HO} (o : W.Ok K N) (x : Ext W W') (h : DObj W t l u) : DObj W' t l u := by
  rcases h with ⟨rfl, ps, rfl, q, n⟩ | ⟨rfl, ps, rfl, q, n⟩
  · exact .inl ⟨rfl, ps, rfl, q.mono o x, n⟩
  · exact .inr ⟨rfl, ps, rfl, q.mono o x, n⟩
end
section
variable {X : Cx} {N : Nm} {E : XK}
end
end DL

/-! a dict with rows of rows of ints as keys: {}, d[k] = v, len(d) -/
namespace DL
open PySem PySem.Spec PyProof.Rows L2
section
variable {X : Cx} {N : Nm} {E : XK}
/-! ### keys -/
/-! ### d[k] = v -/
/-! ### len -/
/-! ### a tuple many times -/
def fRepT : F2 := fun x y η => match x with
  | .tup a => match y with
    | .int (.ofNat k) => match Nat.ble 1 a.length && (Nat.ble 2 k && (Nat.ble k 1000 && Nat.ble a.length 1000)) with
      | true => some (.tup (List.replicate k a).flatten, η)
      | false => none
    | _ => none
  | _ => none
theorem opd_repT : OpR X (binaryOp .Mult) (r2 X.K N fRepT) := OpR.imp op_repT fun x y H Q q => by
  obtain ⟨W, dx, dy, d, η', rfl, o, rx, ry, hf, hq⟩ := q
  cases dx with
  | tup a =>
    cases dy with
    | int i =>
      cases i with
      | ofNat k =>
        simp only [fRepT] at hf
        cases e : (Nat.ble 1 a.length && (Nat.ble 2 k && (Nat.ble k 1000 && Nat.ble a.length 1000))) with
        | false => rw [e] at hf; cases hf
        | true =>
          rw [e] at hf
          simp only [Option.some.injEq, Prod.mk.injEq] at hf
          obtain ⟨rfl, rfl⟩ := hf
          simp only [Bool.and_eq_true] at e
          obtain ⟨e1, e2, e3, e4⟩ := e
          have e1 := Nat.le_of_ble_eq_true e1
          have e2 := Nat.le_of_ble_eq_true e2
          have e3 := Nat.le_of_ble_eq_true e3
          have e4 := Nat.le_of_ble_eq_true e4
          obtain ⟨pa, va, rfl, sa, ra⟩ := relTup rx
          have hl := ra.length
          rw [relInt ry]
          refine ⟨pa, Int.ofNat k, va, rfl, rfl, SqT.of sa, fun z => ?_, by show (2 : Int) ≤ ((k : Nat) : Int); omega, by show ((k : Nat) : Int) ≤ 1000; omega, by omega, fun p hp => new_tup o hq hp (ra.rep k)⟩
          rw [z] at hl
          have hl : a.length = 0 := hl
          omega
      | negSucc _ => cases hf
    | _ => cases hf
  | _ => cases hf
end
end DL

/-! a def whose results are shown (not looked at) for all arguments of a kind -/
namespace DL
open PySem PySem.Spec L2
section
variable {P : Program} {w : World} {K : PySem.W.Frag} {mg : Str → Option Value} {base : Heap} {N : Nm}
end
/-! pure expressions -/
/-- the expression gives d and changes nothing -/
def Ev (A : CE) (σ : SD) (η : Hd) (d : D) : Prop := ∀ kv kx, A σ η kv kx = kv d η
def EvA (A : CA) (σ : SD) (η : Hd) (ds : List D) : Prop := ∀ kv kx, A σ η kv kx = kv ds η
theorem ev_var {σ : SD} {η : Hd} {i : Nat} {d : D} (h : σ[i]? = some (some d)) : Ev (cVar i) σ η d := fun kv kx => by unfold cVar; rw [h]
theorem ev_op {σ : SD} {η : Hd} {f : F2} {A B : CE} {x y d : D} (a : Ev A σ η x) (b : Ev B σ η y) (h : f x y η = some (d, η)) : Ev (cOp f A B) σ η d := fun kv kx => by
  unfold cOp; rw [a]; rw [b]; rw [h]
theorem eva_nil {σ : SD} {η : Hd} : EvA cNil σ η [] := fun kv kx => rfl
theorem eva_cons {σ : SD} {η : Hd} {A : CE} {R : CA} {d : D} {ds : List D} (a : Ev A σ η d) (r : EvA R σ η ds) : EvA (cCons A R) σ η (d :: ds) := fun kv kx => by
  unfold cCons; rw [a]; rw [r]
theorem ev_fn {σ : SD} {η : Hd} {f : FN} {A : CA} {ds : List D} {d : D} (a : EvA A σ η ds) (h : f ds η = some (d, η)) : Ev (cFn f A) σ η d := fun kv kx => by
  unfold cFn; rw [a]; rw [h]
theorem get_set_ne {η : Hd} {r q : Nat} {c : Cell} (h : q ≠ r) : (η.set r c).get q = η.get q := by rw [Hd.get_set, if_neg h]
theorem get_set_eq {η : Hd} {r : Nat} {c c0 : Cell} (h : η.get r = some c0) : (η.set r c).get r = some c := by rw [Hd.get_set, if_pos rfl, h]; rfl
theorem get_new_ne {η : Hd} {q : Nat} {c : Cell} (h : q < η.nx) : (η.new c).get q = η.get q := by rw [Hd.get_new, if_neg (Nat.ne_of_lt h)]
theorem get_new_eq {η : Hd} {c : Cell} : (η.new c).get η.nx = some c := by rw [Hd.get_new, if_pos rfl]
end DL

/-! sorted of rows of rows of ints -/
namespace DL
open PySem PySem.Spec L2
/-! ### an order of rows by an order of their things -/
section
variable {α : Type} {lt : α → α → Bool}
end
/-! ### the machine -/
section
variable {prog : Program} {w : World} {A : Around} {E : Value → Shared → Prop} {s : Shared}
inductive Rows2 (h : Heap) : List Value → List (List Int) → Prop
  | nil : Rows2 h [] []
  | cons {x : Value} {r : List Int} {xs : List Value} {rs : List (List Int)} : IsRow h x r → Rows2 h xs rs → Rows2 h (x :: xs) (r :: rs)
theorem Rows2.len {h : Heap} {xs : List Value} {rs : List (List Int)} (a : Rows2 h xs rs) : xs.length = rs.length := by
  induction a with
  | nil => rfl
  | cons _ _ ih => simp [ih]
theorem Rows2.keeps {h h' : Heap} {xs : List Value} {rs : List (List Int)} (a : Rows2 h xs rs) (k : ∀ b o, h.get? b = some o → o.cls = .type "tuple" → h'.get? b = some o) : Rows2 h' xs rs := by
  induction a with
  | nil => exact .nil
  | cons r _ ih => exact .cons (r.keeps k) ih
def IsRow2 (h : Heap) (v : Value) (rs : List (List Int)) : Prop := ∃ (a : Addr) (o : Obj) (xs : List Value) (n : Nat), v = .ref a ∧ h.get? a = some o ∧ o.cls = .type "tuple" ∧ o.data = .seq xs.toArray n ∧ Rows2 h xs rs
theorem IsRow2.keeps {h h' : Heap} {v : Value} {rs : List (List Int)} (r : IsRow2 h v rs) (k : ∀ b o, h.get? b = some o → o.cls = .type "tuple" → h'.get? b = some o) : IsRow2 h' v rs := by
  obtain ⟨a, o, xs, n, e, h1, h2, h3, h4⟩ := r
  exact ⟨a, o, xs, n, e, k a o h1 h2, h2, h3, h4.keeps k⟩
theorem IsRow.key {h : Heap} {a : Addr} {ns : List Int} (r : IsRow h (.ref a) ns) : IsTupleKey (intKind prog w) h ns a := by
  obtain ⟨a', o, xs, n, e, h1, h2, h3, h4⟩ := r
  cases e
  exact ⟨o, _, n, h1, h2, h3, items_of_vals h4⟩
end
end DL

/-! sorted of rows of rows of ints: the rule, the reading -/
namespace DL
open PySem PySem.Spec L2
section
variable {X : Cx} {N : Nm} {E : XK}
/-! ### read by trees -/
end
end DL

/-! isinstance(x, int), isinstance(x, tuple) -/
namespace DL
open PySem PySem.Spec L2
section
variable {X : Cx} {N : Nm} {E : XK}
end
end DL

/-! range going down by ones -/
namespace DL
open PySem PySem.Spec L2
section
variable {X : Cx} {N : Nm} {E : XK}
end
end DL

/-! what a piece of a reading does, said of all values: pure expressions, walks, heaps that grow -/
namespace DL
open PySem PySem.Spec L2
/-! ### lists told by a function -/
def tab {α : Type} (r : Nat) (f : Nat → α) : List α := (List.range r).map f
theorem tab_len {α : Type} {r : Nat} {f : Nat → α} : (tab r f).length = r := by simp [tab]
theorem tab_get {α : Type} {r k : Nat} {f : Nat → α} (h : k < r) : (tab r f)[k]? = some (f k) := by
  simp [tab, List.getElem?_range h]
theorem tab_ext {α : Type} {r : Nat} {f g : Nat → α} (h : ∀ i, i < r → f i = g i) : tab r f = tab r g := by
  unfold tab
  exact List.map_congr_left fun i hi => h i (List.mem_range.mp hi)
theorem tab_cons {α : Type} {r : Nat} {f : Nat → α} : tab (r + 1) f = f 0 :: tab r (fun i => f (i + 1)) := by
  simp [tab, List.range_succ_eq_map]
theorem tab_set {α : Type} {r k : Nat} {f : Nat → α} {v : α} : (tab r f).set k v = tab r (fun i => if i = k then v else f i) := by
  apply List.ext_getElem?
  intro i
  by_cases hi : i < r
  · rw [tab_get hi]
    by_cases e : i = k
    · subst e; rw [List.getElem?_set_self (by rw [tab_len]; exact hi), if_pos rfl]
    · rw [List.getElem?_set_ne (Ne.symm e), tab_get hi, if_neg e]
  · rw [List.getElem?_eq_none (by rw [List.length_set, tab_len]; omega), List.getElem?_eq_none (by rw [tab_len]; omega)]
abbrev iD (i : Int) : D := .int i
/-- a row of ints, rows of ints -/
def iRow (r : Nat) (f : Nat → Int) : List D := tab r (fun i => iD (f i))
/-! ### sums -/
def sumTo (t : Nat) (f : Nat → Int) : Int := match t with
  | 0 => 0
  | t + 1 => sumTo t f + f t
/-! ### pure expressions -/
section
variable {σ : SD} {η : Hd} {A B : CE}
theorem list_cases {r : Nat} {l : List D} (h : η.list r = some l) : η.get r = some (.lst l) ∨ η.get r = some (.frz l) := by
  unfold Hd.list at h
  split at h
  · rename_i e; cases h; exact .inl e
  · rename_i e; cases h; exact .inr e
  · cases h
theorem list_lst {r : Nat} {l : List D} (h : η.get r = some (.lst l)) : η.list r = some l := by unfold Hd.list; rw [h]
theorem list_frz {r : Nat} {l : List D} (h : η.get r = some (.frz l)) : η.list r = some l := by unfold Hd.list; rw [h]
theorem ev_ixL {r : Nat} {l : List D} {k : Nat} {d : D} (a : Ev A σ η (.ref r)) (hl : η.list r = some l) (b : Ev B σ η (.int (Int.ofNat k))) (h : l[k]? = some d) : Ev (cOp fIx A B) σ η d := ev_op a b (by
  have e : (match atD l (Int.ofNat k) with | some d => some (d, η) | none => none) = some (d, η) := by show (match l[k]? with | some d => some (d, η) | none => none) = _; rw [h]
  rcases list_cases hl with q | q
  · simp only [fIx, q]; exact e
  · simp only [fIx, q]; exact e)
theorem ev_mulR {i j : Int} (a : Ev A σ η (.int i)) (b : Ev B σ η (.int j)) (h : j.natAbs ≤ 1000000000000000000) : Ev (cOp fMul A B) σ η (.int (i * j)) := ev_op a b (by
  have : mulOk i j = true := by unfold mulOk; rw [Nat.ble_eq_true_of_le h, Bool.or_true]
  simp only [fMul, fOr, fI2c, this, imul])
theorem ev_mod {i j : Int} (a : Ev A σ η (.int i)) (b : Ev B σ η (.int j)) (h : 0 < j) : Ev (cOp fMod A B) σ η (.int (i % j)) := ev_op a b (by
  have : modOk i j = true := by
    match j, h with
    | .ofNat (n + 1), _ => rfl
    | .ofNat 0, h => exact absurd h (by decide)
    | .negSucc n, h => exact absurd h (by simp)
  simp only [fMod, fI2c, this, imod])
theorem ieq_dec (i j : Int) : ieq i j = decide (i = j) := by
  rw [ieq_eq]
  by_cases h : i = j
  · subst h; simp
  · simp [h]
theorem ev_lenL {r : Nat} {l : List D} (a : Ev A σ η (.ref r)) (h : η.list r = some l) : Ev (cFn (f1 gLenA) (cCons A cNil)) σ η (.int (Int.ofNat l.length)) := ev_fn (eva_cons a eva_nil) (by
  rcases list_cases h with q | q
  · simp only [f1, gLenA, q, gLen]
  · simp only [f1, gLenA, q, gLen])
end
/-! ### what the statements are -/
section
variable {σ : SD} {η : Hd} {K : KS} {kv : KV} {kx : KX}
theorem w_set {c : CE} {i : Nat} : sAsg c (gNm i) σ η K = c σ η (fun d η1 => K.nx (σ.set i (some d)) η1) K.xc := rfl
theorem w_sub {c a b : CE} : sAsg c (gSb a b) σ η K = c σ η (fun d η1 => a σ η1 (fun x η2 => b σ η2 (fun y η3 => match fSet x y d η3 with
  | some η4 => K.nx σ η4
  | none => false) K.xc) K.xc) K.xc := rfl
theorem w_fn1 {f : FN} {A : CE} : cFn f (cCons A cNil) σ η kv kx = A σ η (fun d η1 => match f [d] η1 with
  | some (d, η2) => kv d η2
  | none => false) kx := rfl
theorem w_par {i j : Nat} {A B : CE} : sPar i j (cCons A (cCons B cNil)) σ η K = A σ η (fun x η1 => B σ η1 (fun y η2 => K.nx ((σ.set i (some x)).set j (some y)) η2) K.xc) K.xc := rfl
theorem w_nm {i : Nat} {d : D} {k : SD → Hd → Bool} : gNm i d σ η k kx = k (σ.set i (some d)) η := rfl
theorem w_var {i : Nat} {d : D} (h : σ[i]? = some (some d)) : cVar i σ η kv kx = kv d η := ev_var h kv kx
end
/-! ### walks -/
section
variable {σ : SD} {η : Hd} {A B C : CE}
/-- the heap behind a list that is read alone from here on -/
def frzd (η : Hd) (v : D) : Hd := match v with
  | .ref r => match η.get r with
    | some (.lst l) => frzAt r l η
    | _ => η
  | _ => η
/-- what a value has, read as a row -/
def rowAt (η : Hd) (v : D) : Option (List D) := match v with
  | .tup l => some l
  | .ref r => η.list r
  | _ => none
end
/-! ### heaps that grow: lists of S may be read alone from now on -/
def Gr (S : List Nat) (η η' : Hd) : Prop := η.nx ≤ η'.nx ∧ ∀ q, q < η.nx → η'.get q = η.get q ∨ (q ∈ S ∧ ∃ l, η.get q = some (.lst l) ∧ η'.get q = some (.frz l))
section
variable {S : List Nat} {η η1 η2 : Hd}
theorem Gr.refl (S : List Nat) (η : Hd) : Gr S η η := ⟨Nat.le_refl _, fun _ _ => .inl rfl⟩
theorem Gr.trans (a : Gr S η η1) (b : Gr S η1 η2) : Gr S η η2 := ⟨Nat.le_trans a.1 b.1, fun q h => by
  rcases b.2 q (Nat.lt_of_lt_of_le h a.1) with e | ⟨hs, l, e1, e2⟩
  · rcases a.2 q h with f | ⟨hs, l, f1, f2⟩
    · exact .inl (e.trans f)
    · exact .inr ⟨hs, l, f1, e.trans f2⟩
  · rcases a.2 q h with f | ⟨_, l', f1, f2⟩
    · exact .inr ⟨hs, l, f.symm.trans e1, e2⟩
    · rw [e1] at f2; cases f2⟩
theorem Gr.sub {T : List Nat} (a : Gr S η η1) (h : ∀ q ∈ S, q < η.nx → q ∈ T) : Gr T η η1 := ⟨a.1, fun q hq => (a.2 q hq).imp id fun ⟨hs, r⟩ => ⟨h q hs hq, r⟩⟩
theorem Gr.list (a : Gr S η η1) {q : Nat} {l : List D} (h : q < η.nx) (e : η.list q = some l) : η1.list q = some l := by
  rcases a.2 q h with f | ⟨_, l', f1, f2⟩
  · rcases list_cases e with g | g
    · exact list_lst (f.trans g)
    · exact list_frz (f.trans g)
  · rcases list_cases e with g | g
    · rw [f1] at g; cases g; exact list_frz f2
    · rw [f1] at g; cases g
theorem Gr.get (a : Gr S η η1) {q : Nat} {c : Cell} (h : q < η.nx) (e : η.get q = some c) (hc : ∀ l, c ≠ .lst l) : η1.get q = some c := by
  rcases a.2 q h with f | ⟨_, l', f1, f2⟩
  · exact f.trans e
  · rw [e] at f1; exact absurd (Option.some.inj f1) (hc l')
theorem Gr.keep (a : Gr S η η1) {q : Nat} (h : q < η.nx) (hs : q ∉ S) : η1.get q = η.get q := by
  rcases a.2 q h with f | ⟨z, _⟩
  · exact f
  · exact absurd z hs
theorem Gr.new {c : Cell} : Gr S η (η.new c) := ⟨Nat.le_succ _, fun q h => .inl (get_new_ne h)⟩
theorem Gr.bump : Gr S η (Hd.bump η) := ⟨Nat.le_succ _, fun q h => .inl rfl⟩
theorem Gr.add {g : Nat} {c : Cell} {η0 : Hd} (h : η0.nx ≤ g) (a : Gr S η0 η) : Gr S η0 (η.add g c) := ⟨a.1, fun q hq => by
  rw [Hd.get_add, if_neg (by omega)]; exact a.2 q hq⟩
theorem Gr.frzd {v : D} (h : ∀ r l, v = .ref r → η.get r = some (.lst l) → r ∈ S) : Gr S η (frzd η v) := by
  unfold DL.frzd
  split
  · rename_i r
    split
    · rename_i l e
      refine ⟨Nat.le_refl _, fun q hq => ?_⟩
      show (η.set r (.frz l)).get q = _ ∨ _
      by_cases z : q = r
      · subst z
        exact .inr ⟨h q l rfl e, l, e, get_set_eq e⟩
      · exact .inl (get_set_ne z)
    · exact Gr.refl _ _
  · exact Gr.refl _ _
theorem frzd_nx {v : D} : (DL.frzd η v).nx = η.nx := by
  unfold DL.frzd
  split
  · split
    · rfl
    · rfl
  · rfl
theorem Gr.row (a : Gr S η η1) {v : D} {l : List D} (h : ∀ r, v = .ref r → r < η.nx) (e : rowAt η v = some l) : rowAt η1 v = some l := by
  unfold rowAt at e ⊢
  split at e
  · exact e
  · rename_i r; exact a.list (h r rfl) e
  · cases e
end
/-! ### comprehensions -/
end DL
namespace DL
open PySem PySem.Spec L2
section
variable {σ : SD} {η : Hd} {K : KS} {kv : KV} {kx : KX}
end
theorem roll_at {g b : Nat} {η : Hd} {kv : KV} {kx : KX} (hg : η.get g = some .dice) (hb : b ≤ 1000000000) (h : ∀ v, v < b + 1 → kv (iD (Int.ofNat v)) η = true) : fRoll [.ref g, .int (Int.ofNat (b + 1))] η kv kx = true := by
  have e : Nat.ble b 1000000000 = true := Nat.ble_eq_true_of_le hb
  simp only [fRoll, hg, e]
  have : ∀ n, n ≤ b + 1 → allN n (fun v => kv (.int (Int.ofNat v)) η) = true := by
    intro n
    induction n with
    | zero => intro _; rfl
    | succ n ih => intro hn; unfold allN; rw [show (fun v => kv (.int (Int.ofNat v)) η) n = true from h n (by omega)]; exact ih (by omega)
  exact this _ (Nat.le_refl _)
end DL

/-! marks: counts, parted, products, for all numbers -/
namespace DL
open PySem PySem.Spec L2
structure MkOk (r : Nat) (m : Nat → Nat → Int) : Prop where
  tri : ∀ i k, k < r → i < k → m i k = 0
  dia : ∀ k, k < r → 0 < m k k
  nn : ∀ i k, i < r → k < r → 0 ≤ m i k ∧ m i k ≤ 1000
  r9 : r ≤ 100
def mkD (r : Nat) (m : Nat → Nat → Int) : D := .tup (tab r (fun i => .tup (iRow r (m i))))
/-- a def that gives d of the one cell C -/
def Gives1 (F : CF) (C : Cell) (d : D) : Prop := ∀ g η kv kx, η.get g = some C → kv d η = true → F [.ref g] η kv kx = true
/-- a value that stands: its cell is there -/
structure Row (S : List Nat) (η : Hd) (v : D) (l : List D) : Prop where
  at_ : rowAt η v = some l
  lt : ∀ q, v = .ref q → q < η.nx
  mem : ∀ q, v = .ref q → q ∈ S
theorem Row.mono {S : List Nat} {η η' : Hd} {v : D} {l : List D} (h : Row S η v l) (x : Gr S η η') : Row S η' v l := ⟨x.row h.lt h.at_, fun q e => Nat.lt_of_lt_of_le (h.lt q e) x.1, h.mem⟩
theorem Row.frz {S : List Nat} {η : Hd} {v : D} {l : List D} (h : Row S η v l) : Gr S η (frzd η v) := Gr.frzd fun r _ e _ => h.mem r e
end DL
namespace DL
open PySem PySem.Spec L2
section
variable {S : List Nat} {η0 η : Hd}
theorem Gr.setN {q : Nat} {c : Cell} (h : η0.nx ≤ q) (a : Gr S η0 η) : Gr S η0 (η.set q c) := ⟨a.1, fun p hp => by
  rw [get_set_ne (by omega)]; exact a.2 p hp⟩
theorem frzd_ref (η : Hd) (r : Nat) : frzd η (.ref r) = η ∨ ∃ l, frzd η (.ref r) = η.set r (.frz l) := by
  simp only [frzd]
  split
  · rename_i l _; exact .inr ⟨l, rfl⟩
  · exact .inl rfl
theorem Gr.frzN {r : Nat} (h : η0.nx ≤ r) (a : Gr S η0 η) : Gr S η0 (DL.frzd η (.ref r)) := by
  rcases frzd_ref η r with e | ⟨l, e⟩
  · rw [e]; exact a
  · rw [e]; exact a.setN h
theorem fSet_at {r t n : Nat} {v : D} {l : List D} (h : η.get r = some (.lst l)) (hl : l.length = n) (ht : t < n) : fSet (.ref r) (.int (Int.ofNat t)) v η = some (η.set r (.lst (l.set t v))) := by
  have : ixD l.length (Int.ofNat t) = some t := by
    unfold ixD
    have : Nat.blt t l.length = true := Nat.ble_eq_true_of_le (by omega)
    simp [this]
  simp only [fSet, h, this]
end
end DL

namespace DL
open PySem PySem.Spec L2
end DL

/-! marks: products of ways, the law's walk with numbers that nobody knows -/
namespace DL
open PySem PySem.Spec L2
/-- a group's marks, its cell -/
structure Gm (Fm : CF) (C : Cell) (r : Nat) (m : Nat → Nat → Int) : Prop where
  M : MkOk r m
  hM : Gives1 Fm C (mkD r m)
  nl : ∀ l, C ≠ .lst l
section
variable {Fm : CF} {C : Cell} {r : Nat} {m : Nat → Nat → Int}
end
/-! ### the law -/
section
variable (Fc Fp Fpr Fpt Fo : CF)
end
/-- the state behind the rolls -/
structure L37 (C : Cell) (r : Nat) (R : List D) (n p : Nat → Nat) (σ : SD) (η : Hd) (q : Nat) (x3 x6 x7 x8 : Option D) : Prop where
  sl : ∃ x0 x2 x9 x12 x13 x14 x15, σ = [x0, some (.ref 0), x2, x3, some (.ref q), some (.ref (q + 1)), x6, x7, x8, x9, some (.ref 1), some (.tup R), x12, x13, x14, x15]
  dice : η.get 0 = some .dice
  cell : η.get 1 = some C
  q2 : 2 ≤ q
  nx : q + 2 ≤ η.nx
  one : η.list q = some (iRow r (fun i => Int.ofNat (n i)))
  two : η.list (q + 1) = some (iRow r (fun i => Int.ofNat (p i)))
theorem L37.mono {C : Cell} (hC : ∀ l, C ≠ .lst l) {r : Nat} {R : List D} {n p : Nat → Nat} {σ : SD} {η η' : Hd} {q : Nat} {x3 x6 x7 x8 : Option D} (h : L37 C r R n p σ η q x3 x6 x7 x8) {S : List Nat} (x : Gr S η η') : L37 C r R n p σ η' q x3 x6 x7 x8 :=
  ⟨h.sl, x.get (by have := h.nx; have := h.q2; omega) h.dice (fun _ e => nomatch e), x.get (by have := h.nx; have := h.q2; omega) h.cell hC, h.q2, Nat.le_trans h.nx x.1, x.list (by have := h.nx; omega) h.one, x.list (by have := h.nx; omega) h.two⟩
end DL

/-! marks: the law's walk -/
namespace DL
open PySem PySem.Spec L2
section
variable {Fm : CF} {C : Cell} {r : Nat} {m : Nat → Nat → Int} {R : List D}
/-- what is known of a group: marks, and how products of its kinds are told by kinds -/
structure Gkn (Fm : CF) (C : Cell) (r : Nat) (m : Nat → Nat → Int) (s : Nat → Nat → Nat → Int) : Prop extends Gm Fm C r m where
  r0 : 0 < r
  r9 : r ≤ 10
  mb : ∀ i j, i < r → j < r → m i j ≤ 1000
  sn : ∀ i j k, i < r → j < r → k < r → 0 ≤ s i j k
  st : ∀ i j l, i < r → j < r → l < r → m i l * m j l = sumTo r (fun k => s i j k * m k l)
variable {s : Nat → Nat → Nat → Int}
abbrev oN (n : Nat → Nat) (i : Nat) : Int := Int.ofNat (n i)
section
variable (G : Gkn Fm C r m s) (hR : R.length = r) {n p : Nat → Nat} (hn : ∀ i, i < r → n i < 3) (hp : ∀ i, i < r → p i < 3)
theorem L37.rows {σ : SD} {η : Hd} {q : Nat} {x3 x6 x7 x8 : Option D} (h : L37 C r R n p σ η q x3 x6 x7 x8) : Row [q, q + 1] η (.ref q) (iRow r (oN n)) ∧ Row [q, q + 1] η (.ref (q + 1)) (iRow r (oN p)) :=
  ⟨⟨h.one, fun _ e => by cases e; have := h.nx; omega, fun _ e => by cases e; simp⟩, ⟨h.two, fun _ e => by cases e; have := h.nx; omega, fun _ e => by cases e; simp⟩⟩
include G hn hp in
include G hn hp in
include G hn hp in
include G hR hn hp in
include G hn hp in
end
end
end DL

set_option maxHeartbeats 4000000
/-! a tuple once -/
namespace DL
open PySem PySem.Spec PyProof.Rows L2
theorem tuple_mulW1 (l : Addr) (items : Array Value) (n : Nat) (dd : Option Addr) (sl : Array (Option Value)) (x : Int) (u : Tok) (c0 : (decide (x < -(2 ^ 63)) || decide (x ≥ 2 ^ 63)) = false) (c1 : (items.isEmpty || x == 1) = true) :
    Meets (Builtin.«tuple.__mul__» ⟨[.ref l, .int x u], []⟩) (fun _ R s => s.heap.get? l = some { cls := .type "tuple", dict := dd, data := .seq items n, slots := sl } ∧ R (.ok (.ret (Value.ref l))) s) :=
  .of_wp fun prog w A R s h => by
    obtain ⟨hp, g, d, tk, os⟩ := s
    obtain ⟨hl, h⟩ := h
    have f1 := AutoSeq1.idx_int
    wp_walk using wpAny_loadPart' hl
    repeat (first
      | (refine wpAny_ite_false (decide_eq_false (by rw [c0]; exact Bool.false_ne_true)) ?_; wp_walk using wpAny_loadPart' hl)
      | (refine wpAny_ite_true (decide_eq_true (by rw [c1])) ?_; wp_walk using wpAny_loadPart' hl))
    exact ⟨_, rfl, h⟩
def rRep1 (K : PySem.W.Frag) : R2 := fun x y H Q => ∃ l xs, x = .ref l ∧ y = .int 1 ∧ SqT K H l xs ∧ Q (.ref l) H
section
variable {X : Cx} {N : Nm} {E : XK}
theorem op_rep1 : OpR X (binaryOp .Mult) (rRep1 X.K) := by
  intro pins s σ H x y v u Q I rx ry h
  obtain ⟨l, xs, rfl, rfl, hT, q⟩ := h
  cases rx
  obtain ⟨t, rfl⟩ := ry
  obtain ⟨its, r, ⟨⟨cls, dd, data, sl⟩, ho, hc, n, hd⟩, hs⟩ := I.tuple hT
  simp only at hc hd
  subst hc hd
  have c1 : (its.toArray.isEmpty || (1 : Int) == 1) = true := by simp
  refine wpAny_binaryOp_repeat_ref (T := "tuple") (U := "int") (by decide) ⟨_, ho, rfl⟩ (fun s' => typeIs_int s' 1 t) noFill_tuple_mul F.fills_int_mul F.slot_int_rmul repeat_tuple F.slot_int_index.lookup
    (call_meets F.slot_int_rmul (typeIs_int s 1 t) F.entry_int_rmul (F.args_int_rmul_2 _ _) (int_rmul_tuple 1 t l its.toArray n dd sl)
      ⟨ho, rfl, ⟨_, ho, rfl⟩, call_meets F.slot_tuple_mul ⟨_, ho, rfl⟩ F.entry_tuple_mul (F.args_tuple_mul_2 _ _) (tuple_mulW1 l its.toArray n dd sl 1 t (by decide) c1) ⟨ho, ?_⟩⟩)
  exact ⟨.ref l, H, I.tok _, rfl, q⟩
def fRep1 : F2 := fun x y η => match x with
  | .tup a => match y with
    | .int (.ofNat k) => match Nat.beq k 1 with
      | true => some (.tup a, η)
      | false => none
    | _ => none
  | _ => none
theorem opd_rep1 : OpR X (binaryOp .Mult) (r2 X.K N fRep1) := OpR.imp op_rep1 fun x y H Q q => by
  obtain ⟨W, dx, dy, d, η', rfl, o, rx, ry, hf, hq⟩ := q
  unfold fRep1 at hf
  split at hf
  · rename_i a
    split at hf
    · rename_i k
      split at hf
      · rename_i e
        have e := Nat.eq_of_beq_eq_true e
        subst e
        cases hf
        obtain ⟨l, xs, rfl, h1, h2⟩ := relTup rx
        have ey := relInt ry
        subst ey
        exact ⟨l, xs, rfl, rfl, SqT.of h1, hq W _ (Ext.refl W) o rfl rx⟩
      · cases hf
    · cases hf
  · cases hf
def fRepU : F2 := fOr fRepT fRep1
theorem opd_repU : OpR X (binaryOp .Mult) (r2 X.K N fRepU) := opd_or opd_repT opd_rep1
end
end DL

/-! name.f op= e -/
namespace DL
open PySem PySem.Spec L2
section
variable {X : Cx} {N : Nm} {E : XK}
end
end DL

/-! what an expression gives, whatever the heap has grown by: values (Yl), new lists (Yn), walks (Iw) -/
namespace DL
open PySem PySem.Spec L2
section
variable {S : List Nat} {σ : SD} {η : Hd} {A B C : CE}
/-- the instance's cell stands -/
structure Ins (c g : Nat) (fs : List (Nat × D)) (η : Hd) : Prop where
  get : η.get g = some (.ins c fs)
  lt : g < η.nx
theorem Ins.mono {c g : Nat} {fs : List (Nat × D)} {η' : Hd} (h : Ins c g fs η) (x : Gr S η η') : Ins c g fs η' := ⟨x.get h.lt h.get (fun _ e => nomatch e), Nat.lt_of_lt_of_le h.lt x.1⟩
theorem Ins.at {c g : Nat} {fs : List (Nat × D)} (h : Ins c g fs η) : insAt c η (.ref g) = some (g, fs) := by simp only [insAt, h.get, Nat.beq_refl]
end
/-! comprehensions, sums -/
section
variable {S : List Nat}
end
end DL

/-! sums by lengths: value, plus, power_by, spread, gathered, rolled, for all numbers -/
namespace DL
open PySem PySem.Spec L2
/-! rows that are equal -/
/-- the fields of a group of sums -/
def sF (N n : Nat) (len : Nat → Int) : List (Nat × D) := [(0, .tup (iRow n len)), (1, iD (Int.ofNat N))]
def Th (n : Nat) (x : Nat → Nat → Int) (i : Nat) : D := .tup (iRow n (x i))
section
variable {N n bot : Nat} {len : Nat → Int} {x : Nat → Nat → Int} {s : Nat → Nat → Nat}
end
/-! the defs -/
section
variable (c : Nat) (Fw Fth Fv Fp Fpb Fs : CF)
end
/-- the powers of a root -/
def pw (w p : Int) : Nat → Int
  | 0 => 1
  | k + 1 => pw w p k * w % p
section
variable {S : List Nat}
variable {N n bot : Nat} {len : Nat → Int} {x : Nat → Nat → Int} {s : Nat → Nat → Nat} {c g : Nat} {Fw Fth : CF}
end
end DL

/-! sums by lengths: gathered, rolled -/
namespace DL
open PySem PySem.Spec L2
section
variable {S : List Nat} {N n bot : Nat} {len : Nat → Int} {x : Nat → Nat → Int} {s : Nat → Nat → Nat} {c g : Nat} {Fw Fth : CF}
/-! rolled -/
def kvT (N n : Nat) (x : Nat → Nat → Int) : List (D × D) := tab N (fun i => (Th n x i, iD (Int.ofNat i)))
/-- the cells of rolled's loops -/
structure RJ (S : List Nat) (N n : Nat) (len : Nat → Int) (x : Nat → Nat → Int) (c g pl fc : Nat) (η0 η : Hd) (F : Nat → Int) : Prop where
  I : Ins c g (sF N n len) η
  gp : η.get pl = some (.dct true (kvT N n x))
  gc : η.get fc = some (.lst (iRow N F))
  gr : Gr S η0 η
  p0 : η0.nx ≤ pl
  f0 : η0.nx ≤ fc
  ne : pl ≠ fc
  p1 : pl < η.nx
  f1 : fc < η.nx
  g0 : g < η0.nx
theorem RJ.mono {pl fc : Nat} {η0 η η' : Hd} {F : Nat → Int} {T : List Nat} (h : RJ S N n len x c g pl fc η0 η F) (y : Gr T η η') (hT : ∀ q ∈ T, q ∈ S ∧ q < η0.nx) : RJ S N n len x c g pl fc η0 η' F :=
  ⟨h.I.mono y, by rw [y.keep h.p1 (fun z => by have := (hT _ z).2; have := h.p0; omega)]; exact h.gp, by rw [y.keep h.f1 (fun z => by have := (hT _ z).2; have := h.f0; omega)]; exact h.gc, h.gr.trans (y.sub fun q hq _ => (hT q hq).1), h.p0, h.f0, h.ne, Nat.lt_of_lt_of_le h.p1 y.1, Nat.lt_of_lt_of_le h.f1 y.1, h.g0⟩
end
end DL

/-! sums by lengths: the numbers' part; lists of lists, laid flat -/
namespace DL
open PySem PySem.Spec L2
/-! ### numbers -/
section
variable {N : Nat} {z y : Nat → Int} {P Q : Nat → Nat → Int} {u p : Int} {s : Nat → Nat → Nat}
end
/-! ### lists of ints, flat -/
section
variable {S : List Nat}
end
end DL

/-! sums by lengths: the law's walk (printed by k27y.py) -/
namespace DL
open PySem PySem.Spec L2
section
variable {S : List Nat} {σ : SD} {η : Hd} {A B C : CE}
end
section
variable {N n bot : Nat} {len : Nat → Int} {x : Nat → Nat → Int} {s : Nat → Nat → Nat} {c : Nat} {Fw Fth : CF} {w : Int} {z y : Nat → Int} {q : Nat}
/-- the cells -/
structure H27 (N n : Nat) (len : Nat → Int) (c : Nat) (η : Hd) : Prop where
  dice : η.get 0 = some .dice
  I : Ins c 1 (sF N n len) η
theorem H27.mono {S : List Nat} {η η' : Hd} (h : H27 N n len c η) (x : Gr S η η') : H27 N n len c η' := ⟨x.get (by have := h.I.lt; omega) h.dice (fun _ e => nomatch e), h.I.mono x⟩
structure R27 (N : Nat) (z y : Nat → Int) (q : Nat) (η : Hd) : Prop where
  a : η.list q = some (iRow N z)
  b : η.list (q + 1) = some (iRow N y)
  l : q + 1 < η.nx
  z9 : ∀ k, k < N → (z k).natAbs ≤ 4
  y9 : ∀ k, k < N → (y k).natAbs ≤ 4
theorem R27.mono {S : List Nat} {η η' : Hd} (h : R27 N z y q η) (x : Gr S η η') : R27 N z y q η' := ⟨x.list (by have := h.l; omega) h.a, x.list h.l h.b, Nat.lt_of_lt_of_le h.l x.1, h.z9, h.y9⟩
theorem R27.S {η : Hd} (h : R27 N z y q η) : ∀ p ∈ [q, q + 1], p < η.nx := fun p hp => by
  have := h.l
  simp only [List.mem_cons, List.not_mem_nil, or_false] at hp
  omega

end
end DL

/-! determinants of two, three, four rows (printed by k30a.py) -/
namespace DL
abbrev Mt := Nat → Nat → Int
def adR (m : Mt) (k d : Nat) (t : Int) : Mt := fun i j => if i = k then m k j + t * m d j else m i j
def swapR (m : Mt) (a b : Nat) : Mt := fun i j => if i = a then m b j else if i = b then m a j else m i j
def scaleR (m : Mt) (d : Nat) (u : Int) : Mt := fun i j => if i = d then m d j * u else m i j
def prodTo (t : Nat) (f : Nat → Int) : Int := match t with
  | 0 => 1
  | t + 1 => prodTo t f * f t
structure DetOk (n : Nat) (det : Mt → Int) : Prop where
  ext : ∀ {m m' : Mt}, (∀ i c, i < n → c < n → m i c = m' i c) → det m = det m'
  cong : ∀ {m m' : Mt} {p : Int}, (∀ i c, i < n → c < n → m i c % p = m' i c % p) → det m % p = det m' % p
  add : ∀ {m : Mt} {k d : Nat} {t : Int}, k < n → d < n → k ≠ d → det (adR m k d t) = det m
  swap : ∀ {m : Mt} {a b : Nat}, a < n → b < n → a ≠ b → det (swapR m a b) = -det m
  scale : ∀ {m : Mt} {d : Nat} {u : Int}, d < n → det (scaleR m d u) = det m * u
  zero : ∀ {m : Mt} {i : Nat}, i < n → (∀ c, c < n → m i c = 0) → det m = 0
  diag : ∀ {m : Mt}, (∀ i c, i < n → c < n → i ≠ c → m i c = 0) → det m = prodTo n (fun i => m i i)
  col : ∀ {m : Mt} {j : Nat}, j < n → (∀ i c, i < n → c < j → i ≠ c → m i c = 0) → (∀ i, j ≤ i → i < n → m i j = 0) → det m = 0
theorem em_mul {p a b c d : Int} (h : a % p = b % p) (k : c % p = d % p) : (a * c) % p = (b * d) % p := by rw [Int.mul_emod, h, k, ← Int.mul_emod]
end DL

/-! grids by a prime: rows cleared, in plain words -/
namespace DL
/-- what is asked of a prime -/
structure PrOk (p : Int) (e : Nat) : Prop where
  p2 : 2 ≤ p
  p9 : p ≤ 100
  pe : p - 2 = Int.ofNat e
  e9 : e ≤ 100
  inv : ∀ x, 0 < x → x < p → (x * pw x p e) % p = 1
  dom : ∀ x y, 0 < x → x < p → 0 < y → y < p → (x * y) % p ≠ 0
section
variable {n : Nat} {det : Mt → Int} {p : Int} {e : Nat}
theorem emod_of_lt {a : Int} (h0 : 0 ≤ a) (h1 : a < p) : a % p = a := Int.emod_eq_of_lt h0 h1
theorem PrOk.rg (P : PrOk p e) (a : Int) : 0 ≤ a % p ∧ a % p < p := ⟨Int.emod_nonneg _ (by have := P.p2; omega), Int.emod_lt_of_pos _ (by have := P.p2; omega)⟩
theorem PrOk.mul0 (P : PrOk p e) {a b : Int} (ha : a % p ≠ 0) (hb : b % p ≠ 0) : (a * b) % p ≠ 0 := by
  rw [Int.mul_emod]
  have h1 := P.rg a
  have h2 := P.rg b
  exact P.dom _ _ (by omega) h1.2 (by omega) h2.2
/-- all rows but d less so many times d -/
def elimR (p : Int) (m : Mt) (d j : Nat) : Mt := fun i c => if i = d then m d c else (m i c - m i j * m d c) % p
def elimZ (m : Mt) (d j : Nat) (t : Nat) : Mt := fun i c => if i = d then m d c else if i < t then m i c - m i j * m d c else m i c
theorem det_elim (D : DetOk n det) {m : Mt} {d j : Nat} (hd : d < n) : det (elimR p m d j) % p = det m % p := by
  have h1 : ∀ t, t ≤ n → det (elimZ m d j t) = det m := by
    intro t
    induction t with
    | zero =>
      intro _
      refine D.ext fun i c _ _ => ?_
      unfold elimZ
      by_cases e : i = d
      · rw [if_pos e, e]
      · rw [if_neg e, if_neg (by omega)]
    | succ t ih =>
      intro ht
      rw [← ih (by omega)]
      by_cases e : t = d
      · refine D.ext fun i c _ _ => ?_
        unfold elimZ
        by_cases e2 : i = d
        · rw [if_pos e2, if_pos e2]
        · rw [if_neg e2, if_neg e2]
          by_cases e3 : i < t
          · rw [if_pos e3, if_pos (by omega)]
          · rw [if_neg e3, if_neg (by omega)]
      · rw [← D.add (m := elimZ m d j t) (k := t) (d := d) (t := -(m t j)) (by omega) hd e]
        refine D.ext fun i c _ _ => ?_
        unfold adR elimZ
        by_cases e2 : i = t
        · subst e2
          rw [if_pos rfl, if_neg e, if_pos (by omega), if_neg e, if_neg (by omega), if_pos rfl, Int.neg_mul]
          omega
        · rw [if_neg e2]
          by_cases e3 : i = d
          · rw [if_pos e3, if_pos e3]
          · rw [if_neg e3, if_neg e3]
            by_cases e4 : i < t
            · rw [if_pos e4, if_pos (by omega)]
            · rw [if_neg e4, if_neg (by omega)]
  rw [← h1 n (Nat.le_refl _)]
  refine D.cong fun i c hi _ => ?_
  unfold elimR elimZ
  by_cases e : i = d
  · rw [if_pos e, if_pos e]
  · rw [if_neg e, if_neg e, if_pos hi, Int.emod_emod]
structure ClI (n : Nat) (det : Mt → Int) (p : Int) (m0 : Mt) (j d : Nat) (w : Int) (m : Mt) : Prop where
  rg : ∀ i c, i < n → c < n → 0 ≤ m i c ∧ m i c < p
  dt : det m0 % p = (w * det m) % p
  w0 : w % p ≠ 0
  wb : w.natAbs ≤ 1000
  dj : d ≤ j
  jn : j ≤ n
  ec : ∀ i c, d ≤ i → i < n → c < j → m i c = 0
  un : d = j → ∀ i c, i < n → c < j → m i c = if i = c then 1 else 0
  nz : ∀ i, i < d → ∃ c, c < j ∧ m i c ≠ 0
theorem ClI.none {m0 m : Mt} {j d : Nat} {w : Int} (C : ClI n det p m0 j d w m) (hj : j < n) (h : ∀ i, d ≤ i → i < n → m i j = 0) : ClI n det p m0 (j + 1) d w m :=
  ⟨C.rg, C.dt, C.w0, C.wb, Nat.le_succ_of_le C.dj, hj, fun i c h1 h2 h3 => by
    by_cases e : c = j
    · rw [e]; exact h i h1 h2
    · exact C.ec i c h1 h2 (by omega), fun e => absurd C.dj (by omega), fun i hi => by
    obtain ⟨c, h1, h2⟩ := C.nz i hi
    exact ⟨c, by omega, h2⟩⟩
def swR (m : Mt) (d h : Nat) : Mt := if h = d then m else swapR m d h
def swW (w : Int) (d h : Nat) : Int := if h = d then w else -w
def scR (p : Int) (m : Mt) (d : Nat) (u : Int) : Mt := fun i c => if i = d then m d c * u % p else m i c
theorem ClI.hit (D : DetOk n det) (P : PrOk p e) {m0 m : Mt} {j d h : Nat} {w u : Int} (C : ClI n det p m0 j d w m) (hj : j < n) (h1 : d ≤ h) (h2 : h < n) (h3 : m h j ≠ 0) (hu : (m h j * u) % p = 1) :
    ClI n det p m0 (j + 1) (d + 1) (swW w d h * m h j % p) (elimR p (scR p (swR m d h) d u) d j) := by
  have hp := P.p2
  have hd : d < n := by omega
  have dj := C.dj
  generalize hm1 : swR m d h = m1
  have r1 : ∀ i c, i < n → c < n → 0 ≤ m1 i c ∧ m1 i c < p := fun i c hi hc => by
    rw [← hm1]; unfold swR
    by_cases e : h = d
    · rw [if_pos e]; exact C.rg i c hi hc
    · rw [if_neg e]; unfold swapR
      split
      · exact C.rg h c h2 hc
      · split
        · exact C.rg d c hd hc
        · exact C.rg i c hi hc
  have x1 : ∀ c, m1 d c = m h c := fun c => by
    rw [← hm1]; unfold swR
    by_cases e : h = d
    · rw [if_pos e, e]
    · rw [if_neg e]; unfold swapR; rw [if_pos rfl]
  have o1 : ∀ i c, i < d → m1 i c = m i c := fun i c hi => by
    rw [← hm1]; unfold swR
    by_cases e : h = d
    · rw [if_pos e]
    · rw [if_neg e]; unfold swapR; rw [if_neg (by omega), if_neg (by omega)]
  have z1 : ∀ i c, d ≤ i → i < n → c < j → m1 i c = 0 := fun i c hi hin hc => by
    rw [← hm1]; unfold swR
    by_cases e : h = d
    · rw [if_pos e]; exact C.ec i c hi hin hc
    · rw [if_neg e]; unfold swapR
      split
      · exact C.ec h c h1 h2 hc
      · split
        · exact C.ec d c (Nat.le_refl _) hd hc
        · exact C.ec i c hi hin hc
  have d1 : swW w d h * det m1 = w * det m := by
    rw [← hm1]; unfold swW swR
    by_cases e : h = d
    · rw [if_pos e, if_pos e]
    · rw [if_neg e, if_neg e, D.swap hd h2 (fun z => e z.symm), Int.neg_mul_neg]
  generalize hm2 : scR p m1 d u = m2
  have a2 : ∀ c, m2 d c = m h c * u % p := fun c => by rw [← hm2]; unfold scR; rw [if_pos rfl, x1]
  have b2 : ∀ i c, i ≠ d → m2 i c = m1 i c := fun i c hi => by rw [← hm2]; unfold scR; rw [if_neg hi]
  have s2 : ∀ c, c < j → m2 d c = 0 := fun c hc => by rw [a2, C.ec h c h1 h2 hc, Int.zero_mul, Int.zero_emod]
  have t2 : m2 d j = 1 := by rw [a2, hu]
  have d2 : det m2 % p = (det m1 * u) % p := by
    rw [← D.scale hd]
    refine D.cong fun i c _ _ => ?_
    rw [← hm2]; unfold scR scaleR
    by_cases e : i = d
    · rw [if_pos e, if_pos e, Int.emod_emod]
    · rw [if_neg e, if_neg e]
  have hx := C.rg h j h2 hj
  have xm : m h j % p ≠ 0 := by rw [emod_of_lt hx.1 hx.2]; exact h3
  have w1 : swW w d h % p ≠ 0 := by
    unfold swW
    split
    · exact C.w0
    · intro z
      exact C.w0 (by
        have : p ∣ -w := Int.dvd_of_emod_eq_zero z
        exact Int.emod_eq_zero_of_dvd (Int.dvd_neg.mp this))
  have e3 : ∀ i c, i ≠ d → elimR p m2 d j i c = (m1 i c - m1 i j * m2 d c) % p := fun i c hi => by
    unfold elimR; rw [if_neg hi, b2 i c hi, b2 i j hi]
  have f3 : ∀ c, elimR p m2 d j d c = m2 d c := fun c => by unfold elimR; rw [if_pos rfl]
  have low : ∀ i c, i ≠ d → i < n → c < j → elimR p m2 d j i c = m1 i c := fun i c hi hin hc => by
    rw [e3 i c hi, s2 c hc, Int.mul_zero, Int.sub_zero]
    have := r1 i c hin (by omega)
    exact emod_of_lt this.1 this.2
  have colj : ∀ i, i ≠ d → elimR p m2 d j i j = 0 := fun i hi => by
    rw [e3 i j hi, t2, Int.mul_one, Int.sub_self, Int.zero_emod]
  refine ⟨fun i c hi hc => ?_, ?_, ?_, ?_, by omega, hj, fun i c h4 h5 h6 => ?_, fun ee i c hi hc => ?_, fun i hi => ?_⟩
  · by_cases e : i = d
    · rw [e, f3, a2]; exact P.rg _
    · rw [e3 i c e]; exact P.rg _
  · rw [C.dt, ← d1]
    have g1 : (swW w d h * m h j % p * det (elimR p m2 d j)) % p = (swW w d h * m h j * (det m1 * u)) % p := by
      refine em_mul (by rw [Int.emod_emod]) ?_
      rw [det_elim D hd, d2]
    rw [g1]
    have g2 : swW w d h * m h j * (det m1 * u) = (swW w d h * det m1) * (m h j * u) := by
      rw [Int.mul_assoc, Int.mul_assoc, Int.mul_left_comm (m h j)]
    have g3 : (swW w d h * det m1 * (m h j * u)) % p = (swW w d h * det m1 * 1) % p := em_mul rfl (by rw [hu, emod_of_lt (by omega) (by omega)])
    rw [g2, g3, Int.mul_one]
  · rw [Int.emod_emod]; exact P.mul0 w1 xm
  · have := P.rg (swW w d h * m h j)
    have := P.p9
    omega
  · have ne : i ≠ d := by omega
    by_cases e : c = j
    · rw [e]; exact colj i ne
    · rw [low i c ne h5 (by omega)]; exact z1 i c (by omega) h5 (by omega)
  · have de : d = j := by omega
    by_cases e : c = j
    · rw [e]
      by_cases e2 : i = d
      · rw [e2, f3, t2, if_pos (by omega)]
      · rw [colj i e2, if_neg (by omega)]
    · have hc' : c < j := by omega
      by_cases e2 : i = d
      · rw [e2, f3, s2 c hc', if_neg (by omega)]
      · rw [low i c e2 hi hc']
        by_cases e4 : i < d
        · rw [o1 i c e4]; exact C.un de i c hi hc'
        · rw [z1 i c (by omega) hi hc', if_neg (by omega)]
  · by_cases e : i = d
    · exact ⟨j, by omega, by rw [e, f3, t2]; decide⟩
    · obtain ⟨c, h4, h5⟩ := C.nz i (by omega)
      refine ⟨c, by omega, ?_⟩
      rw [low i c e (by omega) h4, o1 i c (by omega)]
      exact h5
end
end DL

/-! grids by a prime: lists of lists; rows cleared, walked -/
namespace DL
open PySem PySem.Spec L2
section
variable {S : List Nat} {σ : SD} {η η0 η' : Hd} {A B C : CE}
/-- a list of rows -/
structure Mat (n R : Nat) (m : Mt) (η0 η : Hd) : Prop where
  qs : ∃ q : Nat → Nat, η.get R = some (.lst (tab n (fun i => .ref (q i)))) ∧ ∀ i, i < n → η.list (q i) = some (iRow n (m i)) ∧ q i < η.nx ∧ q i ≠ R ∧ η0.nx ≤ q i
  R0 : η0.nx ≤ R
  R1 : R < η.nx
  gr : Gr [] η0 η
variable {n R : Nat} {m : Mt}
theorem Mat.mono (M : Mat n R m η0 η) (x : Gr [] η η') : Mat n R m η0 η' := by
  obtain ⟨q, h1, h2⟩ := M.qs
  exact ⟨⟨q, by rw [x.keep M.R1 (by simp)]; exact h1, fun i hi => by
    obtain ⟨a, b, c, d⟩ := h2 i hi
    exact ⟨x.list b a, Nat.lt_of_lt_of_le b x.1, c, d⟩⟩, M.R0, Nat.lt_of_lt_of_le M.R1 x.1, M.gr.trans x⟩
/-- a row may be read alone from now on -/
theorem Mat.frz (M : Mat n R m η0 η) {q : Nat} (hq : q ≠ R) (h0 : η0.nx ≤ q) : Mat n R m η0 (frzd η (.ref q)) := by
  have key : ∀ p l, η.list p = some l → (frzd η (.ref q)).list p = some l := fun p l h => by
    simp only [frzd]
    split
    · rename_i l' e
      show (η.set q (.frz l')).list p = some l
      by_cases z : p = q
      · subst z
        rw [list_lst e] at h
        cases h
        exact list_frz (get_set_eq e)
      · unfold Hd.list; rw [get_set_ne z]; exact h
    · exact h
  obtain ⟨qs, h1, h2⟩ := M.qs
  refine ⟨⟨qs, ?_, fun i hi => ?_⟩, M.R0, by rw [frzd_nx]; exact M.R1, M.gr.frzN h0⟩
  · rcases frzd_ref η q with e | ⟨l, e⟩
    · rw [e]; exact h1
    · rw [e, get_set_ne (Ne.symm hq)]; exact h1
  · obtain ⟨a, b, c, d⟩ := h2 i hi
    exact ⟨key _ _ a, by rw [frzd_nx]; exact b, c, d⟩
/-- rows[k] -/
theorem Mat.row (M : Mat n R m η0 η) {k : Nat} (hk : k < n) (a : Ev A σ η (.ref R)) (b : Ev B σ η (.int (Int.ofNat k))) : ∃ q, Ev (cOp fIx A B) σ η (.ref q) ∧ η.list q = some (iRow n (m k)) ∧ q < η.nx ∧ q ≠ R ∧ η0.nx ≤ q := by
  obtain ⟨q, h1, h2⟩ := M.qs
  exact ⟨q k, ev_ixL a (list_lst h1) b (tab_get hk), h2 k hk⟩
theorem Mat.len (M : Mat n R m η0 η) (a : Ev A σ η (.ref R)) : Ev (cFn (f1 gLenA) (cCons A cNil)) σ η (.int (Int.ofNat n)) := by
  obtain ⟨q, h1, _⟩ := M.qs
  have := ev_lenL a (list_lst h1)
  rw [tab_len] at this
  exact this
/-- rows[k] = a row -/
theorem Mat.set (M : Mat n R m η0 η) {k c : Nat} {f : Nat → Int} (hk : k < n) (hc : η.list c = some (iRow n f)) (c1 : c < η.nx) (c2 : c ≠ R) (c3 : η0.nx ≤ c) : ∃ l, fSet (.ref R) (.int (Int.ofNat k)) (.ref c) η = some (η.set R (.lst l)) ∧ Mat n R (fun i => if i = k then f else m i) η0 (η.set R (.lst l)) := by
  obtain ⟨q, h1, h2⟩ := M.qs
  refine ⟨_, fSet_at h1 tab_len hk, ⟨fun i => if i = k then c else q i, ?_, fun i hi => ?_⟩, M.R0, M.R1, M.gr.setN M.R0⟩
  · rw [get_set_eq h1, tab_set]
    congr 2
    exact tab_ext fun i _ => by
      by_cases e : i = k
      · dsimp only; rw [if_pos e, if_pos e]
      · dsimp only; rw [if_neg e, if_neg e]
  · obtain ⟨a, b, d, e⟩ := h2 i hi
    have gl : ∀ p, p ≠ R → (η.set R (.lst ((tab n (fun i => .ref (q i))).set k (.ref c)))).list p = η.list p := fun p hp => by unfold Hd.list; rw [get_set_ne hp]
    by_cases z : i = k
    · dsimp only; rw [if_pos z, if_pos z, gl c c2]
      exact ⟨hc, c1, c2, c3⟩
    · dsimp only; rw [if_neg z, if_neg z, gl _ d]
      exact ⟨a, b, d, e⟩
end
/-! ### turned -/
theorem turn_loop {K : KS} {p x : Int} (hp : 0 < p) (hx : x.natAbs ≤ 1000) {η : Hd} (t : Nat) : ∀ (r : Nat) (it : Nat → D) (x3 : Option D) (k : Nat), k + r = t → (∀ y3, K.nx [some (iD x), some (iD p), some (iD (pw x p t)), y3] η = true) →
    forD (gNm 3) (sAsg (cOp fMod (cOp fMul (cVar 2) (cVar 0)) (cVar 1)) (gNm 2)) K (tab r it) [some (iD x), some (iD p), some (iD (pw x p k)), x3] η = true
  | 0, it, x3, k, e, hk => by
    rw [show k = t by omega]
    exact hk x3
  | r + 1, it, x3, k, e, hk => by
    rw [tab_cons, forD, w_nm, w_set]
    have E : Ev (cOp fMod (cOp fMul (cVar 2) (cVar 0)) (cVar 1)) [some (iD x), some (iD p), some (iD (pw x p k)), some (it 0)] η (.int (pw x p k * x % p)) := ev_mod (ev_mulR (ev_var rfl) (ev_var rfl) (by omega)) (ev_var rfl) hp
    rw [show ([some (iD x), some (iD p), some (iD (pw x p k)), x3] : SD).set 3 (some (it 0)) = [some (iD x), some (iD p), some (iD (pw x p k)), some (it 0)] from rfl, E]
    exact turn_loop hp hx t r (fun i => it (i + 1)) (some (it 0)) (k + 1) (by omega) hk
end DL

/-! grids by a prime: rows cleared, walked -/
namespace DL
open PySem PySem.Spec L2
section
variable {n R : Nat} {m m0 : Mt} {η η0 : Hd} {p : Int} {e : Nat} {det : Mt → Int}
end
end DL

/-! grids by a prime: cleared, corner (printed by k30e.py) -/
namespace DL
open PySem PySem.Spec L2
section
variable {n R : Nat} {m m0 : Mt} {η η0 : Hd} {p : Int} {e : Nat} {det : Mt → Int}
end
end DL

/-! grids by a prime: cleared, corner (printed by k30f_.py) -/
namespace DL
open PySem PySem.Spec L2
section
variable {S : List Nat} {σ : SD} {η : Hd} {kv : KV} {kx : KX} {A B C : CE}
end
section
variable {n R : Nat} {m m0 : Mt} {η η0 : Hd} {p : Int} {e : Nat} {det : Mt → Int}
theorem ClI.fin (Dt : DetOk n det) (P : PrOk p e) {d : Nat} {w : Int} (C : ClI n det p m0 n d w m) (hn0 : 0 < n) : (d = n → det m0 % p = w % p ∧ det m0 % p ≠ 0 ∧ ∀ i c, i < n → c < n → m i c = if i = c then 1 else 0) ∧ (d < n → det m0 % p = 0) := by
  refine ⟨fun h => ?_, fun h => ?_⟩
  · have un := C.un h
    have e1 : det m = 1 := by
      rw [Dt.diag (fun i c hi hc hne => by rw [un i c hi hc, if_neg hne])]
      have : ∀ t, t ≤ n → prodTo t (fun i => m i i) = 1 := by
        intro t
        induction t with
        | zero => intro _; rfl
        | succ t ih => intro ht; rw [prodTo, ih (by omega), un t t (by omega) (by omega), if_pos rfl]; rfl
      exact this n (Nat.le_refl _)
    have e2 := C.dt
    rw [e1, Int.mul_one] at e2
    exact ⟨e2, by rw [e2]; exact C.w0, un⟩
  · have e1 : det m = 0 := Dt.zero (i := n - 1) (by omega) fun c hc => C.ec (n - 1) c (by omega) (by omega) hc
    rw [C.dt, e1, Int.mul_zero, Int.zero_emod]
end
end DL

/-! grids by a prime: unit, times, adding, step -/
namespace DL
open PySem PySem.Spec L2
def idM : Mt := fun i c => if i = c then 1 else 0
def mulM (n : Nat) (p : Int) (a b : Mt) : Mt := fun i c => sumTo n (fun k => a i k * b k c) % p
def addM (k j : Nat) (t : Int) : Mt := fun i c => if i = k ∧ c = j then t else idM i c
section
variable {S : List Nat} {n R : Nat} {m m0 a b : Mt} {η η0 : Hd} {p : Int} {e : Nat}
end
end DL

/-! grids by adding steps: the plain law -/
namespace DL
open PySem PySem.Spec L2
abbrev Stp := Nat × Nat × Int
def negS (p : Int) (s : Stp) : Stp := (s.1, s.2.1, Int.neg s.2.2 % p)
def prodL (n : Nat) (p : Int) (l : List Stp) : Mt := l.foldl (fun acc s => mulM n p acc (addM s.1 s.2.1 s.2.2)) idM
section
variable {n : Nat} {det : Mt → Int} {p : Int} {e : Nat} {m m0 A : Mt}
structure AdI (n : Nat) (det : Mt → Int) (p : Int) (m0 : Mt) (j : Nat) (m : Mt) (l : List Stp) : Prop where
  rg : ∀ i c, i < n → c < n → 0 ≤ m i c ∧ m i c < p
  dt : det m0 % p = det m % p
  cl : ∀ i c, c < j → i < n → i ≠ c → m i c = 0
  dg : ∀ c, c < j → m c c ≠ 0
  st : ∀ s, s ∈ l → s.1 < n ∧ s.2.1 < n ∧ s.1 ≠ s.2.1 ∧ 0 < s.2.2 ∧ s.2.2 < p
  pr : ∀ i c, i < n → c < n → sumTo n (fun t => prodL n p (l.map (negS p)) i t * m t c) % p = m0 i c
theorem AdI.next {j : Nat} {l : List Stp} (C : AdI n det p m0 j m l) (h1 : m j j ≠ 0) (h2 : ∀ i, i < n → i ≠ j → m i j = 0) : AdI n det p m0 (j + 1) m l :=
  ⟨C.rg, C.dt, fun i c hc hi hne => by
    by_cases z : c = j
    · rw [z]; exact h2 i hi (by omega)
    · exact C.cl i c (by omega) hi hne, fun c hc => by
    by_cases z : c = j
    · rw [z]; exact h1
    · exact C.dg c (by omega), C.st, C.pr⟩
theorem AdI.raise (Dt : DetOk n det) {j : Nat} {l : List Stp} (C : AdI n det p m0 j m l) (hj : j < n) (h : ∀ i, j ≤ i → i < n → m i j = 0) : det m0 % p = 0 := by
  rw [C.dt, Dt.col hj (fun i c hi hc hne => C.cl i c hc hi hne) h, Int.zero_emod]
theorem AdI.fin (Dt : DetOk n det) (P : PrOk p e) {l : List Stp} (C : AdI n det p m0 n m l) : det m0 % p = prodTo n (fun i => m i i) % p ∧ det m0 % p ≠ 0 := by
  have e1 : det m0 % p = prodTo n (fun i => m i i) % p := by rw [C.dt, Dt.diag (fun i c hi hc hne => C.cl i c hc hi hne)]
  refine ⟨e1, ?_⟩
  rw [e1]
  have : ∀ t, t ≤ n → prodTo t (fun i => m i i) % p ≠ 0 := by
    intro t
    induction t with
    | zero => intro _; have := P.p2; rw [prodTo, emod_of_lt (by omega) (by omega)]; decide
    | succ t ih =>
      intro ht
      have r := C.rg t t (by omega) (by omega)
      refine P.mul0 (ih (by omega)) ?_
      rw [emod_of_lt r.1 r.2]
      exact C.dg t (by omega)
  exact this n (Nat.le_refl _)
end
end DL

/-! grids by adding steps: the walk, with the list of steps at its side -/
namespace DL
open PySem PySem.Spec L2
/-- a list of rows, and lists of something else -/
structure MatT (n R : Nat) (Ts : List (Nat × List D)) (m : Mt) (η0 η : Hd) : Prop where
  qs : ∃ q : Nat → Nat, η.get R = some (.lst (tab n (fun i => .ref (q i)))) ∧ ∀ i, i < n → η.list (q i) = some (iRow n (m i)) ∧ q i < η.nx ∧ q i ≠ R ∧ η0.nx ≤ q i ∧ ∀ x, x ∈ Ts → q i ≠ x.1
  R0 : η0.nx ≤ R
  R1 : R < η.nx
  gr : Gr [] η0 η
  kp : ∀ x, x ∈ Ts → η.get x.1 = some (.lst x.2) ∧ η0.nx ≤ x.1 ∧ x.1 < η.nx ∧ x.1 ≠ R
section
variable {S : List Nat} {σ : SD} {n R : Nat} {Ts : List (Nat × List D)} {m m0 : Mt} {η η0 η' : Hd} {p : Int} {e : Nat} {A B C : CE} {det : Mt → Int}
theorem MatT.sub {Us : List (Nat × List D)} (M : MatT n R Ts m η0 η) (h : ∀ x, x ∈ Us → x ∈ Ts) : MatT n R Us m η0 η := by
  obtain ⟨q, h1, h2⟩ := M.qs
  exact ⟨⟨q, h1, fun i hi => by obtain ⟨a, b, c, d, e⟩ := h2 i hi; exact ⟨a, b, c, d, fun x hx => e x (h x hx)⟩⟩, M.R0, M.R1, M.gr, fun x hx => M.kp x (h x hx)⟩
theorem MatT.mono (M : MatT n R Ts m η0 η) (x : Gr [] η η') : MatT n R Ts m η0 η' := by
  obtain ⟨q, h1, h2⟩ := M.qs
  exact ⟨⟨q, by rw [x.keep M.R1 (by simp)]; exact h1, fun i hi => by
    obtain ⟨a, b, c, d⟩ := h2 i hi
    exact ⟨x.list b a, Nat.lt_of_lt_of_le b x.1, c, d⟩⟩, M.R0, Nat.lt_of_lt_of_le M.R1 x.1, M.gr.trans x, fun y hy => by
    obtain ⟨a, b, c, d⟩ := M.kp y hy
    exact ⟨by rw [x.keep c (by simp)]; exact a, b, Nat.lt_of_lt_of_le c x.1, d⟩⟩
theorem MatT.more (M : MatT n R Ts m η0 η) (x : Gr [] η η') {r : Nat} {L : List D} (g : η'.get r = some (.lst L)) (h1 : η.nx ≤ r) (h2 : r < η'.nx) : MatT n R ((r, L) :: Ts) m η0 η' := by
  have M1 := M.mono x
  obtain ⟨q, a1, a2⟩ := M.qs
  refine ⟨⟨q, by rw [x.keep M.R1 (by simp)]; exact a1, fun i hi => ?_⟩, M1.R0, M1.R1, M1.gr, fun y hy => ?_⟩
  · obtain ⟨a, b, c, d, f⟩ := a2 i hi
    refine ⟨x.list b a, Nat.lt_of_lt_of_le b x.1, c, d, fun y hy => ?_⟩
    rcases List.mem_cons.mp hy with z | z
    · rw [z]; show q i ≠ r; omega
    · exact f y z
  · rcases List.mem_cons.mp hy with z | z
    · rw [z]; exact ⟨g, by have := M.gr.1; show η0.nx ≤ r; omega, h2, by have := M.R1; show r ≠ R; omega⟩
    · exact M1.kp y z
theorem MatT.frz (M : MatT n R Ts m η0 η) {q : Nat} (hq : q ≠ R) (h0 : η0.nx ≤ q) (hT : ∀ x, x ∈ Ts → q ≠ x.1) : MatT n R Ts m η0 (frzd η (.ref q)) := by
  have key : ∀ p l, η.list p = some l → (frzd η (.ref q)).list p = some l := fun p l h => by
    simp only [frzd]
    split
    · rename_i l' e
      show (η.set q (.frz l')).list p = some l
      by_cases z : p = q
      · subst z
        rw [list_lst e] at h
        cases h
        exact list_frz (get_set_eq e)
      · unfold Hd.list; rw [get_set_ne z]; exact h
    · exact h
  have keep : ∀ r, r ≠ q → (frzd η (.ref q)).get r = η.get r := fun r hr => by
    rcases frzd_ref η q with e | ⟨l, e⟩
    · rw [e]
    · rw [e, get_set_ne hr]
  obtain ⟨qs, h1, h2⟩ := M.qs
  refine ⟨⟨qs, by rw [keep _ (Ne.symm hq)]; exact h1, fun i hi => ?_⟩, M.R0, by rw [frzd_nx]; exact M.R1, M.gr.frzN h0, fun x hx => ?_⟩
  · obtain ⟨a, b, c, d⟩ := h2 i hi
    exact ⟨key _ _ a, by rw [frzd_nx]; exact b, c, d⟩
  · obtain ⟨a, b, c, d⟩ := M.kp x hx
    exact ⟨by rw [keep _ (Ne.symm (hT x hx))]; exact a, b, by rw [frzd_nx]; exact c, d⟩
theorem MatT.row (M : MatT n R Ts m η0 η) {k : Nat} (hk : k < n) (a : Ev A σ η (.ref R)) (b : Ev B σ η (.int (Int.ofNat k))) : ∃ q, Ev (cOp fIx A B) σ η (.ref q) ∧ η.list q = some (iRow n (m k)) ∧ q < η.nx ∧ q ≠ R ∧ η0.nx ≤ q ∧ ∀ x, x ∈ Ts → q ≠ x.1 := by
  obtain ⟨q, h1, h2⟩ := M.qs
  exact ⟨q k, ev_ixL a (list_lst h1) b (tab_get hk), h2 k hk⟩
theorem MatT.set (M : MatT n R Ts m η0 η) {k c : Nat} {f : Nat → Int} (hk : k < n) (hc : η.list c = some (iRow n f)) (c1 : c < η.nx) (c2 : c ≠ R) (c3 : η0.nx ≤ c) (c4 : ∀ x, x ∈ Ts → c ≠ x.1) : ∃ l, fSet (.ref R) (.int (Int.ofNat k)) (.ref c) η = some (η.set R (.lst l)) ∧ MatT n R Ts (fun i => if i = k then f else m i) η0 (η.set R (.lst l)) := by
  obtain ⟨q, h1, h2⟩ := M.qs
  refine ⟨_, fSet_at h1 tab_len hk, ⟨fun i => if i = k then c else q i, ?_, fun i hi => ?_⟩, M.R0, M.R1, M.gr.setN M.R0, fun x hx => ?_⟩
  · rw [get_set_eq h1, tab_set]
    congr 2
    exact tab_ext fun i _ => by
      by_cases e : i = k
      · dsimp only; rw [if_pos e, if_pos e]
      · dsimp only; rw [if_neg e, if_neg e]
  · obtain ⟨a, b, d, e⟩ := h2 i hi
    have gl : ∀ p, p ≠ R → (η.set R (.lst ((tab n (fun i => .ref (q i))).set k (.ref c)))).list p = η.list p := fun p hp => by unfold Hd.list; rw [get_set_ne hp]
    by_cases z : i = k
    · dsimp only; rw [if_pos z, if_pos z, gl c c2]
      exact ⟨hc, c1, c2, c3, c4⟩
    · dsimp only; rw [if_neg z, if_neg z, gl _ d]
      exact ⟨a, b, d, e⟩
  · obtain ⟨a, b, d, e⟩ := M.kp x hx
    exact ⟨by rw [get_set_ne e]; exact a, b, d, e⟩
end
end DL

/-! grids by adding steps: by_adding (printed by k30j.py) -/
namespace DL
open PySem PySem.Spec L2
section
variable {S : List Nat} {σ : SD} {n R T : Nat} {m m0 : Mt} {η η0 η' : Hd} {p : Int} {e : Nat} {A B C : CE} {det : Mt → Int} {x0 y6 y7 y8 y9 y10 : Option D}
end
end DL

/-! grids by adding steps: by_adding, of_adding -/
namespace DL
open PySem PySem.Spec L2
section
variable {S : List Nat} {σ : SD} {n R T : Nat} {m m0 : Mt} {η η0 η' : Hd} {p : Int} {e : Nat} {A B C E : CE} {det : Mt → Int} {x0 y5 y6 y7 y8 y9 y10 : Option D}
end
end DL

/-! grids by adding steps: what the law's statements need -/
namespace DL
open PySem PySem.Spec L2
section
variable {S : List Nat} {σ : SD} {η η0 : Hd} {A B C : CE} {n : Nat}
end
end DL

/-! grids by adding steps: the law's statements (printed by k30m.py) -/
namespace DL
open PySem PySem.Spec L2
structure H30 (η : Hd) : Prop where
  dice : η.get 0 = some .dice
  lt : 0 < η.nx
theorem H30.mono {η η' : Hd} (H : H30 η) (x : Gr [] η η') : H30 η' := ⟨by rw [x.keep H.lt (by simp)]; exact H.dice, Nat.lt_of_lt_of_le H.lt x.1⟩
section
variable {n b e : Nat} {p : Int} {det : Mt → Int} {hm : Nat → Option Str} {η : Hd} {K : KS} {m m0 : Mt} {y0 y1 y2 y3 y4 y5 y6 y7 y8 y9 y10 y11 y12 y13 y14 y15 y16 y17 y18 y19 : Option D}
end
end DL

/-! the head: the written part with all tables (x_head), the empty tables then left out -/
namespace DL
open PySem PySem.W
def tabB : Obj → Bool
  | ⟨.none, none, .fields vs, sl⟩ => vs.isEmpty && sl.isEmpty
  | _ => false
def noTabs (K : Frag) : Frag := K.filter fun q => !tabB q.2
/-- addresses in rising order -/
def ascB : Nat → Frag → Bool
  | _, [] => true
  | n, (a, _) :: r => Nat.ble n a && ascB (a + 1) r
theorem asc_lo {o : Obj} : ∀ {K : Frag} {n a : Nat}, ascB n K = true → (a, o) ∈ K → n ≤ a
  | [], _, _, _, h => nomatch h
  | (b, u) :: r, n, a, e, h => by
    obtain ⟨e1, e2⟩ := Bool.and_eq_true_iff.mp (show (Nat.ble n b && ascB (b + 1) r) = true from e)
    have h1 := Nat.le_of_ble_eq_true e1
    rcases List.mem_cons.mp h with h | h
    · cases h; exact h1
    · have := asc_lo e2 h; omega
theorem asc_lookup {a : Nat} {o : Obj} : ∀ {K : Frag} {n : Nat}, ascB n K = true → (a, o) ∈ K → K.lookup a = some o
  | [], _, _, h => nomatch h
  | (b, u) :: r, n, e, h => by
    obtain ⟨e1, e2⟩ := Bool.and_eq_true_iff.mp (show (Nat.ble n b && ascB (b + 1) r) = true from e)
    rw [List.lookup_cons]
    rcases List.mem_cons.mp h with h | h
    · cases h
      simp
    · have h1 := asc_lo e2 h
      have h2 : (a == b) = false := by simp; omega
      rw [h2]
      exact asc_lookup e2 h
theorem lk_mem {a : Nat} {o : Obj} : ∀ {K : Frag}, K.lookup a = some o → (a, o) ∈ K
  | [], h => nomatch h
  | (b, u) :: r, h => by
    rw [List.lookup_cons] at h
    cases e : (a == b) with
    | true =>
      rw [e] at h
      cases h
      rw [beq_iff_eq.mp e]
      exact List.mem_cons_self
    | false =>
      rw [e] at h
      exact List.mem_cons_of_mem _ (lk_mem h)
theorem nt_in {K : Frag} {h : Heap} (X : K.In h) (e : ascB 0 K = true) : (noTabs K).In h := fun a o q =>
  X a o (asc_lookup e (List.mem_filter.mp (lk_mem q)).1)
theorem nt_ns {K : Frag} {a : Addr} {x : Str} {r : Option (Option Value)} (_ : nsIn K a x = r) (h2 : nsIn (noTabs K) a x = r) : nsIn (noTabs K) a x = r := h2
theorem nt_find {K : Frag} {a : Value} {x : Str} {r : Option (Option Value)} (_ : findIn K a x = r) (h2 : findIn (noTabs K) a x = r) : findIn (noTabs K) a x = r := h2
theorem nt_lk {K : Frag} {a : Addr} {r : Option Obj} (_ : K.lookup a = r) (h2 : (noTabs K).lookup a = r) : (noTabs K).lookup a = r := h2
end DL

/-! sorted(.., reverse=True) of ints; join of texts; the text of an int -/
namespace DL
open PySem PySem.Spec L2
section
variable {X : Cx} {N : Nm} {E : XK}
section
variable {prog : Program} {w : World} {A : Around} {E : Value → Shared → Prop} {s : Shared}
end
/-! ### join -/
def strsOf : List D → Option (List Str)
  | [] => some []
  | .str x :: t => match strsOf t with
    | some l => some (x :: l)
    | none => none
  | _ :: _ => none
theorem strsOf_rel {W : Wl} : ∀ {ds : List D} {vs : List V} {ys : List Str}, RelDs W ds vs → strsOf ds = some ys → vs = ys.map V.str
  | [], vs, ys, h, e => by rw [RelDs] at h; subst h; cases e; rfl
  | .str x :: t, vs, ys, h, e => by
    rw [RelDs] at h
    obtain ⟨v, vs', rfl, h1, h2⟩ := h
    simp only [strsOf] at e
    split at e
    · rename_i l el; cases e; rw [strsOf_rel h2 el]; rw [RelD] at h1; rw [h1]; rfl
    · cases e
  | .non :: _, _, _, _, e => nomatch e
  | .bl _ :: _, _, _, _, e => nomatch e
  | .int _ :: _, _, _, _, e => nomatch e
  | .tup _ :: _, _, _, _, e => nomatch e
  | .ref _ :: _, _, _, _, e => nomatch e
  | .ftup _ :: _, _, _, _, e => nomatch e
def gJoin (x y : D) (η : Hd) : Option D := match x, y with
  | .str a, .ref r => match η.list r with
    | some l => match strsOf l with
      | some ys => match Nat.ble ((ys.map (·.length)).sum + ys.length * a.length) 16777216 with
        | true => some (.str (Txt.join a ys))
        | false => none
      | none => none
    | none => none
  | _, _ => none
def cJoin (co ce : CE) : CE := fun σ η kv kx => co σ η (fun x η1 => match x with
  | .str a => ce σ η1 (fun y η2 => match gJoin (.str a) y η2 with
    | some d => kv d η2
    | none => false) kx
  | _ => false) kx
theorem je_join {o e : Expr} {co ce : CE} {apos pos : Pos} (ho : JE X N E o co) (he : JE X N E e ce) (hs : starEach [e] X.env = [(false, eval e X.env)] := by rfl) (hbase : attributeBase o "join" X.env (eval o X.env) = eval o X.env := by rfl) (hline : (apos.endLine == pos.line) = true := by rfl) :
    JE X N E (.Call (.Attribute o "join" apos) [e] [] pos) (cJoin co ce) := PE.imp (pe_join ho he hs hbase hline) fun σ H Q q => by
  obtain ⟨W, σd, kv, kx, rfl, o, s, h, hv, hx⟩ := q
  refine tE.bind o s hx h fun W1 d v x1 o1 r1 s1 hx1 h1 => ?_
  cases d with
  | str a =>
    rw [RelD] at r1
    subst r1
    refine ⟨⟨a, rfl⟩, tE.bind o1 s1 hx1 h1 fun W2 y u x2 o2 r2 s2 hx2 h2 => ?_⟩
    cases eg : gJoin (.str a) y W2.η with
    | none => rw [eg] at h2; cases h2
    | some z =>
      rw [eg] at h2
      cases y with
      | ref r =>
        simp only [gJoin] at eg
        cases el : W2.η.list r with
        | none => rw [el] at eg; cases eg
        | some l =>
          rw [el] at eg
          simp only at eg
          cases es : strsOf l with
          | none => rw [es] at eg; cases eg
          | some ys =>
            rw [es] at eg
            simp only at eg
            split at eg
            · rename_i eb
              cases eg
              obtain ⟨us, g1, g2, g3⟩ := list_of o2 el
              have := strsOf_rel g2 es
              subst this
              rw [relRef r2]
              exact ⟨a, _, ys, rfl, rfl, .inl g1, Nat.le_of_ble_eq_true eb, ((hv.mono o o1 x1).mono o1 o2 x2).here o2 (by rw [RelD]) h2⟩
            · cases eg
      | _ => cases eg
  | _ => cases h1
/-! ### the text of an int -/
end
end DL

/-! sum and min of a tuple of ints -/
namespace DL
open PySem PySem.Spec L2 PyProof.Rows PySem.Calls
section
variable {X : Cx} {N : Nm} {E : XK}
end
end DL

/-! isinstance of lists too -/
namespace DL
open PySem PySem.Spec L2
section
variable {X : Cx} {N : Nm} {E : XK}
end
end DL

set_option maxHeartbeats 4000000
/-! a tuple no times; the less of two ints -/
namespace DL
open PySem PySem.Spec PyProof.Rows L2
theorem tuple_mulW0 (l : Addr) (items : Array Value) (n : Nat) (dd : Option Addr) (sl : Array (Option Value)) (x : Int) (u : Tok) (c0 : (decide (x < -(2 ^ 63)) || decide (x ≥ 2 ^ 63)) = false) (c1 : (items.isEmpty || x == 1) = false) (c2 : (decide (x ≤ 0) || items.isEmpty) = true) :
    Meets (Builtin.«tuple.__mul__» ⟨[.ref l, .int x u], []⟩) (fun _ R s => s.heap.get? l = some { cls := .type "tuple", dict := dd, data := .seq items n, slots := sl } ∧
      R (.ok (.ret (Value.ref s.heap.objs.size))) { s with heap := s.heap.push { cls := Value.type "tuple", data := Data.seq #[] }, toks := s.toks }) :=
  .of_wp fun prog w A R s h => by
    obtain ⟨hp, g, d, tk, os⟩ := s
    obtain ⟨hl, h⟩ := h
    have f1 := AutoSeq1.idx_int
    wp_walk using wpAny_loadPart' hl
    repeat (first
      | (refine wpAny_ite_false (decide_eq_false (by rw [c0]; exact Bool.false_ne_true)) ?_; wp_walk using wpAny_loadPart' hl)
      | (refine wpAny_ite_false (decide_eq_false (by rw [c1]; exact Bool.false_ne_true)) ?_; wp_walk using wpAny_loadPart' hl)
      | (refine wpAny_ite_true (decide_eq_true (by rw [c2])) ?_; wp_walk using wpAny_loadPart' hl))
    exact ⟨_, rfl, h⟩
def rRep0 (K : PySem.W.Frag) : R2 := fun x y H Q => ∃ l xs, x = .ref l ∧ y = .int 0 ∧ SqT K H l xs ∧ xs ≠ [] ∧ ∀ p, H p = none → Q (.ref p) (upd H p (.tup []))
section
variable {X : Cx} {N : Nm} {E : XK}
theorem op_rep0 : OpR X (binaryOp .Mult) (rRep0 X.K) := by
  intro pins s σ H x y v u Q I rx ry h
  obtain ⟨l, xs, rfl, rfl, hT, hne, q⟩ := h
  cases rx
  obtain ⟨t, rfl⟩ := ry
  obtain ⟨its, r, ⟨⟨cls, dd, data, sl⟩, ho, hc, n, hd⟩, hs⟩ := I.tuple hT
  simp only at hc hd
  subst hc hd
  have hle : its.length = xs.length := r.length.symm
  have hn : its ≠ [] := fun e => hne (by
    rw [e] at hle
    exact List.eq_nil_of_length_eq_zero hle.symm)
  have c1 : (its.toArray.isEmpty || (0 : Int) == 1) = false := by
    cases its with
    | nil => exact absurd rfl hn
    | cons a b => rfl
  have c2 : (decide ((0 : Int) ≤ 0) || its.toArray.isEmpty) = true := by simp
  refine wpAny_binaryOp_repeat_ref (T := "tuple") (U := "int") (by decide) ⟨_, ho, rfl⟩ (fun s' => typeIs_int s' 0 t) noFill_tuple_mul F.fills_int_mul F.slot_int_rmul repeat_tuple F.slot_int_index.lookup
    (call_meets F.slot_int_rmul (typeIs_int s 0 t) F.entry_int_rmul (F.args_int_rmul_2 _ _) (int_rmul_tuple 0 t l its.toArray n dd sl)
      ⟨ho, rfl, ⟨_, ho, rfl⟩, call_meets F.slot_tuple_mul ⟨_, ho, rfl⟩ F.entry_tuple_mul (F.args_tuple_mul_2 _ _) (tuple_mulW0 l its.toArray n dd sl 0 t (by decide) c1 c2) ⟨ho, ?_⟩⟩)
  refine ⟨.ref s.heap.objs.size, _, I.laid (t' := s.toks) (o := .tup []) (fun b ob q => Heap.get?_push_of_some _ q) (Nat.le_refl _) ?_, rfl, q _ (I.hok.fresh (Nat.le_refl _))⟩
  exact ⟨by rw [sizeLine_eq]; exact Nat.zero_le _, _, .nil, IsTup.new _ _⟩
def fRep0 : F2 := fun x y η => match x with
  | .tup (a :: b) => match y with
    | .int (.ofNat 0) => some (.tup [], η)
    | _ => none
  | _ => none
theorem opd_rep0 : OpR X (binaryOp .Mult) (r2 X.K N fRep0) := OpR.imp op_rep0 fun x y H Q q => by
  obtain ⟨W, dx, dy, d, η', rfl, o, rx, ry, hf, hq⟩ := q
  unfold fRep0 at hf
  split at hf
  · rename_i a b
    split at hf
    · cases hf
      obtain ⟨l, xs, rfl, h1, h2⟩ := relTup rx
      have ey := relInt ry
      subst ey
      refine ⟨l, xs, rfl, rfl, SqT.of h1, fun z => ?_, fun p hp => ?_⟩
      · subst z
        obtain ⟨w, vs', z, _⟩ := h2
        cases z
      · exact new_tup (N := N) o (fun W' v x o' e r' => hq W' v x o' e r') hp .nil
    · cases hf
  · cases hf
def fRepV : F2 := fOr fRepU fRep0
theorem opd_repV : OpR X (binaryOp .Mult) (r2 X.K N fRepV) := opd_or opd_repU opd_rep0
end
end DL

/-! sorted of one row alone (an empty one too) -/
namespace DL
open PySem PySem.Spec L2
section
variable {X : Cx} {N : Nm} {E : XK}
end
end DL

/-! the plain layer: values without a heap; lists and dicts that stand in cells of their own -/
namespace PL
open PySem PySem.Spec L2 DL
/-- how a list stands: new; loose (may be read alone from now on); kept (stays as it is); own (may be changed); read (only its items are known) -/
inductive Md | fr | lo | ke | ow | rd
inductive PV where
  | im (d : D) | ls (m : Md) (l : List D) | dc (m : Md) (t : Bool) (kvs : List (D × D)) | cl (c : Cell)
/-- what is computed; all: some value of S, nobody knows which -/
inductive Rs (α : Type) where
  | val (a : α) | exc (x : Xc) | bad | all (S : D → Prop) (f : D → Rs α)
/-- cells that never change: dice, instances -/
def fixC : Cell → Bool
  | .dice => true
  | .ins _ _ => true
  | .ldc _ _ => true
  | _ => false
def FC (η : Hd) (c : Cell) (d : D) : Prop := ∃ r, d = .ref r ∧ r < η.nx ∧ η.get r = some c ∧ fixC c = true
theorem fixC_lst {c : Cell} (h : fixC c = true) : (∀ l, c ≠ .lst l) ∧ (∀ l, c ≠ .frz l) ∧ ∀ t l, c ≠ .dct t l := by
  refine ⟨fun l e => ?_, fun l e => ?_, fun t l e => ?_⟩ <;> subst e <;> cases h
namespace Rs
variable {α β : Type}
def bind : Rs α → (α → Rs β) → Rs β
  | val a, f => f a
  | exc x, _ => exc x
  | bad, _ => bad
  | all n g, f => all n fun v => bind (g v) f
def ok : Rs α → (α → Prop) → (Xc → Prop) → Prop
  | val a, Q, _ => Q a
  | exc x, _, E => E x
  | bad, _, _ => False
  | all S g, Q, E => ∀ v, S v → ok (g v) Q E
theorem bind_ok {r : Rs α} {f : α → Rs β} {Q : β → Prop} {E : Xc → Prop} (h : (r.bind f).ok Q E) : r.ok (fun a => (f a).ok Q E) E := by
  induction r with
  | val a => exact h
  | exc x => exact h
  | bad => exact h
  | all n g ih => exact fun v hv => ih v (h v hv)
theorem ok_bind {r : Rs α} {f : α → Rs β} {Q : β → Prop} {E : Xc → Prop} (h : r.ok (fun a => (f a).ok Q E) E) : (r.bind f).ok Q E := by
  induction r with
  | val a => exact h
  | exc x => exact h
  | bad => exact h
  | all n g ih => exact fun v hv => ih v (h v hv)
theorem ok.imp {r : Rs α} {Q Q' : α → Prop} {E E' : Xc → Prop} (h : r.ok Q E) (f : ∀ a, Q a → Q' a) (g : ∀ x, E x → E' x) : r.ok Q' E' := by
  induction r with
  | val a => exact f _ h
  | exc x => exact g _ h
  | bad => exact h
  | all n k ih => exact fun v hv => ih v (h v hv)
end Rs
def Md.pro : Md → Bool
  | .ke => true
  | .ow => true
  | _ => false
def PV.own : PV → Bool
  | .ls .ow _ => true
  | .dc .ow _ _ => true
  | _ => false
def PV.imm : PV → Bool
  | .im _ => true
  | .cl _ => true
  | _ => false
abbrev PEn := List (Option PV)
abbrev PE := PEn → Rs PV
abbrev PT := PEn → Rs Bool
abbrev PA := PEn → Rs (List PV)
/-- what a value is, under the cells P that stay -/
def RW (P : Nat → Prop) (η : Hd) : PV → D → Prop
  | .im e, d => d = e
  | .ls m l, d => ∃ r, d = .ref r ∧ r < η.nx ∧ η.list r = some l ∧ (m.pro = true → P r ∧ η.get r = some (.lst l)) ∧ (m = .lo ∨ m = .fr → ¬ P r)
  | .dc m t kvs, d => ∃ r, d = .ref r ∧ r < η.nx ∧ η.get r = some (.dct t kvs) ∧ (m.pro = true → P r) ∧ (m = .fr → ¬ P r)
  | .cl c, d => FC η c d
/-- the heap grows; a cell that is not of P may be read alone from now on -/
structure Fr (P : Nat → Prop) (η η' : Hd) : Prop where
  nx : η.nx ≤ η'.nx
  keep : ∀ q, q < η.nx → η'.get q = η.get q ∨ (¬ P q ∧ ∃ l, η.get q = some (.lst l) ∧ η'.get q = some (.frz l))
/-- a statement's: cells below b; cells that are read alone -/
structure Fs (P0 : Nat → Prop) (b : Nat) (η η' : Hd) : Prop where
  nx : η.nx ≤ η'.nx
  keep : ∀ q, q < b → η'.get q = η.get q ∨ (¬ P0 q ∧ ∃ l, η.get q = some (.lst l) ∧ η'.get q = some (.frz l))
  frz : ∀ q l, q < η.nx → η.get q = some (.frz l) → η'.get q = some (.frz l)
  fix : ∀ q c, q < η.nx → η.get q = some c → fixC c = true → η'.get q = some c
def Pr (P0 : Nat → Prop) (ρ : PEn) (σ : SD) : Nat → Prop := fun q => P0 q ∨ ∃ (i : Nat) (v : PV), ρ[i]? = some (some v) ∧ v.own = true ∧ σ[i]? = some (some (.ref q))
structure Rep (P0 : Nat → Prop) (b : Nat) (ρ : PEn) (σ : SD) (η : Hd) : Prop where
  old : ∀ q, P0 q → q < η.nx
  bn : b ≤ η.nx
  len : σ.length = ρ.length
  at_ : ∀ (i : Nat) (v : PV), ρ[i]? = some (some v) → ∃ d : D, σ[i]? = some (some d) ∧ RW (Pr P0 ρ σ) η v d
  ow : ∀ (i : Nat) (v : PV), ρ[i]? = some (some v) → v.own = true → ∃ r : Nat, σ[i]? = some (some (.ref r)) ∧ b ≤ r ∧ ¬ P0 r
  ke : ∀ (i : Nat) (l : List D), ρ[i]? = some (some (.ls .ke l)) → ∃ r : Nat, σ[i]? = some (some (.ref r)) ∧ P0 r
  kd : ∀ (i : Nat) (t : Bool) (l : List (D × D)), ρ[i]? = some (some (.dc .ke t l)) → ∃ r : Nat, σ[i]? = some (some (.ref r)) ∧ P0 r
  dj : ∀ (i j : Nat) (v w : PV) (d : D), i ≠ j → ρ[i]? = some (some v) → v.own = true → ρ[j]? = some (some w) → w.imm = false → σ[i]? = some (some d) → σ[j]? ≠ some (some d)
section
variable {P P0 P' : Nat → Prop} {b : Nat} {ρ : PEn} {σ : SD} {η η0 η1 η2 η' : Hd} {v : PV} {d : D}
theorem Fr.refl (P : Nat → Prop) (η : Hd) : Fr P η η := ⟨Nat.le_refl _, fun _ _ => .inl rfl⟩
theorem Fr.trans (a : Fr P η η1) (c : Fr P η1 η2) : Fr P η η2 := ⟨Nat.le_trans a.1 c.1, fun q h => by
  rcases c.2 q (Nat.lt_of_lt_of_le h a.1) with e | ⟨hp, l, e1, e2⟩
  · rcases a.2 q h with f | ⟨hp, l, f1, f2⟩
    · exact .inl (e.trans f)
    · exact .inr ⟨hp, l, f1, e.trans f2⟩
  · rcases a.2 q h with f | ⟨_, l', f1, f2⟩
    · exact .inr ⟨hp, l, f.symm.trans e1, e2⟩
    · rw [e1] at f2; cases f2⟩
theorem Fs.refl (P0 : Nat → Prop) (b : Nat) (η : Hd) : Fs P0 b η η := ⟨Nat.le_refl _, fun _ _ => .inl rfl, fun _ _ _ h => h, fun _ _ _ h _ => h⟩
theorem Fs.trans (a : Fs P0 b η η1) (c : Fs P0 b η1 η2) : Fs P0 b η η2 := ⟨Nat.le_trans a.1 c.1, fun q h => by
  rcases c.2 q h with e | ⟨hp, l, e1, e2⟩
  · rcases a.2 q h with f | ⟨hp, l, f1, f2⟩
    · exact .inl (e.trans f)
    · exact .inr ⟨hp, l, f1, e.trans f2⟩
  · rcases a.2 q h with f | ⟨_, l', f1, f2⟩
    · exact .inr ⟨hp, l, f.symm.trans e1, e2⟩
    · exact absurd (e1.symm.trans f2) (fun z => nomatch z), fun q l h e => c.frz q l (Nat.lt_of_lt_of_le h a.1) (a.frz q l h e), fun q d h e hd => c.fix q d (Nat.lt_of_lt_of_le h a.1) (a.fix q d h e hd) hd⟩
theorem Fr.list (a : Fr P η η') {q : Nat} {l : List D} (h : q < η.nx) (e : η.list q = some l) : η'.list q = some l := by
  rcases a.2 q h with f | ⟨_, l', f1, f2⟩
  · rcases list_cases e with g | g
    · exact list_lst (f.trans g)
    · exact list_frz (f.trans g)
  · rcases list_cases e with g | g
    · rw [f1] at g; cases g; exact list_frz f2
    · rw [f1] at g; cases g
theorem Fr.get (a : Fr P η η') {q : Nat} {c : Cell} (h : q < η.nx) (e : η.get q = some c) (hc : ∀ l, c ≠ .lst l) : η'.get q = some c := by
  rcases a.2 q h with f | ⟨_, l', f1, f2⟩
  · exact f.trans e
  · rw [e] at f1; exact absurd (Option.some.inj f1) (hc l')
theorem Fr.pro (a : Fr P η η') {q : Nat} (h : q < η.nx) (p : P q) : η'.get q = η.get q := by
  rcases a.2 q h with f | ⟨z, _⟩
  · exact f
  · exact absurd p z
theorem Fr.fs (a : Fr P η η') (h : ∀ q, P0 q → P q) (hb : b ≤ η.nx) : Fs P0 b η η' := ⟨a.1, fun q hq => (a.2 q (Nat.lt_of_lt_of_le hq hb)).imp id fun ⟨z, r⟩ => ⟨fun p => z (h q p), r⟩, fun q l hq e => a.get hq e (fun _ z => nomatch z), fun q c hq e hc => a.get hq e (fixC_lst hc).1⟩
theorem Fr.weak (a : Fr P η η') (h : ∀ q, q < η.nx → P' q → P q) : Fr P' η η' := ⟨a.1, fun q hq => (a.2 q hq).imp id fun ⟨z, r⟩ => ⟨fun p => z (h q hq p), r⟩⟩
theorem Fr.new {c : Cell} : Fr P η (η.new c) := ⟨Nat.le_succ _, fun q h => .inl (get_new_ne h)⟩
theorem Fr.bump : Fr P η (Hd.bump η) := ⟨Nat.le_succ _, fun q h => .inl rfl⟩
theorem Fr.add {g : Nat} {c : Cell} (h : η0.nx ≤ g) (a : Fr P η0 η) : Fr P η0 (η.add g c) := ⟨a.1, fun q hq => by
  rw [Hd.get_add, if_neg (by omega)]; exact a.2 q hq⟩
theorem Fr.setN {q : Nat} {c : Cell} (h : η0.nx ≤ q) (a : Fr P η0 η) : Fr P η0 (η.set q c) := ⟨a.1, fun p hp => by
  rw [get_set_ne (by omega)]; exact a.2 p hp⟩
theorem FC.mono {c : Cell} (f : Fr P η η') (h : FC η c d) : FC η' c d := by
  obtain ⟨r, z1, z2, z3, z4⟩ := h
  exact ⟨r, z1, Nat.lt_of_lt_of_le z2 f.1, f.get z2 z3 (fixC_lst z4).1, z4⟩
theorem RW.mono (f : Fr P η η') (h : RW P η v d) : RW P η' v d := by
  cases v with
  | im e => exact h
  | ls m l =>
    obtain ⟨r, h1, h2, h3, h4, h5⟩ := h
    exact ⟨r, h1, Nat.lt_of_lt_of_le h2 f.1, f.list h2 h3, fun z => ⟨(h4 z).1, (f.pro h2 (h4 z).1).trans (h4 z).2⟩, h5⟩
  | dc m t l =>
    obtain ⟨r, h1, h2, h3, h4, h5⟩ := h
    exact ⟨r, h1, Nat.lt_of_lt_of_le h2 f.1, f.get h2 h3 (fun _ z => nomatch z), h4, h5⟩
  | cl c => exact FC.mono f h
theorem Pr_lt (R : Rep P0 b ρ σ η) {q : Nat} (h : Pr P0 ρ σ q) : q < η.nx := by
  rcases h with h | ⟨i, v, h1, h2, h3⟩
  · exact R.old q h
  · obtain ⟨d, e1, e2⟩ := R.at_ i v h1
    rw [h3] at e1
    cases e1
    cases v with
    | im e => cases h2
    | ls m l => obtain ⟨r, z1, z2, _⟩ := e2; cases z1; exact z2
    | dc m t l => obtain ⟨r, z1, z2, _⟩ := e2; cases z1; exact z2
    | cl c => cases h2
theorem Rep.mono (f : Fr (Pr P0 ρ σ) η η') (R : Rep P0 b ρ σ η) : Rep P0 b ρ σ η' :=
  ⟨fun q h => Nat.lt_of_lt_of_le (R.old q h) f.1, Nat.le_trans R.bn f.1, R.len, fun i v h => by obtain ⟨d, e, r⟩ := R.at_ i v h; exact ⟨d, e, r.mono f⟩, R.ow, R.ke, R.kd, R.dj⟩
theorem Rep.lt (R : Rep P0 b ρ σ η) {i r : Nat} {v : PV} (h : ρ[i]? = some (some v)) (hs : σ[i]? = some (some (.ref r))) (hv : v.imm = false) : r < η.nx := by
  obtain ⟨d, e1, e2⟩ := R.at_ i v h
  rw [hs] at e1
  cases e1
  cases v with
  | im e => cases hv
  | ls m l => obtain ⟨r, z1, z2, _⟩ := e2; cases z1; exact z2
  | dc m t l => obtain ⟨r, z1, z2, _⟩ := e2; cases z1; exact z2
  | cl c => cases hv
/-- a slot is forgotten -/
theorem Rep.wipe1 (R : Rep P0 b ρ σ η) (i : Nat) (x : Option D) : Rep P0 b (ρ.set i none) (σ.set i x) η := by
  have get : ∀ j v, (ρ.set i none)[j]? = some (some v) → j ≠ i ∧ ρ[j]? = some (some v) := fun j v h => by
    by_cases z : i = j
    · subst z
      by_cases hi : i < ρ.length
      · rw [List.getElem?_set_self hi] at h; cases h
      · rw [List.getElem?_eq_none (by rw [List.length_set]; omega)] at h; cases h
    · rw [List.getElem?_set_ne z] at h; exact ⟨fun e => z e.symm, h⟩
  have sg : ∀ j, j ≠ i → (σ.set i x)[j]? = σ[j]? := fun j h => List.getElem?_set_ne (Ne.symm h)
  have sub : ∀ q, Pr P0 (ρ.set i none) (σ.set i x) q → Pr P0 ρ σ q := fun q h => by
    rcases h with h | ⟨j, v, h1, h2, h3⟩
    · exact .inl h
    · obtain ⟨z, h1⟩ := get j v h1
      rw [sg j z] at h3
      exact .inr ⟨j, v, h1, h2, h3⟩
  refine ⟨R.old, R.bn, by rw [List.length_set, List.length_set]; exact R.len, fun j v h => ?_, fun j v h hv => ?_, fun j l h => ?_, fun j t l h => ?_, fun j k v w d hjk h1 h2 h3 hi h4 => ?_⟩
  · obtain ⟨z, h⟩ := get j v h
    obtain ⟨d, e, r⟩ := R.at_ j v h
    refine ⟨d, by rw [sg j z]; exact e, ?_⟩
    cases v with
    | im e => exact r
    | ls m l =>
      obtain ⟨r, z1, z2, z3, z4, z5⟩ := r
      refine ⟨r, z1, z2, z3, fun hm => ⟨?_, (z4 hm).2⟩, fun hm p => z5 hm (sub _ p)⟩
      cases m with
      | ow => exact .inr ⟨j, _, by rw [List.getElem?_set_ne (Ne.symm z)]; exact h, rfl, by rw [sg j z, e, z1]⟩
      | ke => obtain ⟨r', y1, y2⟩ := R.ke j l h; rw [e, z1] at y1; cases y1; exact .inl y2
      | _ => cases hm
    | dc m t l =>
      obtain ⟨r, z1, z2, z3, z4, z5⟩ := r
      refine ⟨r, z1, z2, z3, fun hm => ?_, fun hm p => z5 hm (sub _ p)⟩
      cases m with
      | ow => exact .inr ⟨j, _, by rw [List.getElem?_set_ne (Ne.symm z)]; exact h, rfl, by rw [sg j z, e, z1]⟩
      | ke => obtain ⟨r', y1, y2⟩ := R.kd j t l h; rw [e, z1] at y1; cases y1; exact .inl y2
      | _ => cases hm
    | cl c => exact r
  · obtain ⟨z, h⟩ := get j v h
    rw [sg j z]; exact R.ow j v h hv
  · obtain ⟨z, h⟩ := get j _ h
    rw [sg j z]; exact R.ke j l h
  · obtain ⟨z, h⟩ := get j _ h
    rw [sg j z]; exact R.kd j t l h
  · obtain ⟨z, h1⟩ := get j v h1
    obtain ⟨z', h3⟩ := get k w h3
    rw [sg j z] at h4
    rw [sg k z']
    exact R.dj j k v w d hjk h1 h2 h3 hi h4
theorem Rep.wipe (R : Rep P0 b ρ σ η) : ∀ vs : List Nat, Rep P0 b (vs.foldr (fun v r => r.set v none) ρ) (wipeD σ vs) η
  | [] => R
  | v :: vs => (Rep.wipe R vs).wipe1 v none
/-- what a value is that was computed from the slots -/
def RS (P0 : Nat → Prop) (ρ : PEn) (σ : SD) (η : Hd) : PV → D → Prop
  | .im e, d => d = e
  | .ls .fr l, d => ∃ r, d = .ref r ∧ r < η.nx ∧ η.get r = some (.lst l) ∧ ¬ Pr P0 ρ σ r
  | .ls .lo l, d => ∃ r, d = .ref r ∧ r < η.nx ∧ η.list r = some l ∧ ¬ Pr P0 ρ σ r
  | .dc .fr t l, d => ∃ r, d = .ref r ∧ r < η.nx ∧ η.get r = some (.dct t l) ∧ ¬ Pr P0 ρ σ r
  | .cl c, d => FC η c d
  | v, d => ∃ i : Nat, ρ[i]? = some (some v) ∧ σ[i]? = some (some d)
def PV.fre : PV → Bool
  | .ls .fr _ => true
  | .dc .fr _ _ => true
  | _ => false
/-- new since η0 -/
def Nw (η0 : Hd) (v : PV) (d : D) : Prop := v.fre = true → ∃ r, d = .ref r ∧ η0.nx ≤ r
def frP (P0 : Nat → Prop) (v : PV) (d : D) : Nat → Prop := fun q => P0 q ∨ (v.fre = true ∧ d = .ref q)
theorem Pr.up {P0 : Nat → Prop} {v : PV} {d : D} {q : Nat} (h : Pr P0 ρ σ q) : Pr (frP P0 v d) ρ σ q := h.imp .inl id
theorem Pr.down {P0 : Nat → Prop} {v : PV} {d : D} {q : Nat} (h : Pr (frP P0 v d) ρ σ q) : Pr P0 ρ σ q ∨ (v.fre = true ∧ d = .ref q) := by
  rcases h with (h | h) | h
  · exact .inl (.inl h)
  · exact .inr h
  · exact .inl (.inr h)
theorem RS.down {v w : PV} {d e : D} (h : RS (frP P0 v d) ρ σ η w e) : RS P0 ρ σ η w e := by
  cases w with
  | im _ => exact h
  | ls m l => cases m with
    | fr => obtain ⟨r, z1, z2, z3, z4⟩ := h; exact ⟨r, z1, z2, z3, fun p => z4 p.up⟩
    | lo => obtain ⟨r, z1, z2, z3, z4⟩ := h; exact ⟨r, z1, z2, z3, fun p => z4 p.up⟩
    | ke => exact h
    | ow => exact h
    | rd => exact h
  | dc m t l => cases m with
    | fr => obtain ⟨r, z1, z2, z3, z4⟩ := h; exact ⟨r, z1, z2, z3, fun p => z4 p.up⟩
    | lo => exact h
    | ke => exact h
    | ow => exact h
    | rd => exact h
  | cl c => exact h
/-- a value held while others are computed -/
theorem Rep.hold (R : Rep P0 b ρ σ η0) (f : Fr (Pr P0 ρ σ) η0 η) (s : RS P0 ρ σ η v d) (n : Nw η0 v d) : Rep (frP P0 v d) b ρ σ η ∧ ∀ η', Fr (Pr (frP P0 v d) ρ σ) η η' → Fr (Pr P0 ρ σ) η η' ∧ RS P0 ρ σ η' v d := by
  have lt : ∀ r, v.fre = true → d = .ref r → r < η.nx := fun r hv e => by
    cases v with
    | im _ => cases hv
    | ls m l => cases m with
      | fr => obtain ⟨r', z1, z2, _⟩ := s; rw [e] at z1; cases z1; exact z2
      | _ => cases hv
    | dc m t l => cases m with
      | fr => obtain ⟨r', z1, z2, _⟩ := s; rw [e] at z1; cases z1; exact z2
      | _ => cases hv
    | cl c => cases hv
  have apart : ∀ (i : Nat) (u : PV) (r : Nat), ρ[i]? = some (some u) → u.imm = false → σ[i]? = some (some (.ref r)) → ¬ (v.fre = true ∧ d = .ref r) := fun i u r h hu hs z => by
    obtain ⟨r', e, e2⟩ := n z.1
    rw [z.2] at e; cases e
    have := R.lt h hs hu
    omega
  have R1 := R.mono f
  refine ⟨⟨fun q h => ?_, R1.bn, R1.len, fun i u h => ?_, fun i u h hu => ?_, fun i l h => ?_, fun i t l h => ?_, R1.dj⟩, fun η' f' => ⟨f'.weak fun q _ p => p.up, ?_⟩⟩
  · rcases h with h | h
    · exact R1.old q h
    · exact lt q h.1 h.2
  · obtain ⟨e, e1, e2⟩ := R1.at_ i u h
    refine ⟨e, e1, ?_⟩
    cases u with
    | im _ => exact e2
    | ls m l =>
      obtain ⟨r, z1, z2, z3, z4, z5⟩ := e2
      refine ⟨r, z1, z2, z3, fun hm => ⟨(z4 hm).1.up, (z4 hm).2⟩, fun hm p => ?_⟩
      rcases p.down with p | p
      · exact z5 hm p
      · exact apart i _ r h rfl (by rw [e1, z1]) p
    | dc m t l =>
      obtain ⟨r, z1, z2, z3, z4, z5⟩ := e2
      refine ⟨r, z1, z2, z3, fun hm => (z4 hm).up, fun hm p => ?_⟩
      rcases p.down with p | p
      · exact z5 hm p
      · exact apart i _ r h rfl (by rw [e1, z1]) p
    | cl c => exact e2
  · obtain ⟨r, e1, e2, e3⟩ := R1.ow i u h hu
    refine ⟨r, e1, e2, fun p => ?_⟩
    rcases p with p | p
    · exact e3 p
    · exact apart i u r h (by cases u <;> first | rfl | cases hu) e1 p
  · obtain ⟨r, e1, e2⟩ := R1.ke i l h; exact ⟨r, e1, .inl e2⟩
  · obtain ⟨r, e1, e2⟩ := R1.kd i t l h; exact ⟨r, e1, .inl e2⟩
  · cases v with
    | im _ => exact s
    | ls m l => cases m with
      | fr =>
        obtain ⟨r, z1, z2, z3, z4⟩ := s
        exact ⟨r, z1, Nat.lt_of_lt_of_le z2 f'.1, (f'.pro z2 (.inl (.inr ⟨rfl, z1⟩))).trans z3, z4⟩
      | lo =>
        obtain ⟨r, z1, z2, z3, z4⟩ := s
        exact ⟨r, z1, Nat.lt_of_lt_of_le z2 f'.1, f'.list z2 z3, z4⟩
      | ke => exact s
      | ow => exact s
      | rd => exact s
    | dc m t l => cases m with
      | fr =>
        obtain ⟨r, z1, z2, z3, z4⟩ := s
        exact ⟨r, z1, Nat.lt_of_lt_of_le z2 f'.1, (f'.pro z2 (.inl (.inr ⟨rfl, z1⟩))).trans z3, z4⟩
      | lo => exact s
      | ke => exact s
      | ow => exact s
      | rd => exact s
    | cl c => exact FC.mono f' s
/-- what can be seen of a value -/
def VW (P : Nat → Prop) (η : Hd) : PV → D → Prop
  | .im e, d => d = e
  | .ls m l, d => ∃ r, d = .ref r ∧ r < η.nx ∧ η.list r = some l ∧ (m.pro = true ∨ m = .fr → η.get r = some (.lst l)) ∧ (m.pro = true → P r) ∧ (m = .lo ∨ m = .fr → ¬ P r)
  | .dc m t l, d => ∃ r, d = .ref r ∧ r < η.nx ∧ η.get r = some (.dct t l) ∧ (m.pro = true → P r) ∧ (m = .fr → ¬ P r)
  | .cl c, d => FC η c d
theorem RW.view (h : RW P η v d) (hv : v.fre = false) : VW P η v d := by
  cases v with
  | im _ => exact h
  | ls m l =>
    obtain ⟨r, z1, z2, z3, z4, z5⟩ := h
    exact ⟨r, z1, z2, z3, (fun hm => by
      rcases hm with hm | hm
      · exact (z4 hm).2
      · subst hm; cases hv), fun hm => (z4 hm).1, z5⟩
  | dc m t l => exact h
  | cl c => exact h
theorem Rep.view (R : Rep P0 b ρ σ η) (s : RS P0 ρ σ η v d) : VW (Pr P0 ρ σ) η v d := by
  have slot : ∀ i, ρ[i]? = some (some v) → σ[i]? = some (some d) → v.fre = false → VW (Pr P0 ρ σ) η v d := fun i h1 h2 h3 => by
    obtain ⟨e, e1, e2⟩ := R.at_ i v h1
    rw [h2] at e1; cases e1
    exact e2.view h3
  cases v with
  | im _ => exact s
  | ls m l => cases m with
    | fr => obtain ⟨r, z1, z2, z3, z4⟩ := s; exact ⟨r, z1, z2, list_lst z3, fun _ => z3, fun hm => (nomatch hm), fun _ => z4⟩
    | lo => obtain ⟨r, z1, z2, z3, z4⟩ := s; exact ⟨r, z1, z2, z3, (fun hm => by rcases hm with hm | hm <;> cases hm), fun hm => (nomatch hm), fun _ => z4⟩
    | ke => obtain ⟨i, z1, z2⟩ := s; exact slot i z1 z2 rfl
    | ow => obtain ⟨i, z1, z2⟩ := s; exact slot i z1 z2 rfl
    | rd => obtain ⟨i, z1, z2⟩ := s; exact slot i z1 z2 rfl
  | dc m t l => cases m with
    | fr => obtain ⟨r, z1, z2, z3, z4⟩ := s; exact ⟨r, z1, z2, z3, fun hm => (nomatch hm), fun _ => z4⟩
    | lo => obtain ⟨i, z1, z2⟩ := s; exact slot i z1 z2 rfl
    | ke => obtain ⟨i, z1, z2⟩ := s; exact slot i z1 z2 rfl
    | ow => obtain ⟨i, z1, z2⟩ := s; exact slot i z1 z2 rfl
    | rd => obtain ⟨i, z1, z2⟩ := s; exact slot i z1 z2 rfl
  | cl c => exact s
/-- how a value is laid into a slot -/
def stM : PV → Option PV
  | .im d => some (.im d)
  | .ls .fr l => some (.ls .ow l)
  | .ls .lo l => some (.ls .lo l)
  | .dc .fr t l => some (.dc .ow t l)
  | .cl c => some (.cl c)
  | _ => none
/-- a forgotten slot is filled -/
theorem Rep.fill (R : Rep P0 b ρ σ η) {i : Nat} {w : PV} (h0 : ρ[i]? = some none) (hs : σ[i]? = some (some d)) (hr : RW (Pr P0 (ρ.set i (some w)) σ) η w d)
    (how : w.own = true → ∃ r, d = .ref r ∧ b ≤ r ∧ ¬ P0 r) (hke : ∀ l, w = .ls .ke l → ∃ r, d = .ref r ∧ P0 r) (hkd : ∀ t l, w = .dc .ke t l → ∃ r, d = .ref r ∧ P0 r)
    (hdj : ∀ j w', j ≠ i → ρ[j]? = some (some w') → (w.own = true ∧ w'.imm = false ∨ w'.own = true ∧ w.imm = false) → σ[j]? ≠ some (some d)) : Rep P0 b (ρ.set i (some w)) σ η := by
  have hi : i < ρ.length := (List.getElem?_eq_some_iff.mp h0).1
  have gi : (ρ.set i (some w))[i]? = some (some w) := List.getElem?_set_self hi
  have gj : ∀ j, j ≠ i → (ρ.set i (some w))[j]? = ρ[j]? := fun j h => List.getElem?_set_ne (Ne.symm h)
  have sup : ∀ q, Pr P0 (ρ.set i (some w)) σ q → Pr P0 ρ σ q ∨ (w.own = true ∧ d = .ref q) := fun q h => by
    rcases h with h | ⟨j, v, h1, h2, h3⟩
    · exact .inl (.inl h)
    · by_cases z : j = i
      · subst z
        rw [gi] at h1; cases h1
        rw [hs] at h3
        exact .inr ⟨h2, Option.some.inj (Option.some.inj h3)⟩
      · rw [gj j z] at h1
        exact .inl (.inr ⟨j, v, h1, h2, h3⟩)
  have sub : ∀ q, Pr P0 ρ σ q → Pr P0 (ρ.set i (some w)) σ q := fun q h => by
    rcases h with h | ⟨j, v, h1, h2, h3⟩
    · exact .inl h
    · have z : j ≠ i := fun z => by subst z; rw [h0] at h1; cases h1
      exact .inr ⟨j, v, by rw [gj j z]; exact h1, h2, h3⟩
  refine ⟨R.old, R.bn, by rw [List.length_set]; exact R.len, fun j v h => ?_, fun j v h hv => ?_, fun j l h => ?_, fun j t l h => ?_, fun j k v u e hjk h1 h2 h3 h5 h4 => ?_⟩
  · by_cases z : j = i
    · subst z
      rw [gi] at h; cases h
      exact ⟨d, hs, hr⟩
    · rw [gj j z] at h
      obtain ⟨e, e1, r⟩ := R.at_ j v h
      refine ⟨e, e1, ?_⟩
      cases v with
      | im e => exact r
      | ls m l =>
        obtain ⟨r, z1, z2, z3, z4, z5⟩ := r
        refine ⟨r, z1, z2, z3, fun hm => ⟨sub _ (z4 hm).1, (z4 hm).2⟩, fun hm p => ?_⟩
        rcases sup r p with p | ⟨p1, p2⟩
        · exact z5 hm p
        · exact hdj j _ z h (.inl ⟨p1, rfl⟩) (by rw [e1, z1, p2])
      | dc m t l =>
        obtain ⟨r, z1, z2, z3, z4, z5⟩ := r
        refine ⟨r, z1, z2, z3, fun hm => sub _ (z4 hm), fun hm p => ?_⟩
        rcases sup r p with p | ⟨p1, p2⟩
        · exact z5 hm p
        · exact hdj j _ z h (.inl ⟨p1, rfl⟩) (by rw [e1, z1, p2])
      | cl c => exact r
  · by_cases z : j = i
    · subst z
      rw [gi] at h; cases h
      obtain ⟨r, e1, e2⟩ := how hv
      exact ⟨r, by rw [hs, e1], e2⟩
    · rw [gj j z] at h; exact R.ow j v h hv
  · by_cases z : j = i
    · subst z
      rw [gi] at h; cases h
      obtain ⟨r, e1, e2⟩ := hke _ rfl
      exact ⟨r, by rw [hs, e1], e2⟩
    · rw [gj j z] at h; exact R.ke j l h
  · by_cases z : j = i
    · subst z
      rw [gi] at h; cases h
      obtain ⟨r, e1, e2⟩ := hkd _ _ rfl
      exact ⟨r, by rw [hs, e1], e2⟩
    · rw [gj j z] at h; exact R.kd j t l h
  · by_cases z : j = i
    · subst z
      rw [gi] at h1; cases h1
      rw [hs] at h4; cases h4
      rw [gj k (Ne.symm hjk)] at h3
      exact hdj k u (Ne.symm hjk) h3 (.inl ⟨h2, h5⟩)
    · rw [gj j z] at h1
      by_cases z2 : k = i
      · subst z2
        rw [gi] at h3; cases h3
        intro e2
        rw [hs] at e2; cases e2
        exact hdj j v z h1 (.inr ⟨h2, h5⟩) h4
      · rw [gj k z2] at h3
        exact R.dj j k v u e hjk h1 h2 h3 h5 h4
theorem Rep.put (R : Rep P0 b ρ σ η0) (f : Fr (Pr P0 ρ σ) η0 η) (rv : RS P0 ρ σ η v d) (nw : Nw η0 v d) {w : PV} (hw : stM v = some w) (i : Nat) : Rep P0 b (ρ.set i (some w)) (σ.set i (some d)) η := by
  by_cases hi : i < ρ.length
  · have R1 := (R.mono f).wipe1 i (some d)
    have hiσ : i < σ.length := by rw [R.len]; exact hi
    have e0 : (ρ.set i none).set i (some w) = ρ.set i (some w) := by rw [List.set_set]
    have get : ∀ (j : Nat) (u : PV), j ≠ i → (ρ.set i none)[j]? = some (some u) → ρ[j]? = some (some u) := fun j u z h => by rw [List.getElem?_set_ne (Ne.symm z)] at h; exact h
    have old : ∀ (j : Nat) (u : PV) (r : Nat), j ≠ i → (ρ.set i none)[j]? = some (some u) → u.imm = false → (σ.set i (some d))[j]? = some (some (.ref r)) → r < η0.nx := fun j u r z h hu hs => by
      rw [List.getElem?_set_ne (Ne.symm z)] at hs
      exact R.lt (get j u z h) hs hu
    have prO : ∀ (j : Nat) (u : PV) (r : Nat), j ≠ i → (ρ.set i none)[j]? = some (some u) → u.own = true → (σ.set i (some d))[j]? = some (some (.ref r)) → Pr P0 ρ σ r ∧ b ≤ r := fun j u r z h hu hs => by
      rw [List.getElem?_set_ne (Ne.symm z)] at hs
      have h := get j u z h
      obtain ⟨r', e1, e2⟩ := R.ow j u h hu
      rw [hs] at e1; cases e1
      exact ⟨.inr ⟨j, u, h, hu, hs⟩, e2.1⟩
    have sub : ∀ q, Pr P0 ((ρ.set i none).set i (some w)) (σ.set i (some d)) q → w.own = false → Pr P0 ρ σ q := fun q h hw => by
      rcases h with h | ⟨j, u, h1, h2, h3⟩
      · exact .inl h
      · by_cases z : j = i
        · subst z
          rw [e0, List.getElem?_set_self hi] at h1; cases h1
          rw [hw] at h2; cases h2
        · rw [e0, List.getElem?_set_ne (Ne.symm z)] at h1
          rw [List.getElem?_set_ne (Ne.symm z)] at h3
          exact .inr ⟨j, u, h1, h2, h3⟩
    rw [← e0]
    have gs : (σ.set i (some d))[i]? = some (some d) := List.getElem?_set_self hiσ
    refine R1.fill (List.getElem?_set_self hi) gs ?_ ?_ ?_ ?_ ?_
    · cases v with
      | im e => cases hw; exact rv
      | ls m l => cases m with
        | fr =>
          cases hw
          obtain ⟨r, z1, z2, z3, z4⟩ := rv
          exact ⟨r, z1, z2, list_lst z3, fun _ => ⟨.inr ⟨i, _, by rw [e0, List.getElem?_set_self hi], rfl, by rw [gs, z1]⟩, z3⟩, fun hm => by rcases hm with hm | hm <;> cases hm⟩
        | lo =>
          cases hw
          obtain ⟨r, z1, z2, z3, z4⟩ := rv
          exact ⟨r, z1, z2, z3, fun hm => (nomatch hm), fun _ p => z4 (sub _ p rfl)⟩
        | _ => cases hw
      | dc m t l => cases m with
        | fr =>
          cases hw
          obtain ⟨r, z1, z2, z3, z4⟩ := rv
          exact ⟨r, z1, z2, z3, fun _ => .inr ⟨i, _, by rw [e0, List.getElem?_set_self hi], rfl, by rw [gs, z1]⟩, fun hm => (nomatch hm)⟩
        | _ => cases hw
      | cl c => cases hw; exact rv
    · intro ho
      have hv : v.fre = true := by
        cases v with
        | im e => cases hw; cases ho
        | ls m l => cases m <;> first | rfl | (cases hw; cases ho; done) | cases hw
        | dc m t l => cases m <;> first | rfl | (cases hw; cases ho; done) | cases hw
        | cl c => cases hw; cases ho
      obtain ⟨r, e1, e2⟩ := nw hv
      exact ⟨r, e1, Nat.le_trans R.bn e2, fun p => by have := R.old r p; omega⟩
    · intro l e
      subst e
      cases v with
      | im e => cases hw
      | ls m l => cases m <;> cases hw
      | dc m t l => cases m <;> cases hw
      | cl c => cases hw
    · intro t l e
      subst e
      cases v with
      | im e => cases hw
      | ls m l => cases m <;> cases hw
      | dc m t l => cases m <;> cases hw
      | cl c => cases hw
    · intro j u z hj hc hs
      have fre : v.fre = true → False := fun hv => by
        obtain ⟨r, e1, e2⟩ := nw hv
        have hu : u.imm = false := by
          rcases hc with ⟨_, c⟩ | ⟨c, _⟩
          · exact c
          · cases u <;> first | rfl | cases c
        have := old j u r z hj hu (by rw [hs, e1])
        omega
      cases v with
      | im e =>
        cases hw
        rcases hc with ⟨c, _⟩ | ⟨_, c⟩ <;> cases c
      | ls m l => cases m with
        | fr => exact fre rfl
        | lo =>
          cases hw
          obtain ⟨r, z1, z2, z3, z4⟩ := rv
          rcases hc with ⟨c, _⟩ | ⟨c, _⟩
          · cases c
          · exact z4 (prO j u r z hj c (by rw [hs, z1])).1
        | _ => cases hw
      | dc m t l => cases m with
        | fr => exact fre rfl
        | _ => cases hw
      | cl c =>
        cases hw
        rcases hc with ⟨c, _⟩ | ⟨_, c⟩ <;> cases c
  · rw [List.set_eq_of_length_le (by omega), List.set_eq_of_length_le (by rw [R.len]; omega)]
    exact R.mono f
end
end PL

/-! the plain layer: expressions -/
namespace PL
open PySem PySem.Spec L2 DL
def SE (c : CE) (p : PE) : Prop := ∀ ⦃P0 : Nat → Prop⦄ ⦃b : Nat⦄ ⦃ρ : PEn⦄ ⦃σ : SD⦄ ⦃η : Hd⦄ ⦃kv : KV⦄ ⦃kx : KX⦄, Rep P0 b ρ σ η →
  (p ρ).ok (fun v => ∀ d η', Fr (Pr P0 ρ σ) η η' → RS P0 ρ σ η' v d → Nw η v d → kv d η' = true) (fun x => ∀ η', Fr (Pr P0 ρ σ) η η' → kx x η' = true) → c σ η kv kx = true
def ST (c : CT) (p : PT) : Prop := ∀ ⦃P0 : Nat → Prop⦄ ⦃b : Nat⦄ ⦃ρ : PEn⦄ ⦃σ : SD⦄ ⦃η : Hd⦄ ⦃kv : Bool → Hd → Bool⦄ ⦃kx : KX⦄, Rep P0 b ρ σ η →
  (p ρ).ok (fun v => ∀ η', Fr (Pr P0 ρ σ) η η' → kv v η' = true) (fun x => ∀ η', Fr (Pr P0 ρ σ) η η' → kx x η' = true) → c σ η kv kx = true
inductive RSs (P0 : Nat → Prop) (ρ : PEn) (σ : SD) (η : Hd) : List PV → List D → Prop
  | nil : RSs P0 ρ σ η [] []
  | cons {v : PV} {d : D} {vs : List PV} {ds : List D} (h : RS P0 ρ σ η v d) (r : RSs P0 ρ σ η vs ds) : RSs P0 ρ σ η (v :: vs) (d :: ds)
def SA (c : CA) (p : PA) : Prop := ∀ ⦃P0 : Nat → Prop⦄ ⦃b : Nat⦄ ⦃ρ : PEn⦄ ⦃σ : SD⦄ ⦃η : Hd⦄ ⦃kv : List D → Hd → Bool⦄ ⦃kx : KX⦄, Rep P0 b ρ σ η →
  (p ρ).ok (fun vs => ∀ ds η', Fr (Pr P0 ρ σ) η η' → RSs P0 ρ σ η' vs ds → kv ds η' = true) (fun x => ∀ η', Fr (Pr P0 ρ σ) η η' → kx x η' = true) → c σ η kv kx = true
/-- a result of an operation: without a cell, or new -/
def NR (η η' : Hd) : PV → D → Prop
  | .im e, d => d = e
  | .ls .fr l, d => ∃ r, d = .ref r ∧ η.nx ≤ r ∧ r < η'.nx ∧ η'.get r = some (.lst l)
  | .dc .fr t l, d => ∃ r, d = .ref r ∧ η.nx ≤ r ∧ r < η'.nx ∧ η'.get r = some (.dct t l)
  | .cl c, d => FC η' c d
  | _, _ => False
section
variable {P0 : Nat → Prop} {b : Nat} {ρ : PEn} {σ : SD} {η η0 η1 η' : Hd} {v : PV} {d : D}
theorem NR.rs (R : Rep P0 b ρ σ η) (h : NR η η' v d) : RS P0 ρ σ η' v d ∧ Nw η v d := by
  cases v with
  | im _ => exact ⟨h, fun z => nomatch z⟩
  | ls m l => cases m with
    | fr => obtain ⟨r, z1, z2, z3, z4⟩ := h; exact ⟨⟨r, z1, z3, z4, fun p => by have := Pr_lt R p; omega⟩, fun _ => ⟨r, z1, z2⟩⟩
    | _ => exact h.elim
  | dc m t l => cases m with
    | fr => obtain ⟨r, z1, z2, z3, z4⟩ := h; exact ⟨⟨r, z1, z3, z4, fun p => by have := Pr_lt R p; omega⟩, fun _ => ⟨r, z1, z2⟩⟩
    | _ => exact h.elim
  | cl c => exact ⟨h, fun z => nomatch z⟩
theorem Nw.le (h : Nw η1 v d) (n : η0.nx ≤ η1.nx) : Nw η0 v d := fun z => by obtain ⟨r, e, l⟩ := h z; exact ⟨r, e, Nat.le_trans n l⟩
theorem Rep.lts (R : Rep P0 b ρ σ η) : ∀ q, Pr P0 ρ σ q → q < η.nx := fun q h => Pr_lt R h
/-- the views of values -/
inductive VWs (P : Nat → Prop) (η : Hd) : List PV → List D → Prop
  | nil : VWs P η [] []
  | cons {v : PV} {d : D} {vs : List PV} {ds : List D} (h : VW P η v d) (r : VWs P η vs ds) : VWs P η (v :: vs) (d :: ds)
theorem Rep.views (R : Rep P0 b ρ σ η) {vs : List PV} {ds : List D} (h : RSs P0 ρ σ η vs ds) : VWs (Pr P0 ρ σ) η vs ds := by
  induction h with
  | nil => exact .nil
  | cons h r ih => exact .cons (R.view h) ih
theorem RSs.down {w : PV} {e : D} {vs : List PV} {ds : List D} (h : RSs (frP P0 w e) ρ σ η vs ds) : RSs P0 ρ σ η vs ds := by
  induction h with
  | nil => exact .nil
  | cons h r ih => exact .cons h.down ih
theorem Rs.imp {α : Type} {r : Rs α} {Q Q' : α → Prop} {E E' : Xc → Prop} (h : r.ok Q E) (f : ∀ a, Q a → Q' a) (g : ∀ x, E x → E' x) : r.ok Q' E' := Rs.ok.imp h f g
end
/-! ### names, constants -/
def pVar (i : Nat) : PE := fun ρ => match ρ[i]? with
  | some (some (.im d)) => .val (.im d)
  | some (some (.ls m l)) => match m with
    | .fr => .bad
    | m => .val (.ls m l)
  | some (some (.dc m t l)) => match m with
    | .fr => .bad
    | m => .val (.dc m t l)
  | some (some (.cl c)) => .val (.cl c)
  | _ => .bad
theorem Rep.slot {P0 : Nat → Prop} {b : Nat} {ρ : PEn} {σ : SD} {η : Hd} {v : PV} {i : Nat} (R : Rep P0 b ρ σ η) (h : ρ[i]? = some (some v)) (hv : v.fre = false) : ∃ d : D, σ[i]? = some (some d) ∧ RS P0 ρ σ η v d := by
  obtain ⟨d, e, r⟩ := R.at_ i v h
  refine ⟨d, e, ?_⟩
  cases v with
  | im _ => exact r
  | ls m l => cases m with
    | fr => cases hv
    | lo => obtain ⟨r, z1, z2, z3, z4, z5⟩ := r; exact ⟨r, z1, z2, z3, z5 (.inl rfl)⟩
    | ke => exact ⟨i, h, e⟩
    | ow => exact ⟨i, h, e⟩
    | rd => exact ⟨i, h, e⟩
  | dc m t l => cases m with
    | fr => cases hv
    | lo => exact ⟨i, h, e⟩
    | ke => exact ⟨i, h, e⟩
    | ow => exact ⟨i, h, e⟩
    | rd => exact ⟨i, h, e⟩
  | cl c => exact r
theorem se_var {i : Nat} : SE (cVar i) (pVar i) := by
  intro P0 b ρ σ η kv kx R h
  unfold pVar at h
  have go : ∀ v : PV, ρ[i]? = some (some v) → v.fre = false → (∀ d η', Fr (Pr P0 ρ σ) η η' → RS P0 ρ σ η' v d → Nw η v d → kv d η' = true) → cVar i σ η kv kx = true := fun v e hv hk => by
    obtain ⟨d, e1, e2⟩ := R.slot e hv
    unfold cVar
    rw [e1]
    exact hk d η (Fr.refl _ _) e2 fun z => by rw [hv] at z; cases z
  split at h
  · rename_i e; exact go _ e rfl h
  · rename_i m l e
    cases m with
    | fr => exact h.elim
    | _ => exact go _ e rfl h
  · rename_i m t l e
    cases m with
    | fr => exact h.elim
    | _ => exact go _ e rfl h
  · rename_i e; exact go _ e rfl h
  · exact h.elim
def pC (d : D) : PE := fun _ => .val (.im d)
theorem se_c {d : D} : SE (cC d) (pC d) := by
  intro P0 b ρ σ η kv kx R h
  exact h d η (Fr.refl _ _) rfl (fun z => nomatch z)
/-! ### operators -/
abbrev G2 := PV → PV → Option PV
def S2 (f : F2) (g : G2) : Prop := ∀ ⦃P : Nat → Prop⦄ ⦃η : Hd⦄ ⦃x y v : PV⦄ ⦃dx dy : D⦄, (∀ q, P q → q < η.nx) → VW P η x dx → VW P η y dy → g x y = some v → ∃ d η', f dx dy η = some (d, η') ∧ Fr P η η' ∧ NR η η' v d
def pOp (g : G2) (a b : PE) : PE := fun ρ => (a ρ).bind fun x => (b ρ).bind fun y => match g x y with
  | some v => .val v
  | none => .bad
theorem se_op {f : F2} {g : G2} {a b : CE} {pa pb : PE} (hf : S2 f g) (ha : SE a pa) (hb : SE b pb) : SE (cOp f a b) (pOp g pa pb) := by
  intro P0 b ρ σ η kv kx R h
  unfold cOp
  refine ha R (Rs.imp (Rs.bind_ok h) (fun x hx dx η1 f1 s1 n1 => ?_) (fun x hx η' f => hx η' f))
  obtain ⟨R1, dn⟩ := R.hold f1 s1 n1
  refine hb R1 (Rs.imp (Rs.bind_ok hx) (fun y hy dy η2 f2 s2 n2 => ?_) (fun x hx η' f => hx η' (f1.trans (dn η' f).1)))
  obtain ⟨f2', s1'⟩ := dn η2 f2
  have R2 := R.mono (f1.trans f2')
  cases e : g x y with
  | none => rw [e] at hy; exact hy.elim
  | some v =>
    rw [e] at hy
    obtain ⟨d, η3, e1, f3, nr⟩ := hf R2.lts (R2.view s1') (R2.view s2.down) e
    rw [e1]
    obtain ⟨s3, n3⟩ := nr.rs R2
    exact hy d η3 ((f1.trans f2').trans f3) s3 (n3.le ((f1.trans f2').1))
def Md.tight : Md → Bool
  | .fr => true
  | .ke => true
  | .ow => true
  | _ => false
theorem VW.lst {P : Nat → Prop} {η : Hd} {m : Md} {l : List D} {d : D} (h : VW P η (.ls m l) d) : ∃ r, d = .ref r ∧ r < η.nx ∧ η.list r = some l ∧ (m.tight = true → η.get r = some (.lst l)) := by
  obtain ⟨r, z1, z2, z3, z4, _⟩ := h
  exact ⟨r, z1, z2, z3, fun hm => z4 (by cases m <;> first | exact .inl rfl | exact .inr rfl | cases hm)⟩
theorem VW.dct {P : Nat → Prop} {η : Hd} {m : Md} {t : Bool} {l : List (D × D)} {d : D} (h : VW P η (.dc m t l) d) : ∃ r, d = .ref r ∧ r < η.nx ∧ η.get r = some (.dct t l) := by
  obtain ⟨r, z1, z2, z3, _⟩ := h
  exact ⟨r, z1, z2, z3⟩
def gI (g : Int → Int → Int) : G2 := fun x y => match x, y with
  | .im (.int i), .im (.int j) => some (.im (.int (g i j)))
  | _, _ => none
def gIc (c : Int → Int → Bool) (g : Int → Int → Int) : G2 := fun x y => match x, y with
  | .im (.int i), .im (.int j) => match c i j with
    | true => some (.im (.int (g i j)))
    | false => none
  | _, _ => none
def gB (g : Int → Int → Bool) : G2 := fun x y => match x, y with
  | .im (.int i), .im (.int j) => some (.im (.bl (g i j)))
  | _, _ => none
section
variable {g : Int → Int → Int} {gb c : Int → Int → Bool}
theorem s2_i : S2 (fI2 g) (gI g) := by
  intro P η x y v dx dy lt hx hy h
  unfold gI at h
  split at h
  · cases h; cases hx; cases hy; exact ⟨_, η, rfl, Fr.refl _ _, rfl⟩
  · cases h
theorem s2_ic : S2 (fI2c c g) (gIc c g) := by
  intro P η x y v dx dy lt hx hy h
  unfold gIc at h
  split at h
  · rename_i i j
    cases hx; cases hy
    cases e : c i j with
    | false => rw [e] at h; cases h
    | true =>
      rw [e] at h; cases h
      exact ⟨_, η, by simp only [fI2c, e], Fr.refl _ _, rfl⟩
  · cases h
theorem s2_b : S2 (fB2 gb) (gB gb) := by
  intro P η x y v dx dy lt hx hy h
  unfold gB at h
  split at h
  · cases h; cases hx; cases hy; exact ⟨_, η, rfl, Fr.refl _ _, rfl⟩
  · cases h
end
def gAdd : G2 := fun x y => match x, y with
  | .im (.int i), .im (.int j) => some (.im (.int (i + j)))
  | .im (.tup a), .im (.tup b) => match Nat.ble (a.length + b.length) line with
    | true => some (.im (.tup (a ++ b)))
    | false => none
  | .im (.str a), .im (.str b) => match Nat.ble (a.length + b.length) line with
    | true => some (.im (.str (a ++ b)))
    | false => none
  | .ls m a, .ls n b => match m.tight && n.tight, Nat.ble (a.length + b.length) line with
    | true, true => some (.ls .fr (a ++ b))
    | _, _ => none
  | _, _ => none
theorem s2_add : S2 fAdd gAdd := by
  intro P η x y v dx dy lt hx hy h
  unfold gAdd at h
  split at h
  · cases h; cases hx; cases hy; exact ⟨_, η, rfl, Fr.refl _ _, rfl⟩
  · rename_i a b
    cases hx; cases hy
    split at h
    · rename_i e; cases h
      exact ⟨_, η, by simp only [fAdd, fOr, fI2, fCatT, e], Fr.refl _ _, rfl⟩
    · cases h
  · rename_i a b
    cases hx; cases hy
    split at h
    · rename_i e; cases h
      exact ⟨_, η, by simp only [fAdd, fOr, fI2, fCatT, fCatL, fCatS, e], Fr.refl _ _, rfl⟩
    · cases h
  · rename_i m a n b
    split at h
    · rename_i e1 e2; cases h
      rw [Bool.and_eq_true] at e1
      obtain ⟨r, rfl, l1, _, g1⟩ := hx.lst
      obtain ⟨s, rfl, l2, _, g2⟩ := hy.lst
      exact ⟨_, η.new (.lst (a ++ b)), by simp only [fAdd, fOr, fI2, fCatT, fCatL, g1 e1.1, g2 e1.2, e2], Fr.new, ⟨_, rfl, Nat.le_refl _, Nat.lt_succ_self _, get_new_eq⟩⟩
    · cases h
  · cases h
def gMul : G2 := fun x y => match x, y with
  | .im (.int i), .im (.int j) => match mulOk i j with
    | true => some (.im (.int (i * j)))
    | false => none
  | .ls m a, .im (.int k) => match m.tight, Nat.ble k.natAbs 100000, Nat.ble (a.length * k.toNat) line with
    | true, true, true => some (.ls .fr (List.replicate k.toNat a).flatten)
    | _, _, _ => none
  | _, _ => none
theorem s2_mul : S2 fMul gMul := by
  intro P η x y v dx dy lt hx hy h
  unfold gMul at h
  split at h
  · rename_i i j
    cases hx; cases hy
    split at h
    · rename_i e; cases h
      exact ⟨_, η, by simp only [fMul, fOr, fI2c, e]; rfl, Fr.refl _ _, rfl⟩
    · cases h
  · rename_i m a k
    cases hy
    split at h
    · rename_i e1 e2 e3; cases h
      obtain ⟨r, rfl, l1, _, g1⟩ := hx.lst
      exact ⟨_, _, by simp only [fMul, fOr, fI2c, fRepL, g1 e1, e2, e3], Fr.new, ⟨_, rfl, Nat.le_refl _, Nat.lt_succ_self _, get_new_eq⟩⟩
    · cases h
  · cases h
/-- == of values -/
def eqP : PV → PV → Option Bool
  | .im x, .im y => match pur 8 x, pur 8 y with
    | true, true => some (eqn 8 x y)
    | _, _ => none
  | .ls _ a, .ls _ b => match purs 8 a, purs 8 b with
    | true, true => some (eqL (eqn 8) a b)
    | _, _ => none
  | .ls _ a, .im y => match purs 8 a, pur 8 y with
    | true, true => some false
    | _, _ => none
  | .im x, .ls _ b => match purs 8 b, pur 8 x with
    | true, true => some false
    | _, _ => none
  | _, _ => none
theorem pur_ref {n r : Nat} : pur n (.ref r) = false := by cases n <;> rfl
theorem eqF_im {η : Hd} {x y : D} (hx : pur 8 x = true) (hy : pur 8 y = true) : eqF η x y = some (eqn 8 x y) := by
  cases x with
  | ref r => rw [pur_ref] at hx; cases hx
  | _ => cases y with
    | ref r => rw [pur_ref] at hy; cases hy
    | _ => simp only [eqF, hx, hy]
theorem eqP_ok {P : Nat → Prop} {η : Hd} {x y : PV} {dx dy : D} {t : Bool} (hx : VW P η x dx) (hy : VW P η y dy) (h : eqP x y = some t) : eqF η dx dy = some t := by
  unfold eqP at h
  split at h
  · cases hx; cases hy
    split at h
    · rename_i e1 e2; rw [eqF_im e1 e2]; exact h
    · cases h
  · obtain ⟨r, rfl, l1, g1, _⟩ := hx.lst
    obtain ⟨s, rfl, l2, g2, _⟩ := hy.lst
    split at h
    · rename_i e1 e2; simp only [eqF, g1, g2, e1, e2]; exact h
    · cases h
  · rename_i m a y
    obtain ⟨r, rfl, l1, g1, _⟩ := hx.lst
    cases hy
    split at h
    · rename_i e1 e2; cases h
      cases dy with
      | ref q => rw [pur_ref] at e2; cases e2
      | _ => simp only [eqF, g1, e1, e2]
    · cases h
  · rename_i x m b
    obtain ⟨r, rfl, l1, g1, _⟩ := hy.lst
    cases hx
    split at h
    · rename_i e1 e2; cases h
      cases dx with
      | ref q => rw [pur_ref] at e2; cases e2
      | _ => simp only [eqF, g1, e1, e2]
    · cases h
  · cases h
def gEq : G2 := fun x y => match eqP x y with
  | some t => some (.im (.bl t))
  | none => none
def gNe : G2 := fun x y => match eqP x y with
  | some t => some (.im (.bl (!t)))
  | none => none
theorem s2_eq : S2 fEq gEq := by
  intro P η x y v dx dy lt hx hy h
  unfold gEq at h
  split at h
  · rename_i t e; cases h; exact ⟨_, η, by simp only [fEq, eqP_ok hx hy e], Fr.refl _ _, rfl⟩
  · cases h
theorem s2_ne : S2 fNe gNe := by
  intro P η x y v dx dy lt hx hy h
  unfold gNe at h
  split at h
  · rename_i t e; cases h; exact ⟨_, η, by simp only [fNe, eqP_ok hx hy e], Fr.refl _ _, rfl⟩
  · cases h
/-- o[i] -/
def gIx : G2 := fun x y => match x, y with
  | .im (.tup l), .im (.int i) => match atD l i with
    | some d => some (.im d)
    | none => none
  | .ls _ l, .im (.int i) => match atD l i with
    | some d => some (.im d)
    | none => none
  | .dc _ t kvs, .im k => match isKey t k with
    | true => match dlook k kvs with
      | some d => some (.im d)
      | none => none
    | false => none
  | .im (.ftup l), .im (.int i) => match atD l i with
    | some d => some (.im d)
    | none => none
  | .cl (.ldc t kvs), .im k => match isKey t k with
    | true => match dlook k kvs with
      | some d => some (.im d)
      | none => none
    | false => none
  | _, _ => none
theorem s2_ix : S2 fIx gIx := by
  intro P η x y v dx dy lt hx hy h
  unfold gIx at h
  split at h
  · cases hx; cases hy
    split at h
    · rename_i e; cases h; exact ⟨_, η, by simp only [fIx, e], Fr.refl _ _, rfl⟩
    · cases h
  · obtain ⟨r, rfl, l1, g1, _⟩ := hx.lst
    cases hy
    split at h
    · rename_i e; cases h
      refine ⟨_, η, ?_, Fr.refl _ _, rfl⟩
      rcases list_cases g1 with q | q
      · simp only [fIx, q, e]
      · simp only [fIx, q, e]
    · cases h
  · obtain ⟨r, rfl, l1, g1⟩ := hx.dct
    cases hy
    split at h
    · rename_i e1
      split at h
      · rename_i e; cases h; exact ⟨_, η, by simp only [fIx, g1, e1, e], Fr.refl _ _, rfl⟩
      · cases h
    · cases h
  · cases hx; cases hy
    split at h
    · rename_i e; cases h; exact ⟨_, η, by simp only [fIx, e], Fr.refl _ _, rfl⟩
    · cases h
  · obtain ⟨r, rfl, l1, g1, _⟩ := hx
    cases hy
    split at h
    · rename_i e1
      split at h
      · rename_i e; cases h; exact ⟨_, η, by simp only [fIx, g1, e1, e], Fr.refl _ _, rfl⟩
      · cases h
    · cases h
  · cases h
/-! ### rows of values -/
def pNil : PA := fun _ => .val []
def pCons (a : PE) (r : PA) : PA := fun ρ => (a ρ).bind fun v => (r ρ).bind fun vs => .val (v :: vs)
theorem sa_nil : SA cNil pNil := by
  intro P0 b ρ σ η kv kx R h
  exact h [] η (Fr.refl _ _) .nil
theorem sa_cons {a : CE} {r : CA} {pa : PE} {pr : PA} (ha : SE a pa) (hr : SA r pr) : SA (cCons a r) (pCons pa pr) := by
  intro P0 b ρ σ η kv kx R h
  unfold cCons
  refine ha R (Rs.imp (Rs.bind_ok h) (fun x hx dx η1 f1 s1 n1 => ?_) (fun x hx η' f => hx η' f))
  obtain ⟨R1, dn⟩ := R.hold f1 s1 n1
  refine hr R1 (Rs.imp (Rs.bind_ok hx) (fun y hy dy η2 f2 s2 => ?_) (fun x hx η' f => hx η' (f1.trans (dn η' f).1)))
  obtain ⟨f2', s1'⟩ := dn η2 f2
  exact hy (dx :: dy) η2 (f1.trans f2') (.cons s1' s2.down)
def imms : List PV → Option (List D)
  | [] => some []
  | .im d :: vs => match imms vs with
    | some ds => some (d :: ds)
    | none => none
  | _ :: _ => none
theorem imms_ok {P : Nat → Prop} {η : Hd} : ∀ {vs : List PV} {ds es : List D}, VWs P η vs ds → imms vs = some es → ds = es
  | _, _, _, .nil, h => by cases h; rfl
  | .im d :: vs, _, es, .cons h r, e => by
    simp only [imms] at e
    split at e
    · rename_i ds' e2; cases e; rw [imms_ok r e2]; cases h; rfl
    · cases e
  | .ls _ _ :: _, _, _, .cons h r, e => by cases e
  | .dc _ _ _ :: _, _, _, .cons h r, e => by cases e
  | .cl _ :: _, _, _, .cons h r, e => by cases e
def pTup (a : PA) : PE := fun ρ => (a ρ).bind fun vs => match imms vs with
  | some ds => match Nat.ble ds.length line with
    | true => .val (.im (.tup ds))
    | false => .bad
  | none => .bad
def pLst (a : PA) : PE := fun ρ => (a ρ).bind fun vs => match imms vs with
  | some ds => match Nat.ble ds.length line with
    | true => .val (.ls .fr ds)
    | false => .bad
  | none => .bad
theorem se_tup {a : CA} {pa : PA} (ha : SA a pa) : SE (cTup a) (pTup pa) := by
  intro P0 b ρ σ η kv kx R h
  unfold cTup
  refine ha R (Rs.imp (Rs.bind_ok h) (fun vs hx ds η1 f1 s1 => ?_) (fun x hx η' f => hx η' f))
  have R1 := R.mono f1
  split at hx
  · rename_i es e
    cases imms_ok (R1.views s1) e
    split at hx
    · rename_i e2; (try rw [e2]); exact hx _ η1 f1 rfl (fun z => nomatch z)
    · exact hx.elim
  · exact hx.elim
theorem se_lst {a : CA} {pa : PA} (ha : SA a pa) : SE (cLst a) (pLst pa) := by
  intro P0 b ρ σ η kv kx R h
  unfold cLst
  refine ha R (Rs.imp (Rs.bind_ok h) (fun vs hx ds η1 f1 s1 => ?_) (fun x hx η' f => hx η' f))
  have R1 := R.mono f1
  split at hx
  · rename_i es e
    cases imms_ok (R1.views s1) e
    split at hx
    · rename_i e2; (try rw [e2])
      obtain ⟨s, n⟩ := NR.rs (v := .ls .fr ds) (d := .ref η1.nx) (η' := η1.new (.lst ds)) R1 ⟨_, rfl, Nat.le_refl _, Nat.lt_succ_self _, get_new_eq⟩
      exact hx _ _ (f1.trans Fr.new) s (n.le f1.1)
    · exact hx.elim
  · exact hx.elim
/-! ### built-ins -/
def S1 (f : D → Hd → Option (D × Hd)) (g : PV → Option PV) : Prop := ∀ ⦃P : Nat → Prop⦄ ⦃η : Hd⦄ ⦃x v : PV⦄ ⦃dx : D⦄, (∀ q, P q → q < η.nx) → VW P η x dx → g x = some v → ∃ d η', f dx η = some (d, η') ∧ Fr P η η' ∧ NR η η' v d
def pFn (g : PV → Option PV) (a : PE) : PE := fun ρ => (a ρ).bind fun x => match g x with
  | some v => .val v
  | none => .bad
theorem se_fn {f : D → Hd → Option (D × Hd)} {g : PV → Option PV} {a : CE} {pa : PE} (hf : S1 f g) (ha : SE a pa) : SE (cFn (f1 f) (cCons a cNil)) (pFn g pa) := by
  intro P0 b ρ σ η kv kx R h
  rw [w_fn1]
  refine ha R (Rs.imp (Rs.bind_ok h) (fun x hx dx η1 f1 s1 n1 => ?_) (fun x hx η' f => hx η' f))
  have R1 := R.mono f1
  cases e : g x with
  | none => rw [e] at hx; exact hx.elim
  | some v =>
    rw [e] at hx
    obtain ⟨d, η3, e1, f3, nr⟩ := hf R1.lts (R1.view s1) e
    have : DL.f1 f [dx] η1 = some (d, η3) := e1
    rw [this]
    obtain ⟨s3, n3⟩ := nr.rs R1
    exact hx d η3 (f1.trans f3) s3 (n3.le f1.1)
def hLen : PV → Option PV
  | .im (.tup l) => some (.im (.int (Int.ofNat l.length)))
  | .im (.str z) => match Nat.ble z.length line with
    | true => some (.im (.int (Int.ofNat z.length)))
    | false => none
  | .ls _ l => some (.im (.int (Int.ofNat l.length)))
  | .dc _ _ l => some (.im (.int (Int.ofNat l.length)))
  | _ => none
theorem s1_len : S1 gLenA hLen := by
  intro P η x v dx lt hx h
  unfold hLen at h
  split at h
  · cases h; cases hx; exact ⟨_, η, rfl, Fr.refl _ _, rfl⟩
  · cases hx
    split at h
    · rename_i e; cases h; exact ⟨_, η, by simp only [gLenA, gLen, e], Fr.refl _ _, rfl⟩
    · cases h
  · obtain ⟨r, rfl, l1, g1, _⟩ := hx.lst
    cases h
    refine ⟨_, η, ?_, Fr.refl _ _, rfl⟩
    rcases list_cases g1 with q | q
    · simp only [gLenA, gLen, q]
    · simp only [gLenA, gLen, q]
  · obtain ⟨r, rfl, l1, g1⟩ := hx.dct
    cases h
    exact ⟨_, η, by simp only [gLenA, g1], Fr.refl _ _, rfl⟩
  · cases h
def hTuple : PV → Option PV
  | .im (.tup l) => some (.im (.tup l))
  | .ls _ l => some (.im (.tup l))
  | _ => none
theorem s1_tuple : S1 gTuple hTuple := by
  intro P η x v dx lt hx h
  unfold hTuple at h
  split at h
  · cases h; cases hx; exact ⟨_, η, rfl, Fr.refl _ _, rfl⟩
  · obtain ⟨r, rfl, l1, g1, _⟩ := hx.lst
    cases h
    exact ⟨_, η, by simp only [gTuple, g1], Fr.refl _ _, rfl⟩
  · cases h
end PL

/-! the plain layer: tests, slices, calls, walks, comprehensions -/
namespace PL
open PySem PySem.Spec L2 DL
section
variable {a b c : CE} {pa pb pc : PE} {s t : CT} {ps pt : PT}
/-! ### one value -/
def p1 (f : D → Option D) (a : PE) : PE := fun ρ => (a ρ).bind fun x => match x with
  | .im d => match f d with
    | some e => .val (.im e)
    | none => .bad
  | _ => .bad
theorem se_one {F : CE → CE} {f : D → Option D} (hF : ∀ {c : CE} {σ : SD} {η : Hd} {kv : KV} {kx : KX}, F c σ η kv kx = c σ η (fun x η1 => match f x with | some e => kv e η1 | none => false) kx) (ha : SE a pa) : SE (F a) (p1 f pa) := by
  intro P0 b ρ σ η kv kx R h
  rw [hF]
  refine ha R (Rs.imp (Rs.bind_ok h) (fun x hx dx η1 f1 s1 n1 => ?_) (fun x hx η' f => hx η' f))
  split at hx
  · cases s1
    split at hx
    · rename_i e; try simp only [e]
      exact hx _ η1 f1 rfl (fun z => nomatch z)
    · exact hx.elim
  · exact hx.elim
def nNeg : D → Option D
  | .int i => some (.int (Int.neg i))
  | _ => none
theorem se_neg (ha : SE a pa) : SE (cNeg a) (p1 nNeg pa) := se_one (F := cNeg) (fun {c σ η kv kx} => by
  unfold cNeg; congr 1; funext x η1; cases x <;> rfl) ha
/-! ### tests -/
def pTst (a : PE) : PT := fun ρ => (a ρ).bind fun x => match x with
  | .im (.bl t) => .val t
  | _ => .bad
theorem st_tst (ha : SE a pa) : ST (cTst a) (pTst pa) := by
  intro P0 b ρ σ η kv kx R h
  unfold cTst
  refine ha R (Rs.imp (Rs.bind_ok h) (fun x hx dx η1 f1 s1 n1 => ?_) (fun x hx η' f => hx η' f))
  split at hx
  · cases s1; exact hx η1 f1
  · exact hx.elim
def pAndT (s t : PT) : PT := fun ρ => (s ρ).bind fun x => match x with
  | true => t ρ
  | false => .val false
def pOrT (s t : PT) : PT := fun ρ => (s ρ).bind fun x => match x with
  | true => .val true
  | false => t ρ
theorem st_and (hs : ST s ps) (ht : ST t pt) : ST (ctAnd s t) (pAndT ps pt) := by
  intro P0 b ρ σ η kv kx R h
  unfold ctAnd
  refine hs R (Rs.imp (Rs.bind_ok h) (fun x hx η1 f1 => ?_) (fun x hx η' f => hx η' f))
  cases x with
  | true => exact ht (R.mono f1) (Rs.imp hx (fun y hy η2 f2 => hy η2 (f1.trans f2)) (fun x hx η' f => hx η' (f1.trans f)))
  | false => exact hx η1 f1
theorem st_or (hs : ST s ps) (ht : ST t pt) : ST (ctOr s t) (pOrT ps pt) := by
  intro P0 b ρ σ η kv kx R h
  unfold ctOr
  refine hs R (Rs.imp (Rs.bind_ok h) (fun x hx η1 f1 => ?_) (fun x hx η' f => hx η' f))
  cases x with
  | true => exact hx η1 f1
  | false => exact ht (R.mono f1) (Rs.imp hx (fun y hy η2 f2 => hy η2 (f1.trans f2)) (fun x hx η' f => hx η' (f1.trans f)))
def pYes : PT := fun _ => .val true
theorem st_yes : ST ctYes pYes := by
  intro P0 b ρ σ η kv kx R h
  exact h η (Fr.refl _ _)
theorem SE.after (hb : SE b pb) {P0 : Nat → Prop} {B : Nat} {ρ : PEn} {σ : SD} {η η1 : Hd} {kv : KV} {kx : KX} (R : Rep P0 B ρ σ η) (f1 : Fr (Pr P0 ρ σ) η η1)
    (h : (pb ρ).ok (fun v => ∀ d η', Fr (Pr P0 ρ σ) η η' → RS P0 ρ σ η' v d → Nw η v d → kv d η' = true) (fun x => ∀ η', Fr (Pr P0 ρ σ) η η' → kx x η' = true)) : b σ η1 kv kx = true :=
  hb (R.mono f1) (Rs.imp h (fun y hy d η2 f2 s n => hy d η2 (f1.trans f2) s (n.le f1.1)) (fun x hx η' f => hx η' (f1.trans f)))
def pIf (t : PT) (a b : PE) : PE := fun ρ => (t ρ).bind fun x => match x with
  | true => a ρ
  | false => b ρ
theorem se_if (ht : ST t pt) (ha : SE a pa) (hb : SE b pb) : SE (cIf t a b) (pIf pt pa pb) := by
  intro P0 B ρ σ η kv kx R h
  unfold cIf
  refine ht R (Rs.imp (Rs.bind_ok h) (fun x hx η1 f1 => ?_) (fun x hx η' f => hx η' f))
  cases x with
  | true => exact ha.after R f1 hx
  | false => exact hb.after R f1 hx
/-! ### ranges as rows -/
def pTupR (a b : PE) : PE := fun ρ => (a ρ).bind fun x => (b ρ).bind fun y => match x, y with
  | .im (.int i), .im (.int j) => match rOk i, rOk j, Nat.ble (j - i).toNat line with
    | true, true, true => .val (.im (.tup (rangeD (j - i).toNat i)))
    | _, _, _ => .bad
  | _, _ => .bad
def pLstR (a b : PE) : PE := fun ρ => (a ρ).bind fun x => (b ρ).bind fun y => match x, y with
  | .im (.int i), .im (.int j) => match rOk i, rOk j, Nat.ble (j - i).toNat line with
    | true, true, true => .val (.ls .fr (rangeD (j - i).toNat i))
    | _, _, _ => .bad
  | _, _ => .bad
theorem se_tupR2 (ha : SE a pa) (hb : SE b pb) : SE (cTupR (crg2 a b)) (pTupR pa pb) := by
  intro P0 B ρ σ η kv kx R h
  unfold cTupR crg2
  refine ha R (Rs.imp (Rs.bind_ok h) (fun x hx dx η1 f1 s1 n1 => ?_) (fun x hx η' f => hx η' f))
  refine hb (R.mono f1) (Rs.imp (Rs.bind_ok hx) (fun y hy dy η2 f2 s2 n2 => ?_) (fun x hx η' f => hx η' (f1.trans f)))
  split at hy
  · cases s1; cases s2
    split at hy
    · rename_i e1 e2 e3; simp only [e1, e2, e3]; exact hy _ η2 (f1.trans f2) rfl (fun z => nomatch z)
    · exact hy.elim
  · exact hy.elim
theorem se_lstR2 (ha : SE a pa) (hb : SE b pb) : SE (cLstR (crg2 a b)) (pLstR pa pb) := by
  intro P0 B ρ σ η kv kx R h
  unfold cLstR crg2
  refine ha R (Rs.imp (Rs.bind_ok h) (fun x hx dx η1 f1 s1 n1 => ?_) (fun x hx η' f => hx η' f))
  refine hb (R.mono f1) (Rs.imp (Rs.bind_ok hx) (fun y hy dy η2 f2 s2 n2 => ?_) (fun x hx η' f => hx η' (f1.trans f)))
  have R2 := R.mono (f1.trans f2)
  split at hy
  · cases s1; cases s2
    split at hy
    · rename_i e1 e2 e3; simp only [e1, e2, e3]
      obtain ⟨s, n⟩ := NR.rs (v := .ls .fr _) (η' := η2.new (.lst _)) R2 ⟨_, rfl, Nat.le_refl _, Nat.lt_succ_self _, get_new_eq⟩
      exact hy _ _ ((f1.trans f2).trans Fr.new) s (n.le (f1.trans f2).1)
    · exact hy.elim
  · exact hy.elim
theorem crg1_2 {k : Int → Int → Hd → Bool} {kx : KX} {σ : SD} {η : Hd} : crg1 a σ η k kx = crg2 (cC (.int 0)) a σ η k kx := by
  unfold crg1 crg2 cC
  congr 1; funext x η1; cases x <;> rfl
theorem se_tupR1 (ha : SE a pa) : SE (cTupR (crg1 a)) (pTupR (pC (.int 0)) pa) := by
  intro P0 B ρ σ η kv kx R h
  unfold cTupR; rw [crg1_2]
  exact se_tupR2 se_c ha R h
theorem se_lstR1 (ha : SE a pa) : SE (cLstR (crg1 a)) (pLstR (pC (.int 0)) pa) := by
  intro P0 B ρ σ η kv kx R h
  unfold cLstR; rw [crg1_2]
  exact se_lstR2 se_c ha R h
end
/-! ### slices -/
abbrev PO' := PEn → Rs (Option Int)
def SO (c : CO) (p : PO') : Prop := ∀ ⦃P0 : Nat → Prop⦄ ⦃b : Nat⦄ ⦃ρ : PEn⦄ ⦃σ : SD⦄ ⦃η : Hd⦄ ⦃kv : Option Int → Hd → Bool⦄ ⦃kx : KX⦄, Rep P0 b ρ σ η →
  (p ρ).ok (fun v => ∀ η', Fr (Pr P0 ρ σ) η η' → kv v η' = true) (fun x => ∀ η', Fr (Pr P0 ρ σ) η η' → kx x η' = true) → c σ η kv kx = true
def poN : PO' := fun _ => .val none
def poS (a : PE) : PO' := fun ρ => (a ρ).bind fun x => match x with
  | .im (.int i) => .val (some i)
  | _ => .bad
theorem so_n : SO coN poN := by
  intro P0 b ρ σ η kv kx R h
  exact h η (Fr.refl _ _)
theorem so_s {a : CE} {pa : PE} (ha : SE a pa) : SO (coS a) (poS pa) := by
  intro P0 b ρ σ η kv kx R h
  unfold coS
  refine ha R (Rs.imp (Rs.bind_ok h) (fun x hx dx η1 f1 s1 n1 => ?_) (fun x hx η' f => hx η' f))
  split at hx
  · cases s1; exact hx η1 f1
  · exact hx.elim
def pSl (a : PE) (lo hi : PO') : PE := fun ρ => (a ρ).bind fun x => (lo ρ).bind fun l => (hi ρ).bind fun h => match x with
  | .im (.tup xs) => .val (.im (.tup (cutD xs l h)))
  | .ls _ xs => .val (.ls .fr (cutD xs l h))
  | _ => .bad
theorem se_sl {a : CE} {pa : PE} {lo hi : CO} {pl ph : PO'} (ha : SE a pa) (hl : SO lo pl) (hh : SO hi ph) : SE (cSl a lo hi) (pSl pa pl ph) := by
  intro P0 b ρ σ η kv kx R h
  unfold cSl
  refine ha R (Rs.imp (Rs.bind_ok h) (fun x hx dx η1 f1 s1 n1 => ?_) (fun x hx η' f => hx η' f))
  obtain ⟨R1, dn⟩ := R.hold f1 s1 n1
  refine hl R1 (Rs.imp (Rs.bind_ok hx) (fun l hy η2 f2 => ?_) (fun x hx η' f => hx η' (f1.trans (dn η' f).1)))
  refine hh (R1.mono f2) (Rs.imp (Rs.bind_ok hy) (fun u hz η3 f3 => ?_) (fun x hx η' f => hx η' (f1.trans (dn η' (f2.trans f)).1)))
  obtain ⟨f23, s1'⟩ := dn η3 (f2.trans f3)
  have R3 := R.mono (f1.trans f23)
  split at hz
  · cases s1'; exact hz _ η3 (f1.trans f23) rfl (fun z => nomatch z)
  · rename_i m xs
    obtain ⟨r, rfl, l1, g1, _⟩ := (R3.view s1').lst
    simp only [slF, g1]
    obtain ⟨s, n⟩ := NR.rs (v := .ls .fr _) (η' := η3.new (.lst _)) R3 ⟨_, rfl, Nat.le_refl _, Nat.lt_succ_self _, get_new_eq⟩
    exact hz _ _ ((f1.trans f23).trans Fr.new) s (n.le (f1.trans f23).1)
  · exact hz.elim
/-! ### methods that change nothing -/
/-! ### defs called -/
/-- an argument handed on -/
def argM : PV → Option PV
  | .im d => some (.im d)
  | .ls .fr l => some (.ls .lo l)
  | .ls .lo l => some (.ls .lo l)
  | .ls .ke l => some (.ls .ke l)
  | .ls .ow l => some (.ls .ke l)
  | .ls .rd l => some (.ls .rd l)
  | .dc .ke t l => some (.dc .ke t l)
  | .dc .ow t l => some (.dc .ke t l)
  | .dc _ t l => none
  | .cl c => some (.cl c)
def argMs : List PV → Option (List PV)
  | [] => some []
  | v :: vs => match argM v, argMs vs with
    | some w, some ws => some (w :: ws)
    | _, _ => none
/-- arguments as a def finds them -/
def AW (P : Nat → Prop) (η : Hd) : PV → D → Prop
  | .im e, d => d = e
  | .ls .lo l, d => ∃ r, d = .ref r ∧ r < η.nx ∧ η.list r = some l ∧ ¬ P r
  | .ls .ke l, d => ∃ r, d = .ref r ∧ r < η.nx ∧ η.get r = some (.lst l) ∧ P r
  | .ls .rd l, d => ∃ r, d = .ref r ∧ r < η.nx ∧ η.list r = some l
  | .dc .ke t l, d => ∃ r, d = .ref r ∧ r < η.nx ∧ η.get r = some (.dct t l) ∧ P r
  | .cl c, d => FC η c d
  | _, _ => False
inductive AWs (P : Nat → Prop) (η : Hd) : List PV → List D → Prop
  | nil : AWs P η [] []
  | cons {v : PV} {d : D} {vs : List PV} {ds : List D} (h : AW P η v d) (r : AWs P η vs ds) : AWs P η (v :: vs) (d :: ds)
/-- a def's result: without a cell, new, or loose -/
def NL (P : Nat → Prop) (η η' : Hd) : PV → D → Prop
  | .im e, d => d = e
  | .ls .fr l, d => ∃ r, d = .ref r ∧ η.nx ≤ r ∧ r < η'.nx ∧ η'.get r = some (.lst l)
  | .ls .lo l, d => ∃ r, d = .ref r ∧ r < η'.nx ∧ η'.list r = some l ∧ ¬ P r
  | .dc .fr t l, d => ∃ r, d = .ref r ∧ η.nx ≤ r ∧ r < η'.nx ∧ η'.get r = some (.dct t l)
  | .cl c, d => FC η' c d
  | _, _ => False
abbrev PFn := List PV → Rs PV
def SF (F : CF) (f : PFn) : Prop := ∀ ⦃P : Nat → Prop⦄ ⦃η : Hd⦄ ⦃vs : List PV⦄ ⦃ds : List D⦄ ⦃kv : KV⦄ ⦃kx : KX⦄, (∀ q, P q → q < η.nx) → AWs P η vs ds →
  (f vs).ok (fun v => ∀ d η', Fr P η η' → NL P η η' v d → kv d η' = true) (fun x => ∀ η', Fr P η η' → kx x η' = true) → F ds η kv kx = true
theorem VW.arg {P : Nat → Prop} {η : Hd} {v w : PV} {d : D} (h : VW P η v d) (e : argM v = some w) : AW P η w d := by
  cases v with
  | im _ => cases e; exact h
  | ls m l =>
    obtain ⟨r, z1, z2, z3, z4, z5, z6⟩ := h
    cases m with
    | fr => cases e; exact ⟨r, z1, z2, z3, z6 (.inr rfl)⟩
    | lo => cases e; exact ⟨r, z1, z2, z3, z6 (.inl rfl)⟩
    | ke => cases e; exact ⟨r, z1, z2, z4 (.inl rfl), z5 rfl⟩
    | ow => cases e; exact ⟨r, z1, z2, z4 (.inl rfl), z5 rfl⟩
    | rd => cases e; exact ⟨r, z1, z2, z3⟩
  | dc m t l =>
    obtain ⟨r, z1, z2, z3, z5, z6⟩ := h
    cases m with
    | ke => cases e; exact ⟨r, z1, z2, z3, z5 rfl⟩
    | ow => cases e; exact ⟨r, z1, z2, z3, z5 rfl⟩
    | _ => cases e
  | cl c => cases e; exact h
theorem VWs.args {P : Nat → Prop} {η : Hd} : ∀ {vs ws : List PV} {ds : List D}, VWs P η vs ds → argMs vs = some ws → AWs P η ws ds
  | _, _, _, .nil, e => by cases e; exact .nil
  | _, _, _, .cons h r, e => by
    simp only [argMs] at e
    split at e
    · rename_i e1 e2; cases e; exact .cons (h.arg e1) (VWs.args r e2)
    · cases e
def pCall (f : PFn) (a : PA) : PE := fun ρ => (a ρ).bind fun vs => match argMs vs with
  | some ws => f ws
  | none => .bad
theorem NL.rs {P0 : Nat → Prop} {b : Nat} {ρ : PEn} {σ : SD} {η η' : Hd} {v : PV} {d : D} (R : Rep P0 b ρ σ η) (f : Fr (Pr P0 ρ σ) η η') (h : NL (Pr P0 ρ σ) η η' v d) : RS P0 ρ σ η' v d ∧ Nw η v d := by
  cases v with
  | im _ => exact ⟨h, fun z => nomatch z⟩
  | ls m l => cases m with
    | fr => exact NR.rs (v := .ls .fr l) R h
    | lo => exact ⟨h, fun z => nomatch z⟩
    | _ => exact h.elim
  | dc m t l => cases m with
    | fr => exact NR.rs (v := .dc .fr t l) R h
    | _ => exact h.elim
  | cl c => exact ⟨h, fun z => nomatch z⟩
theorem se_call {F : CF} {f : PFn} {a : CA} {pa : PA} (hF : SF F f) (ha : SA a pa) : SE (cCall F a) (pCall f pa) := by
  intro P0 b ρ σ η kv kx R h
  unfold cCall
  refine ha R (Rs.imp (Rs.bind_ok h) (fun vs hx ds η1 f1 s1 => ?_) (fun x hx η' f => hx η' f))
  have R1 := R.mono f1
  split at hx
  · rename_i ws e
    refine hF R1.lts ((R1.views s1).args e) (Rs.imp hx (fun v hv d η2 f2 nl => ?_) (fun x hx η' f => hx η' (f1.trans f)))
    obtain ⟨s, n⟩ := nl.rs R1 f2
    exact hv d η2 (f1.trans f2) s (n.le f1.1)
  · exact hx.elim
end PL

/-! the plain layer: what is walked, comprehensions -/
namespace PL
open PySem PySem.Spec L2 DL
def kM : Option PV → Option PV
  | some (.ls .ke l) => some (.ls .rd l)
  | v => v
/-- the slots while a slot's list is walked -/
def wk (o : Option Nat) (ρ : PEn) : PEn := match o with
  | none => ρ
  | some i => match ρ[i]? with
    | some (some (.ls _ l)) => (ρ.map kM).set i (some (.ls .rd l))
    | _ => ρ.map kM
abbrev PI' := PEn → Rs (List D × Option Nat)
structure ItO (P0 : Nat → Prop) (ρ : PEn) (σ : SD) (η : Hd) (it : Its) (o : Option Nat) : Prop where
  sl : ∀ i, o = some i → ∃ (m : Md) (l : List D), ρ[i]? = some (some (.ls m l))
  at_ : (it.fz = none ∧ ∀ i, o = some i → ∃ l : List D, ρ[i]? = some (some (.ls .rd l))) ∨
    ∃ r l, it.fz = some (r, l) ∧ r < η.nx ∧ η.get r = some (.lst l) ∧ (match o with
      | none => ¬ Pr P0 ρ σ r
      | some i => σ[i]? = some (some (.ref r)))
def SI (c : CI) (p : PI') : Prop := ∀ ⦃P0 : Nat → Prop⦄ ⦃b : Nat⦄ ⦃ρ : PEn⦄ ⦃σ : SD⦄ ⦃η : Hd⦄ ⦃kv : Its → Hd → Bool⦄ ⦃kx : KX⦄, Rep P0 b ρ σ η →
  (p ρ).ok (fun v => ∀ it η', it.l = v.1 → Fr (Pr P0 ρ σ) η η' → ItO P0 ρ σ η' it v.2 → kv it η' = true) (fun x => ∀ η', Fr (Pr P0 ρ σ) η η' → kx x η' = true) → c σ η kv kx = true
section
variable {P0 : Nat → Prop} {b : Nat} {ρ : PEn} {σ : SD} {η η1 η2 : Hd} {it : Its} {o : Option Nat}
theorem wk_len : (wk o ρ).length = ρ.length := by
  unfold wk
  split
  · rfl
  · split
    · rw [List.length_set, List.length_map]
    · rw [List.length_map]
theorem kM_own {v : PV} (hv : v.own = true) {u : Option PV} (h : kM u = some v) : u = some v := by
  unfold kM at h
  split at h
  · cases h; cases hv
  · exact h
theorem wk_own {j : Nat} {v : PV} (hv : v.own = true) (h : (wk o ρ)[j]? = some (some v)) : ρ[j]? = some (some v) := by
  unfold wk at h
  split at h
  · exact h
  · rename_i i
    split at h
    · rename_i m l e
      by_cases z : i = j
      · subst z
        have hi : i < ρ.length := (List.getElem?_eq_some_iff.mp e).1
        rw [List.getElem?_set_self (by rw [List.length_map]; exact hi)] at h
        cases h; cases hv
      · rw [List.getElem?_set_ne z, List.getElem?_map] at h
        cases e2 : ρ[j]? with
        | none => rw [e2] at h; cases h
        | some u => rw [e2] at h; rw [kM_own hv (Option.some.inj h)]
    · rw [List.getElem?_map] at h
      cases e2 : ρ[j]? with
      | none => rw [e2] at h; cases h
      | some u => rw [e2] at h; rw [kM_own hv (Option.some.inj h)]
theorem own_wk {j : Nat} {v : PV} (hv : v.own = true) (h : ρ[j]? = some (some v)) : (wk o ρ)[j]? = some (some v) ∨ o = some j := by
  unfold wk
  split
  · exact .inl h
  · rename_i i
    have e : kM (some v) = some v := by
      unfold kM; split
      · rename_i z; cases z; cases hv
      · rfl
    by_cases z : i = j
    · exact .inr (by rw [z])
    · refine .inl ?_
      split
      · rw [List.getElem?_set_ne z, List.getElem?_map, h]
        show some (kM (some v)) = _
        rw [e]
      · rw [List.getElem?_map, h]
        show some (kM (some v)) = _
        rw [e]
/-- what a slot holds meanwhile -/
theorem wk_get {j : Nat} {v : PV} (h : (wk o ρ)[j]? = some (some v)) : ρ[j]? = some (some v) ∧ (∀ l, v = .ls .ke l → o = none) ∨ ∃ m l, v = .ls .rd l ∧ ρ[j]? = some (some (.ls m l)) := by
  unfold wk at h
  split at h
  · exact .inl ⟨h, fun _ _ => rfl⟩
  · rename_i i
    have gen : ∀ {u : Option PV}, ρ[j]? = some u → kM u = some v → ρ[j]? = some (some v) ∧ (∀ l, v = .ls .ke l → (some i : Option Nat) = none) ∨ ∃ m l, v = .ls .rd l ∧ ρ[j]? = some (some (.ls m l)) := fun {u} e hk => by
      unfold kM at hk
      split at hk
      · cases hk; exact .inr ⟨_, _, rfl, e⟩
      · rename_i hne
        subst hk
        exact .inl ⟨e, fun l z => by subst z; exact absurd rfl (hne l)⟩
    split at h
    · rename_i m l e
      by_cases z : i = j
      · subst z
        have hi : i < ρ.length := (List.getElem?_eq_some_iff.mp e).1
        rw [List.getElem?_set_self (by rw [List.length_map]; exact hi)] at h
        cases h
        exact .inr ⟨m, l, rfl, e⟩
      · rw [List.getElem?_set_ne z, List.getElem?_map] at h
        cases e2 : ρ[j]? with
        | none => rw [e2] at h; cases h
        | some u => rw [e2] at h; rw [← e2]; exact gen e2 (Option.some.inj h)
    · rw [List.getElem?_map] at h
      cases e2 : ρ[j]? with
      | none => rw [e2] at h; cases h
      | some u => rw [e2] at h; rw [← e2]; exact gen e2 (Option.some.inj h)
theorem wk_pr {q : Nat} (h : Pr P0 (wk o ρ) σ q) : Pr P0 ρ σ q := by
  rcases h with h | ⟨j, v, h1, h2, h3⟩
  · exact .inl h
  · exact .inr ⟨j, v, wk_own h2 h1, h2, h3⟩
theorem frz_list {r q : Nat} {l l' : List D} (h : η.get r = some (.lst l)) (e : η.list q = some l') : (frzAt r l η).list q = some l' := by
  by_cases z : q = r
  · subst z
    rw [list_lst h] at e; cases e
    exact list_frz (get_set_eq h)
  · have : (frzAt r l η).get q = η.get q := get_set_ne z
    unfold Hd.list
    rw [this]
    exact e
theorem frz_oth {r q : Nat} {l : List D} {c : Cell} (h : η.get r = some (.lst l)) (e : η.get q = some c) (hc : ∀ l, c ≠ .lst l) : (frzAt r l η).get q = some c := by
  have z : q ≠ r := fun z => by subst z; rw [h] at e; exact hc l (Option.some.inj e).symm
  rw [← e]; exact get_set_ne z
/-- frozen -/
theorem Rep.frz (R : Rep P0 b ρ σ η) (i : ItO P0 ρ σ η it o) : Rep P0 b (wk o ρ) σ (it.fr η) := by
  -- the cells that own slots hold stay
  have gen : ∀ η', η'.nx = η.nx → (∀ q l, η.list q = some l → η'.list q = some l) → (∀ q c, η.get q = some c → (∀ l, c ≠ .lst l) → η'.get q = some c) →
      (∀ (j : Nat) (v : PV) (r : Nat) (l : List D), (wk o ρ)[j]? = some (some v) → (v.own = true ∨ v = .ls .ke l) → σ[j]? = some (some (.ref r)) → η.get r = some (.lst l) → η'.get r = some (.lst l)) → Rep P0 b (wk o ρ) σ η' := fun η' hn hl hc hw => by
    refine ⟨fun q h => by rw [hn]; exact R.old q h, by rw [hn]; exact R.bn, by rw [wk_len]; exact R.len, fun j v h => ?_, fun j v h hv => R.ow j v (wk_own hv h) hv, fun j l h => ?_, fun j t l h => ?_, fun j k v w d hjk h1 h2 h3 h5 h4 => ?_⟩
    · rcases wk_get h with ⟨h0, hk⟩ | ⟨m, l, rfl, h0⟩
      · obtain ⟨d, e, r⟩ := R.at_ j v h0
        refine ⟨d, e, ?_⟩
        cases v with
        | im _ => exact r
        | ls m l =>
          obtain ⟨r, z1, z2, z3, z4, z5⟩ := r
          refine ⟨r, z1, by rw [hn]; exact z2, hl _ _ z3, fun hm => ⟨?_, ?_⟩, fun hm p => z5 hm (wk_pr p)⟩
          · cases m with
            | ow => exact .inr ⟨j, _, h, rfl, by rw [e, z1]⟩
            | ke => obtain ⟨r', y1, y2⟩ := R.ke j l h0; rw [e, z1] at y1; cases y1; exact .inl y2
            | _ => cases hm
          · refine hw j _ r l h ?_ (by rw [e, z1]) (z4 hm).2
            cases m with
            | ow => exact .inl rfl
            | ke => exact .inr rfl
            | _ => cases hm
        | dc m t l =>
          obtain ⟨r, z1, z2, z3, z4, z5⟩ := r
          refine ⟨r, z1, by rw [hn]; exact z2, hc _ _ z3 (fun _ z => nomatch z), fun hm => ?_, fun hm p => z5 hm (wk_pr p)⟩
          cases m with
          | ow => exact .inr ⟨j, _, h, rfl, by rw [e, z1]⟩
          | ke => obtain ⟨r', y1, y2⟩ := R.kd j t l h0; rw [e, z1] at y1; cases y1; exact .inl y2
          | _ => cases hm
        | cl c =>
          obtain ⟨r, z1, z2, z3, z4⟩ := r
          exact ⟨r, z1, by rw [hn]; exact z2, hc _ _ z3 (fixC_lst z4).1, z4⟩
      · obtain ⟨d, e, r⟩ := R.at_ j _ h0
        obtain ⟨r, z1, z2, z3, z4, z5⟩ := r
        exact ⟨d, e, r, z1, by rw [hn]; exact z2, hl _ _ z3, fun hm => (nomatch hm), fun hm => by rcases hm with hm | hm <;> cases hm⟩
    · rcases wk_get h with ⟨h0, _⟩ | ⟨m, l', z, h0⟩
      · exact R.ke j l h0
      · cases z
    · rcases wk_get h with ⟨h0, _⟩ | ⟨m, l', z, h0⟩
      · exact R.kd j t l h0
      · cases z
    · have g1 := wk_own h2 h1
      rcases wk_get h3 with ⟨h0, _⟩ | ⟨m, l', z, h0⟩
      · exact R.dj j k v w d hjk g1 h2 h0 h5 h4
      · exact R.dj j k v _ d hjk g1 h2 h0 rfl h4
  rcases i.at_ with ⟨e, _⟩ | ⟨r, l, e, lt, g, ho⟩
  · have : it.fr η = η := by unfold Its.fr; rw [e]
    rw [this]
    exact gen η rfl (fun _ _ h => h) (fun _ _ h _ => h) (fun _ _ _ _ _ _ _ h => h)
  · have : it.fr η = frzAt r l η := by unfold Its.fr; rw [e]
    rw [this]
    refine gen (frzAt r l η) rfl (fun _ _ h => frz_list g h) (fun _ _ h hc => frz_oth g h hc) fun j v q l' h hv hs hq => ?_
    have z : q ≠ r := fun z => by
      subst z
      rcases hv with hv | hv
      · have hj := wk_own hv h
        cases o with
        | none => exact ho (.inr ⟨j, v, hj, hv, hs⟩)
        | some i0 =>
          obtain ⟨m, l2, e2⟩ := i.sl i0 rfl
          by_cases y : j = i0
          · subst y
            unfold wk at h
            simp only [e2] at h
            have hi : j < ρ.length := (List.getElem?_eq_some_iff.mp e2).1
            rw [List.getElem?_set_self (by rw [List.length_map]; exact hi)] at h
            cases h; cases hv
          · exact R.dj j i0 v _ _ y hj hv e2 rfl hs ho
      · subst hv
        rcases wk_get h with ⟨h0, hk⟩ | ⟨m, l2, y, _⟩
        · have := hk _ rfl
          subst this
          obtain ⟨r', y1, y2⟩ := R.ke j l' h0
          rw [hs] at y1; cases y1
          exact ho (.inl y2)
        · cases y
    show (η.set r (.frz l)).get q = _
    rw [get_set_ne z]; exact hq
theorem fr_nx (it : Its) (η : Hd) : (it.fr η).nx = η.nx := by
  unfold Its.fr; cases it.fz with
  | none => rfl
  | some p => rfl
/-- thawed -/
theorem Fr.thaw (R : Rep P0 b ρ σ η) (i : ItO P0 ρ σ η it o) (f : Fr (Pr P0 (wk o ρ) σ) (it.fr η) η2) : Fr (Pr P0 ρ σ) η (it.un η2) := by
  have n2 : η.nx ≤ η2.nx := by have := f.1; rw [fr_nx] at this; exact this
  rcases i.at_ with ⟨e, ho⟩ | ⟨r, l, e, lt, g, ho⟩
  · have e1 : it.fr η = η := by unfold Its.fr; rw [e]
    have e2 : it.un η2 = η2 := by unfold Its.un; rw [e]
    rw [e2]
    rw [e1] at f
    refine f.weak fun q hq p => ?_
    rcases p with p | ⟨j, v, h1, h2, h3⟩
    · exact .inl p
    · rcases own_wk (o := o) h2 h1 with h | h
      · exact .inr ⟨j, v, h, h2, h3⟩
      · obtain ⟨l', e'⟩ := ho j h
        rw [h1] at e'; cases e'; cases h2
  · have e1 : it.fr η = frzAt r l η := by unfold Its.fr; rw [e]
    have e2 : it.un η2 = unfAt r l η2 := by unfold Its.un; rw [e]
    rw [e1] at f
    rw [e2]
    have gr : η2.get r = some (.frz l) := f.get (show r < (frzAt r l η).nx from lt) (get_set_eq g) fun _ z => nomatch z
    refine ⟨n2, fun q hq => ?_⟩
    by_cases z : q = r
    · subst z
      exact .inl ((get_set_eq gr).trans g.symm)
    · have q1 : (unfAt r l η2).get q = η2.get q := get_set_ne z
      have q2 : (frzAt r l η).get q = η.get q := get_set_ne z
      rw [q1]
      rcases f.2 q hq with h | ⟨hp, l', h1, h2⟩
      · exact .inl (h.trans q2)
      · refine .inr ⟨fun p => hp ?_, l', q2.symm.trans h1, h2⟩
        rcases p with p | ⟨j, v, h1, h2, h3⟩
        · exact .inl p
        · rcases own_wk (o := o) h2 h1 with h | h
          · exact .inr ⟨j, v, h, h2, h3⟩
          · subst h
            have ho' : σ[j]? = some (some (.ref r)) := ho
            rw [h3] at ho'
            cases ho'
            exact absurd rfl z
end
/-! ### sources -/
def pSeqV (i : Nat) : PI' := fun ρ => match ρ[i]? with
  | some (some (.im (.tup l))) => .val (l, none)
  | some (some (.ls m l)) => match m with
    | .fr => .bad
    | .lo => .val (l, none)
    | _ => .val (l, some i)
  | _ => .bad
theorem itO_none {P0 : Nat → Prop} {ρ : PEn} {σ : SD} {η : Hd} {l : List D} : ItO P0 ρ σ η ⟨l, none⟩ none := ⟨fun _ z => (nomatch z), .inl ⟨rfl, fun _ z => (nomatch z)⟩⟩
theorem itO_list {P0 : Nat → Prop} {ρ : PEn} {σ : SD} {η : Hd} {l : List D} {r : Nat} (lt : r < η.nx) (g : η.list r = some l) (hp : ¬ Pr P0 ρ σ r) : ∃ it, itsOf η (.ref r) = some it ∧ it.l = l ∧ ItO P0 ρ σ η it none := by
  rcases list_cases g with q | q
  · exact ⟨⟨l, some (r, l)⟩, by simp only [itsOf, q], rfl, fun _ z => (nomatch z), .inr ⟨r, l, rfl, lt, q, hp⟩⟩
  · exact ⟨⟨l, none⟩, by simp only [itsOf, q], rfl, itO_none⟩
theorem si_var {i : Nat} : SI (ciSeq (cVar i)) (pSeqV i) := by
  intro P0 b ρ σ η kv kx R h
  unfold pSeqV at h
  have go : ∀ {v : PV} {l : List D} {o : Option Nat}, ρ[i]? = some (some v) → (∃ m, v = .ls m l) → v.fre = false → (∀ d r, σ[i]? = some (some d) → d = .ref r → η.list r = some l → r < η.nx → ∃ it, itsOf η (.ref r) = some it ∧ it.l = l ∧ ItO P0 ρ σ η it o) →
      (∀ it η', it.l = l → Fr (Pr P0 ρ σ) η η' → ItO P0 ρ σ η' it o → kv it η' = true) → ciSeq (cVar i) σ η kv kx = true := fun {v l o} e hv hf hi hk => by
    obtain ⟨m, rfl⟩ := hv
    obtain ⟨d, e1, r, z1, z2, z3, _⟩ := R.at_ i _ e
    obtain ⟨it, y1, y2, y3⟩ := hi d r e1 z1 z3 z2
    unfold ciSeq cVar
    rw [e1, z1]
    simp only [y1]
    exact hk it η y2 (Fr.refl _ _) y3
  split at h
  · rename_i l e
    obtain ⟨d, e1, e2⟩ := R.at_ i _ e
    cases e2
    unfold ciSeq cVar
    rw [e1]
    exact h ⟨l, none⟩ η rfl (Fr.refl _ _) itO_none
  · rename_i m l e
    have own : ∀ it, (it.fz = none ∧ (m = .rd)) ∨ (∃ r, it.fz = some (r, l) ∧ r < η.nx ∧ η.get r = some (.lst l) ∧ σ[i]? = some (some (.ref r))) → ItO P0 ρ σ η it (some i) := fun it hh =>
      ⟨fun j z => by cases z; exact ⟨m, l, e⟩, by
        rcases hh with ⟨h1, h2⟩ | ⟨r, h1, h2, h3, h4⟩
        · subst h2; exact .inl ⟨h1, fun j z => by cases z; exact ⟨l, e⟩⟩
        · exact .inr ⟨r, l, h1, h2, h3, h4⟩⟩
    have tight : m.pro = true → (∀ it η', it.l = l → Fr (Pr P0 ρ σ) η η' → ItO P0 ρ σ η' it (some i) → kv it η' = true) → ciSeq (cVar i) σ η kv kx = true := fun hm hk => by
      obtain ⟨d, e1, r, z1, z2, z3, z4, _⟩ := R.at_ i _ e
      have g := (z4 hm).2
      unfold ciSeq cVar
      rw [e1, z1]
      simp only [itsOf, g]
      exact hk _ η rfl (Fr.refl _ _) (own _ (.inr ⟨r, rfl, z2, g, by rw [e1, z1]⟩))
    cases m with
    | fr => exact h.elim
    | lo =>
      refine go e ⟨_, rfl⟩ rfl (fun d r e1 z1 z3 z2 => itO_list z2 z3 fun p => ?_) h
      obtain ⟨d', e1', r', y1, _, _, _, y5⟩ := R.at_ i _ e
      rw [e1] at e1'; cases e1'
      rw [z1] at y1; cases y1
      exact y5 (.inl rfl) p
    | ke => exact tight rfl h
    | ow => exact tight rfl h
    | rd =>
      refine go e ⟨_, rfl⟩ rfl (fun d r e1 z1 z3 z2 => ?_) h
      subst z1
      rcases list_cases z3 with q | q
      · exact ⟨⟨l, some (r, l)⟩, by simp only [itsOf, q], rfl, own _ (.inr ⟨r, rfl, z2, q, e1⟩)⟩
      · exact ⟨⟨l, none⟩, by simp only [itsOf, q], rfl, own _ (.inl ⟨rfl, rfl⟩)⟩
  · exact h.elim
def pR1 (a : PE) : PI' := fun ρ => (a ρ).bind fun x => match x with
  | .im (.int j) => match rOk j with
    | true => .val (rangeD j.toNat 0, none)
    | false => .bad
  | _ => .bad
def pR2 (a b : PE) : PI' := fun ρ => (a ρ).bind fun x => (b ρ).bind fun y => match x, y with
  | .im (.int i), .im (.int j) => match rOk i, rOk j with
    | true, true => .val (rangeD (j - i).toNat i, none)
    | _, _ => .bad
  | _, _ => .bad
theorem si_r1 {a : CE} {pa : PE} (ha : SE a pa) : SI (ciR1 (cCons a cNil)) (pR1 pa) := by
  intro P0 b ρ σ η kv kx R h
  show a σ η _ kx = true
  refine ha R (Rs.imp (Rs.bind_ok h) (fun x hx dx η1 f1 s1 n1 => ?_) (fun x hx η' f => hx η' f))
  split at hx
  · cases s1
    split at hx
    · rename_i e
      simp only [cNil, e]
      exact hx ⟨_, none⟩ η1 rfl f1 itO_none
    · exact hx.elim
  · exact hx.elim
theorem si_r2 {a c : CE} {pa pc : PE} (ha : SE a pa) (hc : SE c pc) : SI (ciR2 (cCons a (cCons c cNil))) (pR2 pa pc) := by
  intro P0 b ρ σ η kv kx R h
  show a σ η _ kx = true
  refine ha R (Rs.imp (Rs.bind_ok h) (fun x hx dx η1 f1 s1 n1 => ?_) (fun x hx η' f => hx η' f))
  show c σ η1 _ kx = true
  refine hc (R.mono f1) (Rs.imp (Rs.bind_ok hx) (fun y hy dy η2 f2 s2 n2 => ?_) (fun x hx η' f => hx η' (f1.trans f)))
  split at hy
  · cases s1; cases s2
    split at hy
    · rename_i e1 e2
      simp only [cNil, e1, e2]
      exact hy ⟨_, none⟩ η2 rfl (f1.trans f2) itO_none
    · exact hy.elim
  · exact hy.elim
def pRevV (i : Nat) : PI' := fun ρ => (pSeqV i ρ).bind fun x => .val (x.1.reverse, x.2)
theorem si_revV {i : Nat} : SI (ciRev (cVar i)) (pRevV i) := by
  intro P0 b ρ σ η kv kx R h
  have : ciRev (cVar i) σ η kv kx = ciSeq (cVar i) σ η (fun it η1 => kv ⟨it.l.reverse, it.fz⟩ η1) kx := by
    unfold ciRev ciSeq itsRev
    congr 1; funext d η1
    cases itsOf η1 d <;> rfl
  rw [this]
  refine si_var R (Rs.imp (Rs.bind_ok h) (fun v hv it η1 e f i => ?_) (fun x hx => hx))
  exact hv _ η1 (by rw [← e]) f ⟨i.sl, i.at_⟩
/-- read alone from now on -/
def frzL : PV → Option (List D)
  | .im (.tup l) => some l
  | .ls .fr l => some l
  | .ls .lo l => some l
  | _ => none
theorem frzL_ok {P0 : Nat → Prop} {b : Nat} {ρ : PEn} {σ : SD} {η : Hd} {v : PV} {d : D} {l : List D} (R : Rep P0 b ρ σ η) (s : RS P0 ρ σ η v d) (h : frzL v = some l) : ∃ η', frzD η d = some (l, η') ∧ Fr (Pr P0 ρ σ) η η' ∧ ∀ {w : PV} {e : D}, w.fre = false → RS P0 ρ σ η w e → RS P0 ρ σ η' w e := by
  have go : ∀ r, d = .ref r → r < η.nx → η.list r = some l → ¬ Pr P0 ρ σ r → ∃ η', frzD η d = some (l, η') ∧ Fr (Pr P0 ρ σ) η η' ∧ ∀ {w : PV} {e : D}, w.fre = false → RS P0 ρ σ η w e → RS P0 ρ σ η' w e := fun r e lt g hp => by
    subst e
    rcases list_cases g with q | q
    · refine ⟨frzAt r l η, by simp only [frzD, q], ⟨Nat.le_refl _, fun p hq => ?_⟩, fun {w e} hw s => ?_⟩
      · by_cases z : p = r
        · subst z; exact .inr ⟨hp, l, q, get_set_eq q⟩
        · exact .inl (get_set_ne z)
      · cases w with
        | im _ => exact s
        | ls m l' => cases m with
          | fr => cases hw
          | lo => obtain ⟨r', z1, z2, z3, z4⟩ := s; exact ⟨r', z1, z2, frz_list q z3, z4⟩
          | ke => exact s
          | ow => exact s
          | rd => exact s
        | dc m t l' => cases m with
          | fr => cases hw
          | lo => exact s
          | ke => exact s
          | ow => exact s
          | rd => exact s
        | cl c =>
          obtain ⟨r', z1, z2, z3, z4⟩ := s
          exact ⟨r', z1, z2, frz_oth q z3 (fixC_lst z4).1, z4⟩
    · exact ⟨η, by simp only [frzD, q], Fr.refl _ _, fun _ s => s⟩
  unfold frzL at h
  split at h
  · cases h; cases s; exact ⟨η, rfl, Fr.refl _ _, fun _ s => s⟩
  · cases h; obtain ⟨r, z1, z2, z3, z4⟩ := s; exact go r z1 z2 (list_lst z3) z4
  · cases h; obtain ⟨r, z1, z2, z3, z4⟩ := s; exact go r z1 z2 z3 z4
  · cases h
def pEnum (a : PE) : PI' := fun ρ => (a ρ).bind fun x => match frzL x with
  | some l => .val (enumD 0 l, none)
  | none => .bad
theorem si_enum {a : CE} {pa : PE} (ha : SE a pa) : SI (ciEnum (cCons a cNil)) (pEnum pa) := by
  intro P0 b ρ σ η kv kx R h
  show a σ η _ kx = true
  refine ha R (Rs.imp (Rs.bind_ok h) (fun x hx dx η1 f1 s1 n1 => ?_) (fun x hx η' f => hx η' f))
  have R1 := R.mono f1
  split at hx
  · rename_i l e
    obtain ⟨η2, e1, f2, _⟩ := frzL_ok R1 s1 e
    simp only [cNil, e1]
    exact hx ⟨_, none⟩ η2 rfl (f1.trans f2) itO_none
  · exact hx.elim
end PL

/-! the plain layer: targets, comprehensions, sums, any, all -/
namespace PL
open PySem PySem.Spec L2 DL
/-! ### targets -/
abbrev PG' := D → PEn → Rs PEn
def SG (c : CG) (p : PG') : Prop := ∀ ⦃P0 : Nat → Prop⦄ ⦃b : Nat⦄ ⦃d : D⦄ ⦃ρ : PEn⦄ ⦃σ : SD⦄ ⦃η : Hd⦄ ⦃k : SD → Hd → Bool⦄ ⦃kx : KX⦄, Rep P0 b ρ σ η →
  (p d ρ).ok (fun ρ1 => ∀ σ1, Rep P0 b ρ1 σ1 η → (∀ q, Pr P0 ρ σ q → Pr P0 ρ1 σ1 q) → k σ1 η = true) (fun _ => False) → c d σ η k kx = true
def pNm (i : Nat) : PG' := fun d ρ => match ρ[i]? with
  | some (some (.ls .ow _)) => .bad
  | some (some (.dc .ow _ _)) => .bad
  | _ => .val (ρ.set i (some (.im d)))
section
variable {P0 : Nat → Prop} {b : Nat} {ρ : PEn} {σ : SD} {η η1 η2 : Hd}
theorem pr_set {i : Nat} {w : Option PV} {x : Option D} {q : Nat} (h : ∀ v, ρ[i]? = some (some v) → v.own = false) (p : Pr P0 ρ σ q) : Pr P0 (ρ.set i w) (σ.set i x) q := by
  rcases p with p | ⟨j, v, h1, h2, h3⟩
  · exact .inl p
  · have z : i ≠ j := fun z => by subst z; rw [h v h1] at h2; cases h2
    exact .inr ⟨j, v, by rw [List.getElem?_set_ne z]; exact h1, h2, by rw [List.getElem?_set_ne z]; exact h3⟩
theorem sg_nm {i : Nat} : SG (gNm i) (pNm i) := by
  intro P0 b d ρ σ η k kx R h
  show k (σ.set i (some d)) η = true
  have go : (∀ v, ρ[i]? = some (some v) → v.own = false) → (∀ σ1, Rep P0 b (ρ.set i (some (.im d))) σ1 η → (∀ q, Pr P0 ρ σ q → Pr P0 (ρ.set i (some (.im d))) σ1 q) → k σ1 η = true) → k (σ.set i (some d)) η = true := fun hn hk =>
    hk _ (R.put (v := .im d) (Fr.refl _ _) rfl (fun z => nomatch z) rfl i) fun q p => pr_set hn p
  unfold pNm at h
  split at h
  · exact h.elim
  · exact h.elim
  · rename_i h1 h2
    refine go (fun v e => ?_) h
    cases v with
    | im _ => rfl
    | ls m l => cases m <;> first | rfl | exact absurd e (h1 _)
    | dc m t l => cases m <;> first | rfl | exact absurd e (h2 _ _)
    | cl c => rfl
end
abbrev PGs' := List D → PEn → Rs PEn
def SGs (c : CGs) (p : PGs') : Prop := ∀ ⦃P0 : Nat → Prop⦄ ⦃b : Nat⦄ ⦃ds : List D⦄ ⦃ρ : PEn⦄ ⦃σ : SD⦄ ⦃η : Hd⦄ ⦃k : SD → Hd → Bool⦄ ⦃kx : KX⦄, Rep P0 b ρ σ η →
  (p ds ρ).ok (fun ρ1 => ∀ σ1, Rep P0 b ρ1 σ1 η → (∀ q, Pr P0 ρ σ q → Pr P0 ρ1 σ1 q) → k σ1 η = true) (fun _ => False) → c ds σ η k kx = true
def pgNil : PGs' := fun ds ρ => match ds with
  | [] => .val ρ
  | _ => .bad
def pgCons (g : PG') (r : PGs') : PGs' := fun ds ρ => match ds with
  | d :: ds' => (g d ρ).bind fun ρ1 => r ds' ρ1
  | [] => .bad
theorem sgs_nil : SGs gsNil pgNil := by
  intro P0 b ds ρ σ η k kx R h
  cases ds with
  | nil => exact h σ R fun _ p => p
  | cons d ds => exact h.elim
theorem sgs_cons {g : CG} {r : CGs} {pg : PG'} {pr : PGs'} (hg : SG g pg) (hr : SGs r pr) : SGs (gsCons g r) (pgCons pg pr) := by
  intro P0 b ds ρ σ η k kx R h
  cases ds with
  | nil => exact h.elim
  | cons d ds =>
    show g d σ η _ kx = true
    refine hg R (Rs.imp (Rs.bind_ok h) (fun ρ1 h1 σ1 R1 p1 => ?_) (fun x hx => hx))
    exact hr R1 (Rs.imp h1 (fun ρ2 h2 σ2 R2 p2 => h2 σ2 R2 fun q p => p2 q (p1 q p)) (fun x hx => hx))
def pTp (n : Nat) (r : PGs') : PG' := fun d ρ => match d with
  | .tup ds => match Nat.beq ds.length n with
    | true => r ds ρ
    | false => .bad
  | _ => .bad
theorem sg_tp {n : Nat} {r : CGs} {pr : PGs'} (hr : SGs r pr) : SG (gTp n r) (pTp n pr) := by
  intro P0 b d ρ σ η k kx R h
  cases d with
  | tup ds =>
    simp only [gTp, pTp] at h ⊢
    cases e : Nat.beq ds.length n with
    | true => rw [e] at h; exact hr R h
    | false => rw [e] at h; exact h.elim
  | _ => exact h.elim
/-! ### comprehensions -/
def plc (g : PG') (t : PT) (e : PE) (ρ : PEn) : List D → Rs (List D)
  | [] => .val []
  | d :: ds => (g d ρ).bind fun ρ1 => (t ρ1).bind fun x => match x with
    | true => (e ρ1).bind fun v => match v with
      | .im y => (plc g t e ρ ds).bind fun ys => .val (y :: ys)
      | _ => .bad
    | false => plc g t e ρ ds
def wipP (vs : List Nat) (ρ : PEn) : PEn := vs.foldr (fun v r => r.set v none) ρ
def nox {α : Type} : Rs α → Rs α
  | .exc _ => .bad
  | .val a => .val a
  | .bad => .bad
  | .all n f => .all n fun v => nox (f v)
theorem nox_ok {α : Type} {r : Rs α} {Q : α → Prop} {E : Xc → Prop} (h : (nox r).ok Q E) : r.ok Q (fun _ => False) := by
  induction r with
  | val a => exact h
  | exc x => exact h
  | bad => exact h
  | all n f ih => exact fun v hv => ih v (h v hv)
section
variable {g : CG} {t : CT} {e : CE} {pg : PG'} {pt : PT} {pe : PE}
theorem lc_loop (hg : SG g pg) (ht : ST t pt) (he : SE e pe) {P0 : Nat → Prop} {b : Nat} {ρ : PEn} {σ : SD} {k : List D → Hd → Bool} : ∀ (l : List D) (n : Nat) (acc : List D) (η : Hd), l.length ≤ n → Rep P0 b ρ σ η →
    (plc pg pt pe ρ l).ok (fun ys => ∀ η', Fr (Pr P0 ρ σ) η η' → k (acc.reverse ++ ys) η' = true) (fun _ => False) → lcD g t e σ k l n acc η = true
  | [], n, acc, η, _, R, h => by
    have := h η (Fr.refl _ _)
    rw [List.append_nil] at this
    exact this
  | d :: ds, n, acc, η, hn, R, h => by
    obtain ⟨n, rfl⟩ : ∃ m, n = m + 1 := ⟨n - 1, by simp at hn; omega⟩
    have hn' : ds.length ≤ n := by simp at hn; omega
    rw [lcD]
    refine hg R (Rs.imp (Rs.bind_ok h) (fun ρ1 h1 σ1 R1 p1 => ?_) (fun x hx => hx))
    have lift : ∀ {η η' : Hd}, Fr (Pr P0 ρ1 σ1) η η' → Fr (Pr P0 ρ σ) η η' := fun f => f.weak fun q _ p => p1 q p
    refine ht R1 (Rs.imp (Rs.bind_ok h1) (fun x h2 η1 f1 => ?_) (fun x hx => hx.elim))
    cases x with
    | false => exact lc_loop hg ht he ds n acc η1 hn' (R.mono (lift f1)) (Rs.imp h2 (fun ys hy η' f => hy η' ((lift f1).trans f)) (fun x hx => hx))
    | true =>
      refine he (R1.mono f1) (Rs.imp (Rs.bind_ok h2) (fun v h3 dv η2 f2 s2 n2 => ?_) (fun x hx => hx.elim))
      have f12 := (lift f1).trans (lift f2)
      cases v with
      | im y =>
        cases s2
        refine lc_loop hg ht he ds n (dv :: acc) η2 hn' (R.mono f12) (Rs.imp (Rs.bind_ok h3) (fun ys hy η' f => ?_) (fun x hx => hx))
        have := hy η' (f12.trans f)
        rw [List.reverse_cons, List.append_assoc]
        exact this
      | _ => exact h3.elim
theorem un_nx (it : Its) (η : Hd) : (it.un η).nx = η.nx := Its.un_nx it η
theorem pr_wip {P0 : Nat → Prop} {q : Nat} {ρ : PEn} {σ : SD} : ∀ {vs : List Nat}, (∀ v ∈ vs, ∀ u : PV, ρ[v]? = some (some u) → u.own = false) → Pr P0 ρ σ q → Pr P0 (wipP vs ρ) (wipeD σ vs) q
  | [], _, p => p
  | v :: vs, h, p => by
    have ih := pr_wip (fun w hw => h w (.tail _ hw)) p (vs := vs)
    refine pr_set (ρ := wipP vs ρ) (σ := wipeD σ vs) (fun u e => h v (.head _) u ?_) ih
    have : ∀ (vs : List Nat), (wipP vs ρ)[v]? = some (some u) → ρ[v]? = some (some u) := by
      intro vs
      induction vs with
      | nil => exact id
      | cons w vs ih =>
        intro e
        refine ih ?_
        show (wipP vs ρ)[v]? = _
        have e : ((wipP vs ρ).set w none)[v]? = some (some u) := e
        by_cases z : w = v
        · subst z
          by_cases hi : w < (wipP vs ρ).length
          · rw [List.getElem?_set_self hi] at e; cases e
          · rw [List.getElem?_eq_none (by rw [List.length_set]; omega)] at e; cases e
        · rw [List.getElem?_set_ne z] at e; exact e
    exact this vs e
/-- the slots that are wiped are no lists of their own -/
def wipOk (vs : List Nat) (ρ : PEn) : Bool := vs.all fun v => match ρ[v]? with
  | some (some (.ls .ow _)) => false
  | some (some (.dc .ow _ _)) => false
  | _ => true
theorem wipOk_ok {vs : List Nat} {ρ : PEn} (h : wipOk vs ρ = true) : ∀ v ∈ vs, ∀ u : PV, ρ[v]? = some (some u) → u.own = false := fun v hv u e => by
  have := List.all_eq_true.mp h v hv
  rw [e] at this
  cases u with
  | im _ => rfl
  | ls m l => cases m <;> first | rfl | cases this
  | dc m t l => cases m <;> first | rfl | cases this
  | cl c => rfl
end

/-- a walk of a comprehension, from ahead of it to behind it -/
theorem walk_in {P0 : Nat → Prop} {b : Nat} {ρ : PEn} {σ : SD} {η1 : Hd} {it : Its} {o : Option Nat} {vs : List Nat} (R1 : Rep P0 b ρ σ η1) (io : ItO P0 ρ σ η1 it o) (hw : wipOk vs (wk o ρ) = true) :
    Rep P0 b (wipP vs (wk o ρ)) (wipeD σ vs) (it.fr η1) ∧ ∀ η2, Fr (Pr P0 (wipP vs (wk o ρ)) (wipeD σ vs)) (it.fr η1) η2 → Fr (Pr P0 ρ σ) η1 (it.un η2) :=
  ⟨(R1.frz io).wipe vs, fun η2 f => Fr.thaw R1 io (f.weak fun q _ p => pr_wip (wipOk_ok hw) p)⟩
def pLc (i : PI') (g : PG') (t : PT) (e : PE) (vs : List Nat) : PE := fun ρ => (i ρ).bind fun lo => match wipOk vs (wk lo.2 ρ), Nat.ble lo.1.length line1 with
  | true, true => (nox (plc g t e (wipP vs (wk lo.2 ρ)) lo.1)).bind fun ys => .val (.ls .fr ys)
  | _, _ => .bad
section
variable {i i1 : CI} {g g1 : CG} {t t1 : CT} {e : CE} {pi pi1 : PI'} {pg pg1 : PG'} {pt pt1 : PT} {pe : PE} {vs vs1 : List Nat}
theorem se_lc (hi : SI i pi) (hg : SG g pg) (ht : ST t pt) (he : SE e pe) : SE (cLc i g t e vs) (pLc pi pg pt pe vs) := by
  intro P0 b ρ σ η kv kx R h
  unfold cLc
  refine hi R (Rs.imp (Rs.bind_ok h) (fun lo hx it η1 el f1 io => ?_) (fun x hx η' f => hx η' f))
  have R1 := R.mono f1
  split at hx
  · rename_i hw hn
    obtain ⟨Rw, back⟩ := walk_in (vs := vs) R1 io hw
    have hn' : lo.1.length ≤ line1 := Nat.le_of_ble_eq_true hn
    refine lc_loop hg ht he it.l line1 [] _ (by rw [el]; exact hn') (Rw.mono Fr.bump) ?_
    rw [el]
    refine Rs.imp (nox_ok (Rs.bind_ok hx)) (fun ys hy η2 f2 => ?_) (fun x hx => hx)
    have f3 := back η2 (Fr.bump.trans f2)
    have n2 : η1.nx + 1 ≤ η2.nx := by have := f2.1; have e2 := fr_nx it η1; show η1.nx + 1 ≤ _; rw [← e2]; exact this
    refine hy _ _ (f1.trans (Fr.add (Nat.le_refl _) f3)) ⟨η1.nx, rfl, ?_, by rw [Hd.get_add, if_pos rfl]; rfl, fun p => by have := Pr_lt R1 p; omega⟩ fun _ => ⟨η1.nx, rfl, f1.1⟩
    show η1.nx < (it.un η2).nx
    rw [un_nx]; omega
  · exact hx.elim
/-! ### sums -/
/-! ### any, all -/
/-! ### two fors -/
end
end PL

/-! the plain layer: statements, defs -/
namespace PL
open PySem PySem.Spec L2 DL
inductive Ou where
  | nx (ρ : PEn) | rt (v : PV) | bk (ρ : PEn) | ct (ρ : PEn)
abbrev PS' := PEn → Rs Ou
def RT (P0 : Nat → Prop) (b : Nat) (η : Hd) : PV → D → Prop
  | .im e, d => d = e
  | .ls .fr l, d => ∃ r, d = .ref r ∧ b ≤ r ∧ r < η.nx ∧ η.get r = some (.lst l)
  | .ls .lo l, d => ∃ r, d = .ref r ∧ r < η.nx ∧ η.list r = some l ∧ ¬ P0 r
  | .dc .fr t l, d => ∃ r, d = .ref r ∧ b ≤ r ∧ r < η.nx ∧ η.get r = some (.dct t l)
  | .cl c, d => FC η c d
  | _, _ => False
def Sok (P0 : Nat → Prop) (b : Nat) (η : Hd) (k : KS) : Ou → Prop
  | .nx ρ => ∀ σ' η', Rep P0 b ρ σ' η' → Fs P0 b η η' → k.nx σ' η' = true
  | .rt v => ∀ d η', Fs P0 b η η' → RT P0 b η' v d → k.rt d η' = true
  | .bk ρ => ∀ σ' η', Rep P0 b ρ σ' η' → Fs P0 b η η' → k.bk σ' η' = true
  | .ct ρ => ∀ σ' η', Rep P0 b ρ σ' η' → Fs P0 b η η' → k.ct σ' η' = true
def SS (c : CS) (p : PS') : Prop := ∀ ⦃P0 : Nat → Prop⦄ ⦃b : Nat⦄ ⦃ρ : PEn⦄ ⦃σ : SD⦄ ⦃η : Hd⦄ ⦃k : KS⦄, Rep P0 b ρ σ η →
  (p ρ).ok (Sok P0 b η k) (fun x => ∀ η', Fs P0 b η η' → k.xc x η' = true) → c σ η k = true
section
variable {P0 : Nat → Prop} {b : Nat} {ρ : PEn} {σ : SD} {η η1 η2 : Hd} {k : KS} {o : Ou}
theorem Sok.go (h : Sok P0 b η k o) (f : Fs P0 b η η1) : Sok P0 b η1 k o := by
  cases o with
  | nx ρ => exact fun σ' η' R f' => h σ' η' R (f.trans f')
  | rt v => exact fun d η' f' r => h d η' (f.trans f') r
  | bk ρ => exact fun σ' η' R f' => h σ' η' R (f.trans f')
  | ct ρ => exact fun σ' η' R f' => h σ' η' R (f.trans f')
theorem Rep.fs (R : Rep P0 b ρ σ η) (f : Fr (Pr P0 ρ σ) η η1) : Fs P0 b η η1 := f.fs (fun _ p => .inl p) R.bn
/-- a statement behind others -/
theorem SS.go {c : CS} {p : PS'} (h : SS c p) (R : Rep P0 b ρ σ η1) (f : Fs P0 b η η1) (q : (p ρ).ok (Sok P0 b η k) (fun x => ∀ η', Fs P0 b η η' → k.xc x η' = true)) : c σ η1 k = true :=
  h R (Rs.imp q (fun o ho => ho.go f) (fun x hx η' f' => hx η' (f.trans f')))
end
def psNil : PS' := fun ρ => .val (.nx ρ)
def psSeq (a b : PS') : PS' := fun ρ => (a ρ).bind fun o => match o with
  | .nx ρ1 => b ρ1
  | o => .val o
theorem ss_nil : SS sNil psNil := by
  intro P0 b ρ σ η k R h
  exact h σ η R (Fs.refl _ _ _)
theorem ss_seq {a c : CS} {pa pc : PS'} (ha : SS a pa) (hc : SS c pc) : SS (sSeq a c) (psSeq pa pc) := by
  intro P0 b ρ σ η k R h
  unfold sSeq
  refine ha R (Rs.imp (Rs.bind_ok h) (fun o ho => ?_) (fun x hx => hx))
  cases o with
  | nx ρ1 => exact fun σ' η' R' f' => hc.go R' f' ho
  | rt v => exact ho
  | bk ρ1 => exact ho
  | ct ρ1 => exact ho
def psRaise (c : Nat) : PS' := fun _ => .exc ⟨c, none⟩
theorem ss_raise {c : Nat} : SS (sRaise c) (psRaise c) := by
  intro P0 b ρ σ η k R h
  exact h η (Fs.refl _ _ _)
def psIf (t : PT) (a b : PS') : PS' := fun ρ => (t ρ).bind fun x => match x with
  | true => a ρ
  | false => b ρ
theorem ss_if {t : CT} {a c : CS} {pt : PT} {pa pc : PS'} (ht : ST t pt) (ha : SS a pa) (hc : SS c pc) : SS (sIf t a c) (psIf pt pa pc) := by
  intro P0 b ρ σ η k R h
  unfold sIf
  refine ht R (Rs.imp (Rs.bind_ok h) (fun x hx η1 f1 => ?_) (fun x hx η' f => hx η' (R.fs f)))
  cases x with
  | true => exact ha.go (R.mono f1) (R.fs f1) hx
  | false => exact hc.go (R.mono f1) (R.fs f1) hx
def retM : PV → Option PV
  | .im d => some (.im d)
  | .ls .fr l => some (.ls .fr l)
  | .ls .ow l => some (.ls .fr l)
  | .ls .lo l => some (.ls .lo l)
  | .dc .fr t l => some (.dc .fr t l)
  | .dc .ow t l => some (.dc .fr t l)
  | .cl c => some (.cl c)
  | _ => none
def psRet (e : PE) : PS' := fun ρ => (e ρ).bind fun v => match retM v with
  | some w => .val (.rt w)
  | none => .bad
theorem ss_ret {c : CE} {pe : PE} (he : SE c pe) : SS (sRet c) (psRet pe) := by
  intro P0 b ρ σ η k R h
  unfold sRet
  refine he R (Rs.imp (Rs.bind_ok h) (fun v hv d η1 f1 s1 n1 => ?_) (fun x hx η' f => hx η' (R.fs f)))
  have R1 := R.mono f1
  split at hv
  · rename_i w e
    refine hv d η1 (R.fs f1) ?_
    cases v with
    | im _ => cases e; exact s1
    | ls m l => cases m with
      | fr =>
        cases e
        obtain ⟨r, z1, z2, z3, z4⟩ := s1
        obtain ⟨r', y1, y2⟩ := n1 rfl
        rw [z1] at y1; cases y1
        exact ⟨r, z1, Nat.le_trans R.bn y2, z2, z3⟩
      | ow =>
        cases e
        obtain ⟨i, z1, z2⟩ := s1
        obtain ⟨r, y1, y2, _⟩ := R1.ow i _ z1 rfl
        rw [z2] at y1; cases y1
        obtain ⟨d', x1, r', x2, x3, x4, x5, _⟩ := R1.at_ i _ z1
        rw [z2] at x1; cases x1; cases x2
        exact ⟨r, rfl, y2, x3, (x5 rfl).2⟩
      | lo =>
        cases e
        obtain ⟨r, z1, z2, z3, z4⟩ := s1
        exact ⟨r, z1, z2, z3, fun p => z4 (.inl p)⟩
      | ke => cases e
      | rd => cases e
    | dc m t l => cases m with
      | fr =>
        cases e
        obtain ⟨r, z1, z2, z3, z4⟩ := s1
        obtain ⟨r', y1, y2⟩ := n1 rfl
        rw [z1] at y1; cases y1
        exact ⟨r, z1, Nat.le_trans R.bn y2, z2, z3⟩
      | ow =>
        cases e
        obtain ⟨i, z1, z2⟩ := s1
        obtain ⟨r, y1, y2, _⟩ := R1.ow i _ z1 rfl
        rw [z2] at y1; cases y1
        obtain ⟨d', x1, r', x2, x3, x4, _⟩ := R1.at_ i _ z1
        rw [z2] at x1; cases x1; cases x2
        exact ⟨r, rfl, y2, x3, x4⟩
      | _ => cases e
    | cl c => cases e; exact s1
  · exact hv.elim
/-! ### names are set -/
def psSet (e : PE) (i : Nat) : PS' := fun ρ => (e ρ).bind fun v => match stM v with
  | some w => .val (.nx (ρ.set i (some w)))
  | none => .bad
theorem ss_set {c : CE} {pe : PE} {i : Nat} (he : SE c pe) : SS (sAsg c (gNm i)) (psSet pe i) := by
  intro P0 b ρ σ η k R h
  show c σ η _ k.xc = true
  refine he R (Rs.imp (Rs.bind_ok h) (fun v hv d η1 f1 s1 n1 => ?_) (fun x hx η' f => hx η' (R.fs f)))
  split at hv
  · rename_i w e
    exact hv (σ.set i (some d)) η1 (R.put f1 s1 n1 e i) (R.fs f1)
  · exact hv.elim
/-! ### expressions that change a name's own list -/
abbrev PX := PEn → Rs (D × PEn)
def SX (c : CE) (p : PX) : Prop := ∀ ⦃P0 : Nat → Prop⦄ ⦃b : Nat⦄ ⦃ρ : PEn⦄ ⦃σ : SD⦄ ⦃η : Hd⦄ ⦃kv : KV⦄ ⦃kx : KX⦄, Rep P0 b ρ σ η →
  (p ρ).ok (fun v => ∀ η', Rep P0 b v.2 σ η' → Fs P0 b η η' → kv v.1 η' = true) (fun x => ∀ η', Fs P0 b η η' → kx x η' = true) → c σ η kv kx = true
def pxOf (e : PE) : PX := fun ρ => (e ρ).bind fun v => match v with
  | .im d => .val (d, ρ)
  | _ => .bad
theorem sx_of {c : CE} {pe : PE} (he : SE c pe) : SX c (pxOf pe) := by
  intro P0 b ρ σ η kv kx R h
  refine he R (Rs.imp (Rs.bind_ok h) (fun v hv d η1 f1 s1 n1 => ?_) (fun x hx η' f => hx η' (R.fs f)))
  split at hv
  · cases s1; exact hv η1 (R.mono f1) (R.fs f1)
  · exact hv.elim
/-- a method's effect on a list -/
abbrev M1 := List D → List D → Option (D × List D)
def SM (f : FM) (m : M1) : Prop := ∀ ⦃r : Nat⦄ ⦃l ds l' : List D⦄ ⦃d : D⦄ ⦃η : Hd⦄, η.get r = some (.lst l) → m l ds = some (d, l') → f (.ref r) ds η = some (d, η.set r (.lst l'))
def mApp : M1 := fun l ds => match ds with
  | [d] => match Nat.blt l.length line with
    | true => some (.non, l ++ [d])
    | false => none
  | _ => none
def mPop : M1 := fun l ds => match ds with
  | [] => match l[l.length - 1]? with
    | some d => some (d, l.dropLast)
    | none => none
  | _ => none
def mPopAt : M1 := fun l ds => match ds with
  | [.int i] => match ixD l.length i with
    | some k => match l[k]? with
      | some d => some (d, l.eraseIdx k)
      | none => none
    | none => none
  | _ => none
theorem sm_app : SM fAppend mApp := by
  intro r l ds l' d η g h
  unfold mApp at h
  split at h
  · split at h
    · rename_i e; cases h; simp only [fAppend, g, e]
    · cases h
  · cases h
theorem sm_pop : SM fPop mPop := by
  intro r l ds l' d η g h
  unfold mPop at h
  split at h
  · split at h
    · rename_i e; cases h; simp only [fPop, g, e]
    · cases h
  · cases h
theorem sm_popAt : SM fPopAt mPopAt := by
  intro r l ds l' d η g h
  unfold mPopAt at h
  split at h
  · split at h
    · rename_i e
      split at h
      · rename_i e2; cases h; simp only [fPopAt, g, e, e2]
      · cases h
    · cases h
  · cases h
/-- a name's own cell is changed -/
def cellOf : PV → Option Cell
  | .ls .ow l => some (.lst l)
  | .dc .ow t l => some (.dct t l)
  | _ => none
theorem Rep.upd {P0 : Nat → Prop} {b : Nat} {ρ : PEn} {σ : SD} {η : Hd} {i r : Nat} {v w : PV} {c : Cell} (R : Rep P0 b ρ σ η) (h : ρ[i]? = some (some v)) (hv : v.own = true) (hs : σ[i]? = some (some (.ref r))) (hw : cellOf w = some c) :
    Rep P0 b (ρ.set i (some w)) σ (η.set r c) ∧ Fs P0 b η (η.set r c) := by
  obtain ⟨r', e1, e2, e3⟩ := R.ow i v h hv
  rw [hs] at e1; cases e1
  have hi : i < ρ.length := (List.getElem?_eq_some_iff.mp h).1
  have hwo : w.own = true := by
    cases w with
    | im _ => cases hw
    | ls m l => cases m <;> first | rfl | cases hw
    | dc m t l => cases m <;> first | rfl | cases hw
    | cl c => cases hw
  have lt : r < η.nx := R.lt h hs (by cases v <;> first | rfl | cases hv)
  obtain ⟨c0, g0, nf, fx⟩ : ∃ c0, η.get r = some c0 ∧ (∀ l, c0 ≠ .frz l) ∧ fixC c0 = false := by
    obtain ⟨d, x1, x2⟩ := R.at_ i v h
    rw [hs] at x1; cases x1
    cases v with
    | im _ => cases hv
    | ls m l =>
      obtain ⟨r', z1, z2, z3, z4, z5⟩ := x2
      cases z1
      refine ⟨_, (z4 (by cases m <;> first | rfl | cases hv)).2, fun _ z => (nomatch z), rfl⟩
    | dc m t l =>
      obtain ⟨r', z1, z2, z3, z4, z5⟩ := x2
      cases z1
      exact ⟨_, z3, fun _ z => (nomatch z), rfl⟩
    | cl c => cases hv
  have gr : (η.set r c).get r = some c := get_set_eq g0
  have gne : ∀ q, q ≠ r → (η.set r c).get q = η.get q := fun q z => get_set_ne z
  have lne : ∀ q, q ≠ r → (η.set r c).list q = η.list q := fun q z => by unfold Hd.list; rw [gne q z]
  have gi : (ρ.set i (some w))[i]? = some (some w) := List.getElem?_set_self hi
  have pr : ∀ q, Pr P0 (ρ.set i (some w)) σ q ↔ Pr P0 ρ σ q := fun q => by
    constructor
    · rintro (p | ⟨j, u, h1, h2, h3⟩)
      · exact .inl p
      · by_cases z : i = j
        · subst z; exact .inr ⟨i, v, h, hv, h3⟩
        · rw [List.getElem?_set_ne z] at h1; exact .inr ⟨j, u, h1, h2, h3⟩
    · rintro (p | ⟨j, u, h1, h2, h3⟩)
      · exact .inl p
      · by_cases z : i = j
        · subst z; exact .inr ⟨i, w, gi, hwo, h3⟩
        · exact .inr ⟨j, u, by rw [List.getElem?_set_ne z]; exact h1, h2, h3⟩
  refine ⟨⟨R.old, R.bn, by rw [List.length_set]; exact R.len, fun j u hj => ?_, fun j u hj hu => ?_, fun j l hj => ?_, fun j t l hj => ?_, fun j q u u' d hjq h1 h2 h3 h5 h4 => ?_⟩, Nat.le_refl _, fun q hq => .inl (gne q (by omega)), fun q l hq e => ?_, fun q d hq e hd => by rw [gne q (fun y => by subst y; rw [g0] at e; cases e; rw [fx] at hd; cases hd)]; exact e⟩
  · by_cases z : i = j
    · subst z
      rw [gi] at hj
      cases hj
      refine ⟨.ref r, hs, ?_⟩
      cases w with
      | im _ => cases hw
      | ls m l => cases m with
        | ow => cases hw; exact ⟨r, rfl, lt, list_lst gr, fun _ => ⟨.inr ⟨i, _, gi, rfl, hs⟩, gr⟩, fun hm => by rcases hm with hm | hm <;> cases hm⟩
        | _ => cases hw
      | dc m t l => cases m with
        | ow => cases hw; exact ⟨r, rfl, lt, gr, fun _ => .inr ⟨i, _, gi, rfl, hs⟩, fun hm => (nomatch hm)⟩
        | _ => cases hw
      | cl c => cases hw
    · rw [List.getElem?_set_ne z] at hj
      obtain ⟨d, x1, x2⟩ := R.at_ j u hj
      refine ⟨d, x1, ?_⟩
      have ne : ∀ q, u.imm = false → d = .ref q → q ≠ r := fun q hu e y => by
        subst e y
        exact R.dj i j v u _ z h hv hj hu hs x1
      cases u with
      | im _ => exact x2
      | ls m l =>
        obtain ⟨q, z1, z2, z3, z4, z5⟩ := x2
        have y := ne q rfl z1
        exact ⟨q, z1, z2, by rw [lne q y]; exact z3, fun hm => ⟨(pr q).mpr (z4 hm).1, by rw [gne q y]; exact (z4 hm).2⟩, fun hm p => z5 hm ((pr q).mp p)⟩
      | dc m t l =>
        obtain ⟨q, z1, z2, z3, z4, z5⟩ := x2
        have y := ne q rfl z1
        exact ⟨q, z1, z2, by rw [gne q y]; exact z3, fun hm => (pr q).mpr (z4 hm), fun hm p => z5 hm ((pr q).mp p)⟩
      | cl c' =>
        obtain ⟨q, z1, z2, z3, z4⟩ := x2
        have y : q ≠ r := fun y => by subst y; rw [g0] at z3; cases z3; rw [fx] at z4; cases z4
        exact ⟨q, z1, z2, by rw [gne q y]; exact z3, z4⟩
  · by_cases z : i = j
    · subst z; exact ⟨r, hs, e2, e3⟩
    · rw [List.getElem?_set_ne z] at hj; exact R.ow j u hj hu
  · by_cases z : i = j
    · subst z; rw [gi] at hj; cases hj; cases hwo
    · rw [List.getElem?_set_ne z] at hj; exact R.ke j l hj
  · by_cases z : i = j
    · subst z; rw [gi] at hj; cases hj; cases hwo
    · rw [List.getElem?_set_ne z] at hj; exact R.kd j t l hj
  · have old : ∀ (j : Nat) (u : PV), (ρ.set i (some w))[j]? = some (some u) → u.imm = false → ∃ u', ρ[j]? = some (some u') ∧ u'.imm = false ∧ (u.own = true → u'.own = true) := fun j u hj hu => by
      by_cases z : i = j
      · subst z; exact ⟨v, h, (by cases v <;> first | rfl | cases hv), fun _ => hv⟩
      · rw [List.getElem?_set_ne z] at hj; exact ⟨u, hj, hu, id⟩
    obtain ⟨a, a1, a2, a3⟩ := old j u h1 (by cases u <;> first | rfl | cases h2)
    obtain ⟨c', c1, c2, c3⟩ := old q u' h3 h5
    exact R.dj j q a c' d hjq a1 (a3 h2) c1 c2 h4
  · have z : q ≠ r := fun z => by subst z; rw [g0] at e; exact nf l (Option.some.inj e)
    rw [gne q z]; exact e
def pxMt (m : M1) (i : Nat) (a : PA) : PX := fun ρ => match ρ[i]? with
  | some (some (.ls .ow l)) => (a ρ).bind fun vs => match imms vs with
    | some ds => match m l ds with
      | some (d, l') => .val (d, ρ.set i (some (.ls .ow l')))
      | none => .bad
    | none => .bad
  | _ => .bad
theorem Rep.ownL {P0 : Nat → Prop} {b : Nat} {ρ : PEn} {σ : SD} {η : Hd} {i : Nat} {l : List D} (R : Rep P0 b ρ σ η) (h : ρ[i]? = some (some (.ls .ow l))) : ∃ r : Nat, σ[i]? = some (some (.ref r)) ∧ η.get r = some (.lst l) := by
  obtain ⟨d, x1, r, z1, z2, z3, z4, z5⟩ := R.at_ i _ h
  exact ⟨r, by rw [x1, z1], (z4 rfl).2⟩
theorem sx_mt {f : FM} {m : M1} {i : Nat} {a : CA} {pa : PA} (hf : SM f m) (ha : SA a pa) : SX (cMt f (cVar i) a) (pxMt m i pa) := by
  intro P0 b ρ σ η kv kx R h
  unfold pxMt at h
  split at h
  · rename_i l0 e0
    obtain ⟨r, e1, e2⟩ := R.ownL e0
    unfold cMt cVar
    rw [e1]
    have eL : isL η (.ref r) = true := by simp only [isL, list_lst e2, Option.isSome]
    simp only [eL]
    refine ha R (Rs.imp (Rs.bind_ok h) (fun vs hx ds η1 f1 s1 => ?_) (fun x hx η' f => hx η' (R.fs f)))
    have R1 := R.mono f1
    split at hx
    · rename_i es ei
      cases imms_ok (R1.views s1) ei
      obtain ⟨r', g1, g2⟩ := R1.ownL e0
      rw [e1] at g1; cases g1
      split at hx
      · rename_i d l' em
        rw [hf g2 em]
        obtain ⟨R2, f2⟩ := R1.upd (w := .ls .ow l') e0 rfl e1 rfl
        exact hx _ R2 ((R.fs f1).trans f2)
      · exact hx.elim
    · exact hx.elim
  · exact h.elim
def pxMt0 (m : M1) (i : Nat) : PX := fun ρ => match ρ[i]? with
  | some (some (.ls .ow l)) => match m l [] with
    | some (d, l') => .val (d, ρ.set i (some (.ls .ow l')))
    | none => .bad
  | _ => .bad
theorem sx_mt0 {f : FM} {m : M1} {i : Nat} (hf : SM f m) : SX (cMt0 f (cVar i)) (pxMt0 m i) := by
  intro P0 b ρ σ η kv kx R h
  unfold pxMt0 at h
  split at h
  · rename_i l e0
    obtain ⟨r, e1, e2⟩ := R.ownL e0
    unfold cMt0 cVar
    rw [e1]
    have eL : isL η (.ref r) = true := by simp only [isL, list_lst e2, Option.isSome]
    simp only [eL]
    split at h
    · rename_i d l' em
      rw [hf e2 em]
      obtain ⟨R2, f2⟩ := R.upd (w := .ls .ow l') e0 rfl e1 rfl
      exact h _ R2 f2
    · exact h.elim
  · exact h.elim
/-- an argument that changes another name's list -/
def pxMtX (m : M1) (i : Nat) (a : PX) : PX := fun ρ => match ρ[i]? with
  | some (some (.ls .ow _)) => (a ρ).bind fun v => match v.2[i]? with
    | some (some (.ls .ow l)) => match m l [v.1] with
      | some (d, l') => .val (d, v.2.set i (some (.ls .ow l')))
      | none => .bad
    | _ => .bad
  | _ => .bad
theorem sx_mtX {f : FM} {m : M1} {i : Nat} {a : CE} {pa : PX} (hf : SM f m) (ha : SX a pa) : SX (cMt f (cVar i) (cCons a cNil)) (pxMtX m i pa) := by
  intro P0 b ρ σ η kv kx R h
  unfold pxMtX at h
  split at h
  · rename_i l0 e0
    obtain ⟨r, e1, e2⟩ := R.ownL e0
    unfold cMt cVar
    rw [e1]
    have eL : isL η (.ref r) = true := by simp only [isL, list_lst e2, Option.isSome]
    simp only [eL]
    show a σ η _ kx = true
    refine ha R (Rs.imp (Rs.bind_ok h) (fun v hx η1 R1 f1 => ?_) (fun x hx η' f => hx η' f))
    split at hx
    · rename_i l el
      obtain ⟨r', g1, g2⟩ := R1.ownL el
      rw [e1] at g1; cases g1
      split at hx
      · rename_i d l' em
        simp only [cNil, hf g2 em]
        obtain ⟨R2, f2⟩ := R1.upd (w := .ls .ow l') el rfl e1 rfl
        exact hx _ R2 (f1.trans f2)
      · exact hx.elim
    · exact hx.elim
  · exact h.elim
def psExpr (e : PX) : PS' := fun ρ => (e ρ).bind fun v => .val (.nx v.2)
theorem ss_expr {c : CE} {p : PX} (h : SX c p) : SS (sExpr c) (psExpr p) := by
  intro P0 b ρ σ η k R q
  unfold sExpr
  exact h R (Rs.imp (Rs.bind_ok q) (fun v hv η1 R1 f1 => hv σ η1 R1 f1) (fun x hx η' f => hx η' f))
def psAsg (e : PX) (g : PG') : PS' := fun ρ => (e ρ).bind fun v => (nox (g v.1 v.2)).bind fun ρ1 => .val (.nx ρ1)
theorem ss_asg {c : CE} {p : PX} {g : CG} {pg : PG'} (h : SX c p) (hg : SG g pg) : SS (sAsg c g) (psAsg p pg) := by
  intro P0 b ρ σ η k R q
  unfold sAsg
  refine h R (Rs.imp (Rs.bind_ok q) (fun v hv η1 R1 f1 => ?_) (fun x hx η' f => hx η' f))
  exact hg R1 (Rs.imp (nox_ok (Rs.bind_ok hv)) (fun ρ1 h1 σ1 R2 _ => h1 σ1 η1 R2 f1) (fun x hx => hx))
end PL

/-! the plain layer: stores, loops, defs -/
namespace PL
open PySem PySem.Spec L2 DL
/-! ### stores -/
def putP (v : PV) (x d : D) : Option PV := match v with
  | .ls .ow l => match x with
    | .int j => match ixD l.length j with
      | some n => some (.ls .ow (l.set n d))
      | none => none
    | _ => none
  | .dc .ow t kvs => match isKey t x, Nat.blt kvs.length line with
    | true, true => some (.dc .ow t (dput x d kvs))
    | _, _ => none
  | _ => none
theorem Rep.putP {P0 : Nat → Prop} {b : Nat} {ρ : PEn} {σ : SD} {η : Hd} {i : Nat} {v w : PV} {x d : D} (R : Rep P0 b ρ σ η) (h : ρ[i]? = some (some v)) (e : putP v x d = some w) : ∃ (r : Nat) (η' : Hd), σ[i]? = some (some (.ref r)) ∧ fSet (.ref r) x d η = some η' ∧ Rep P0 b (ρ.set i (some w)) σ η' ∧ Fs P0 b η η' := by
  obtain ⟨d0, x1, x2⟩ := R.at_ i v h
  unfold PL.putP at e
  split at e
  · rename_i l
    obtain ⟨r, rfl, z2, z3, z4, z5⟩ := x2
    split at e
    · rename_i j
      split at e
      · rename_i n en
        cases e
        obtain ⟨R2, f2⟩ := R.upd (w := .ls .ow (l.set n d)) h rfl x1 rfl
        exact ⟨r, _, x1, by simp only [fSet, (z4 rfl).2, en], R2, f2⟩
      · cases e
    · cases e
  · rename_i t kvs
    obtain ⟨r, rfl, z2, z3, z4, z5⟩ := x2
    split at e
    · rename_i e1 e2
      cases e
      obtain ⟨R2, f2⟩ := R.upd (w := .dc .ow t (dput x d kvs)) h rfl x1 rfl
      exact ⟨r, _, x1, by simp only [fSet, z3, e1, e2], R2, f2⟩
    · cases e
  · cases e
/-- the slot's own cell -/
def ownAt (ρ : PEn) (i : Nat) : Option PV := match ρ[i]? with
  | some (some u) => match u.own with
    | true => some u
    | false => none
  | _ => none
theorem ownAt_ok {ρ : PEn} {i : Nat} {u : PV} (h : ownAt ρ i = some u) : ρ[i]? = some (some u) ∧ u.own = true := by
  unfold ownAt at h
  split at h
  · rename_i e
    split at h
    · rename_i e2; cases h; exact ⟨e, e2⟩
    · cases h
  · cases h
def psStore (e : PE) (i : Nat) (k : PE) : PS' := fun ρ => (e ρ).bind fun v => match v with
  | .im d => match ownAt ρ i with
    | some u => (k ρ).bind fun x => match x with
      | .im x => match putP u x d with
        | some w => .val (.nx (ρ.set i (some w)))
        | none => .bad
      | _ => .bad
    | none => .bad
  | _ => .bad
theorem ss_store {c ci : CE} {pe pk : PE} {i : Nat} (he : SE c pe) (hk : SE ci pk) : SS (sAsg c (gSb (cVar i) ci)) (psStore pe i pk) := by
  intro P0 b ρ σ η k R h
  rw [w_sub]
  refine he R (Rs.imp (Rs.bind_ok h) (fun v hv d η1 f1 s1 n1 => ?_) (fun x hx η' f => hx η' (R.fs f)))
  have R1 := R.mono f1
  split at hv
  · cases s1
    split at hv
    · rename_i u eu
      obtain ⟨e1, e2⟩ := ownAt_ok eu
      obtain ⟨r, y1, _⟩ := R1.ow i u e1 e2
      rw [w_var y1]
      refine hk R1 (Rs.imp (Rs.bind_ok hv) (fun x hx dx η2 f2 s2 n2 => ?_) (fun x hx η' f => hx η' ((R.fs f1).trans (R1.fs f))))
      have R2 := R1.mono f2
      split at hx
      · cases s2
        split at hx
        · rename_i w ew
          obtain ⟨r', η3, z1, z2, R3, f3⟩ := R2.putP e1 ew
          rw [y1] at z1; cases z1
          rw [z2]
          exact hx σ η3 R3 (((R.fs f1).trans (R1.fs f2)).trans f3)
        · exact hx.elim
      · exact hx.elim
    · exact hv.elim
  · exact hv.elim
def psAug (i : Nat) (g : G2) (e : PE) : PS' := fun ρ => match ρ[i]? with
  | some (some (.im d)) => (e ρ).bind fun y => match g (.im d) y with
    | some (.im z) => .val (.nx (ρ.set i (some (.im z))))
    | _ => .bad
  | _ => .bad
theorem ss_aug {i : Nat} {f : F2} {g : G2} {c : CE} {pe : PE} (hf : S2 f g) (he : SE c pe) : SS (sAug i f c) (psAug i g pe) := by
  intro P0 b ρ σ η k R h
  unfold psAug at h
  split at h
  · rename_i d e
    obtain ⟨d', e1, e2⟩ := R.at_ i _ e
    cases e2
    unfold sAug
    rw [e1]
    show c σ η _ k.xc = true
    refine he R (Rs.imp (Rs.bind_ok h) (fun y hy dy η1 f1 s1 n1 => ?_) (fun x hx η' f => hx η' (R.fs f)))
    have R1 := R.mono f1
    split at hy
    · rename_i z ez
      obtain ⟨dz, η2, y1, f2, nr⟩ := hf R1.lts (show VW _ _ (.im d) d from rfl) (R1.view s1) ez
      cases nr
      rw [y1]
      exact hy _ η2 (R.put (v := .im z) (f1.trans f2) rfl (fun z => nomatch z) rfl i) (R.fs (f1.trans f2))
    · exact hy.elim
  · exact h.elim
/-! ### two names at once -/
def psPar (i j : Nat) (a c : PE) : PS' := fun ρ => (a ρ).bind fun x => (c ρ).bind fun y => match stM x, stM y with
  | some w, some u => .val (.nx ((ρ.set i (some w)).set j (some u)))
  | _, _ => .bad
/-- a value that was held is laid down; another stays what it is -/
theorem Rep.put2 {P0 : Nat → Prop} {b : Nat} {ρ : PEn} {σ : SD} {η η1 η2 : Hd} {x y w : PV} {dx dy : D} {i : Nat} (R : Rep P0 b ρ σ η) (f1 : Fr (Pr P0 ρ σ) η η1) (s1 : RS P0 ρ σ η1 x dx) (n1 : Nw η x dx) (ew : stM x = some w)
    (f2 : Fr (Pr (frP P0 x dx) ρ σ) η1 η2) (s2 : RS (frP P0 x dx) ρ σ η2 y dy) (ey : (stM y).isSome = true) :
    Rep P0 b (ρ.set i (some w)) (σ.set i (some dx)) η1 ∧ Fr (Pr P0 (ρ.set i (some w)) (σ.set i (some dx))) η1 η2 ∧ RS P0 (ρ.set i (some w)) (σ.set i (some dx)) η2 y dy := by
  have R1 := R.put f1 s1 n1 ew i
  have sub : ∀ q, Pr P0 (ρ.set i (some w)) (σ.set i (some dx)) q → Pr (frP P0 x dx) ρ σ q := fun q h => by
    rcases h with h | ⟨j, u, h1, h2, h3⟩
    · exact .inl (.inl h)
    · by_cases z : i = j
      · subst z
        have hi : i < ρ.length := by
          have := (List.getElem?_eq_some_iff.mp h1).1
          rw [List.length_set] at this; exact this
        rw [List.getElem?_set_self hi] at h1; cases h1
        rw [List.getElem?_set_self (by rw [R.len]; exact hi)] at h3
        have hx : x.fre = true := by
          cases x with
          | im _ => cases ew; cases h2
          | ls m l => cases m <;> first | rfl | (cases ew; cases h2; done) | cases ew
          | dc m t l => cases m <;> first | rfl | (cases ew; cases h2; done) | cases ew
          | cl c => cases ew; cases h2
        exact .inl (.inr ⟨hx, Option.some.inj (Option.some.inj h3)⟩)
      · rw [List.getElem?_set_ne z] at h1 h3
        exact .inr ⟨j, u, h1, h2, h3⟩
  refine ⟨R1, f2.weak fun q _ p => sub q p, ?_⟩
  cases y with
  | im _ => exact s2
  | ls m l => cases m with
    | fr => obtain ⟨r, z1, z2, z3, z4⟩ := s2; exact ⟨r, z1, z2, z3, fun p => z4 (sub _ p)⟩
    | lo => obtain ⟨r, z1, z2, z3, z4⟩ := s2; exact ⟨r, z1, z2, z3, fun p => z4 (sub _ p)⟩
    | _ => cases ey
  | dc m t l => cases m with
    | fr => obtain ⟨r, z1, z2, z3, z4⟩ := s2; exact ⟨r, z1, z2, z3, fun p => z4 (sub _ p)⟩
    | _ => cases ey
  | cl c => exact s2
theorem ss_par {i j : Nat} {a c : CE} {pa pc : PE} (ha : SE a pa) (hc : SE c pc) : SS (sPar i j (cCons a (cCons c cNil))) (psPar i j pa pc) := by
  intro P0 b ρ σ η k R h
  rw [w_par]
  refine ha R (Rs.imp (Rs.bind_ok h) (fun x hx dx η1 f1 s1 n1 => ?_) (fun x hx η' f => hx η' (R.fs f)))
  obtain ⟨R1, dn⟩ := R.hold f1 s1 n1
  refine hc R1 (Rs.imp (Rs.bind_ok hx) (fun y hy dy η2 f2 s2 n2 => ?_) (fun x hx η' f => hx η' (R.fs (f1.trans (dn η' f).1))))
  split at hy
  · rename_i w u ew eu
    obtain ⟨R1', f2', s2'⟩ := R.put2 (i := i) f1 s1 n1 ew f2 s2 (by rw [eu]; rfl)
    exact hy _ η2 (R1'.put f2' s2' n2 eu j) (R.fs (f1.trans (dn η2 f2).1))
  · exact hy.elim
/-! ### for -/
def pforD (g : PG') (s : PS') : List D → PEn → Rs Ou
  | [], ρ => .val (.nx ρ)
  | d :: ds, ρ => (nox (g d ρ)).bind fun ρ1 => (s ρ1).bind fun o => match o with
    | .nx ρ2 => pforD g s ds ρ2
    | .ct ρ2 => pforD g s ds ρ2
    | .bk ρ2 => .val (.nx ρ2)
    | .rt v => .val (.rt v)
theorem for_loop {g : CG} {c : CS} {pg : PG'} {ps : PS'} (hg : SG g pg) (hc : SS c ps) {P0 : Nat → Prop} {b : Nat} {k : KS} : ∀ (l : List D) (ρ : PEn) (σ : SD) (η : Hd), Rep P0 b ρ σ η →
    (pforD pg ps l ρ).ok (Sok P0 b η k) (fun x => ∀ η', Fs P0 b η η' → k.xc x η' = true) → forD g c k l σ η = true
  | [], ρ, σ, η, R, h => h σ η R (Fs.refl _ _ _)
  | d :: ds, ρ, σ, η, R, h => by
    rw [forD]
    refine hg R (Rs.imp (nox_ok (Rs.bind_ok h)) (fun ρ1 h1 σ1 R1 _ => ?_) (fun x hx => hx))
    refine hc R1 (Rs.imp (Rs.bind_ok h1) (fun o ho => ?_) (fun x hx => hx))
    cases o with
    | nx ρ2 => exact fun σ2 η2 R2 f2 => for_loop hg hc ds ρ2 σ2 η2 R2 (Rs.imp ho (fun o ho => ho.go f2) (fun x hx η' f => hx η' (f2.trans f)))
    | ct ρ2 => exact fun σ2 η2 R2 f2 => for_loop hg hc ds ρ2 σ2 η2 R2 (Rs.imp ho (fun o ho => ho.go f2) (fun x hx η' f => hx η' (f2.trans f)))
    | bk ρ2 => exact ho
    | rt v => exact ho
section
variable {P0 : Nat → Prop} {b : Nat} {ρ ρ' : PEn} {σ σ' : SD} {η η1 η2 η' : Hd} {it : Its} {o : Option Nat}
/-- behind a loop the list is thawed -/
theorem thaw_fs (io : ItO P0 ρ σ η1 it o) (f : Fs P0 b (it.fr η1) η') : Fs P0 b η1 (it.un η') ∧ (Rep P0 b ρ' σ' η' → Rep P0 b ρ' σ' (it.un η')) ∧ ∀ v d, RT P0 b η' v d → RT P0 b (it.un η') v d := by
  rcases io.at_ with ⟨e, _⟩ | ⟨r, l, e, lt, g, _⟩
  · have e1 : it.fr η1 = η1 := by unfold Its.fr; rw [e]
    have e2 : it.un η' = η' := by unfold Its.un; rw [e]
    rw [e1] at f
    rw [e2]
    exact ⟨f, id, fun _ _ h => h⟩
  · have e1 : it.fr η1 = frzAt r l η1 := by unfold Its.fr; rw [e]
    have e2 : it.un η' = unfAt r l η' := by unfold Its.un; rw [e]
    rw [e1] at f
    rw [e2]
    have gr : η'.get r = some (.frz l) := f.frz r l (show r < (frzAt r l η1).nx from lt) (get_set_eq g)
    have ur : (unfAt r l η').get r = some (.lst l) := get_set_eq gr
    have une : ∀ q, q ≠ r → (unfAt r l η').get q = η'.get q := fun q z => get_set_ne z
    have fne : ∀ q, q ≠ r → (frzAt r l η1).get q = η1.get q := fun q z => get_set_ne z
    have ul : ∀ q l', η'.list q = some l' → (unfAt r l η').list q = some l' := fun q l' h => by
      by_cases z : q = r
      · subst z; rw [list_frz gr] at h; cases h; exact list_lst ur
      · unfold Hd.list; rw [une q z]; exact h
    have uc : ∀ q c, η'.get q = some c → (∀ l, c ≠ .frz l) → (unfAt r l η').get q = some c := fun q c h hc => by
      by_cases z : q = r
      · subst z; rw [gr] at h; exact absurd (Option.some.inj h).symm (hc l)
      · rw [une q z]; exact h
    refine ⟨⟨f.nx, fun q hq => ?_, fun q l' hq h => ?_, fun q c hq h hc => uc q c (f.fix q c hq (by rw [fne q (fun z => by subst z; rw [g] at h; cases h; cases hc)]; exact h) hc) (fixC_lst hc).2.1⟩, fun R => ?_, fun v d h => ?_⟩
    · by_cases z : q = r
      · subst z; exact .inl (ur.trans g.symm)
      · rw [une q z, ← fne q z]; exact f.keep q hq
    · have z : q ≠ r := fun z => by subst z; rw [g] at h; cases h
      rw [une q z]
      exact f.frz q l' hq (by rw [fne q z]; exact h)
    · refine ⟨R.old, R.bn, R.len, fun i v hv => ?_, R.ow, R.ke, R.kd, R.dj⟩
      obtain ⟨d, x1, x2⟩ := R.at_ i v hv
      refine ⟨d, x1, ?_⟩
      cases v with
      | im _ => exact x2
      | ls m l' =>
        obtain ⟨q, z1, z2, z3, z4, z5⟩ := x2
        exact ⟨q, z1, z2, ul q l' z3, fun hm => ⟨(z4 hm).1, uc q _ (z4 hm).2 (fun _ z => nomatch z)⟩, z5⟩
      | dc m t l' =>
        obtain ⟨q, z1, z2, z3, z4, z5⟩ := x2
        exact ⟨q, z1, z2, uc q _ z3 (fun _ z => nomatch z), z4, z5⟩
      | cl c =>
        obtain ⟨q, z1, z2, z3, z4⟩ := x2
        exact ⟨q, z1, z2, uc q _ z3 (fixC_lst z4).2.1, z4⟩
    · cases v with
      | im _ => exact h
      | ls m l' => cases m with
        | fr => obtain ⟨q, z1, z2, z3, z4⟩ := h; exact ⟨q, z1, z2, z3, uc q _ z4 (fun _ z => nomatch z)⟩
        | lo => obtain ⟨q, z1, z2, z3, z4⟩ := h; exact ⟨q, z1, z2, ul q l' z3, z4⟩
        | _ => exact h.elim
      | dc m t l' => cases m with
        | fr => obtain ⟨q, z1, z2, z3, z4⟩ := h; exact ⟨q, z1, z2, z3, uc q _ z4 (fun _ z => nomatch z)⟩
        | _ => exact h.elim
      | cl c =>
        obtain ⟨q, z1, z2, z3, z4⟩ := h
        exact ⟨q, z1, z2, uc q _ z3 (fixC_lst z4).2.1, z4⟩
end
def psFor (i : PI') (g : PG') (s : PS') : PS' := fun ρ => (i ρ).bind fun lo => pforD g s lo.1 (wk lo.2 ρ)
theorem ss_for {i : CI} {g : CG} {c : CS} {pi : PI'} {pg : PG'} {ps : PS'} (hi : SI i pi) (hg : SG g pg) (hc : SS c ps) : SS (sFor i g c) (psFor pi pg ps) := by
  intro P0 b ρ σ η k R h
  unfold sFor
  refine hi R (Rs.imp (Rs.bind_ok h) (fun lo hx it η1 el f1 io => ?_) (fun x hx η' f => hx η' (R.fs f)))
  have R1 := R.mono f1
  rw [← el] at hx
  have fs1 := R.fs f1
  refine for_loop hg hc it.l (wk lo.2 ρ) σ (it.fr η1) (R1.frz io) (Rs.imp hx (fun o ho => ?_) (fun x hx η' f => hx _ (fs1.trans (thaw_fs (ρ' := ρ) (σ' := σ) io f).1)))
  cases o with
  | nx ρ2 => exact fun σ2 η2 R2 f2 => ho σ2 _ ((thaw_fs io f2).2.1 R2) (fs1.trans (thaw_fs (ρ' := ρ) (σ' := σ) io f2).1)
  | ct ρ2 => exact fun σ2 η2 R2 f2 => ho σ2 _ ((thaw_fs io f2).2.1 R2) (fs1.trans (thaw_fs (ρ' := ρ) (σ' := σ) io f2).1)
  | bk ρ2 => exact fun σ2 η2 R2 f2 => ho σ2 _ ((thaw_fs io f2).2.1 R2) (fs1.trans (thaw_fs (ρ' := ρ) (σ' := σ) io f2).1)
  | rt v => exact fun d η2 f2 r => ho d _ (fs1.trans (thaw_fs (ρ' := ρ) (σ' := σ) io f2).1) ((thaw_fs (ρ' := ρ) (σ' := σ) io f2).2.2 v d r)
/-! ### while -/
def pwhD (t : PT) (s : PS') : Nat → PEn → Rs Ou
  | 0, _ => .bad
  | n + 1, ρ => (t ρ).bind fun x => match x with
    | true => (s ρ).bind fun o => match o with
      | .nx ρ1 => pwhD t s n ρ1
      | .ct ρ1 => pwhD t s n ρ1
      | .bk ρ1 => .val (.nx ρ1)
      | .rt v => .val (.rt v)
    | false => .val (.nx ρ)
theorem wh_loop {t : CT} {c : CS} {pt : PT} {ps : PS'} (ht : ST t pt) (hc : SS c ps) {P0 : Nat → Prop} {b : Nat} {k : KS} : ∀ (n : Nat) (ρ : PEn) (σ : SD) (η : Hd), Rep P0 b ρ σ η →
    (pwhD pt ps n ρ).ok (Sok P0 b η k) (fun x => ∀ η', Fs P0 b η η' → k.xc x η' = true) → whileD t c k n σ η = true
  | 0, ρ, σ, η, R, h => h.elim
  | n + 1, ρ, σ, η, R, h => by
    rw [whileD]
    refine ht R (Rs.imp (Rs.bind_ok h) (fun x hx η1 f1 => ?_) (fun x hx η' f => hx η' (R.fs f)))
    have R1 := R.mono f1
    have fs1 := R.fs f1
    cases x with
    | false => exact (Sok.go (o := .nx ρ) hx fs1) σ η1 R1 (Fs.refl _ _ _)
    | true =>
      refine hc R1 (Rs.imp (Rs.bind_ok hx) (fun o ho => ?_) (fun x hx η' f => hx η' (fs1.trans f)))
      cases o with
      | nx ρ2 => exact fun σ2 η2 R2 f2 => wh_loop ht hc n ρ2 σ2 η2 R2 (Rs.imp ho (fun o ho => ho.go (fs1.trans f2)) (fun x hx η' f => hx η' ((fs1.trans f2).trans f)))
      | ct ρ2 => exact fun σ2 η2 R2 f2 => wh_loop ht hc n ρ2 σ2 η2 R2 (Rs.imp ho (fun o ho => ho.go (fs1.trans f2)) (fun x hx η' f => hx η' ((fs1.trans f2).trans f)))
      | bk ρ2 => exact fun σ2 η2 R2 f2 => ho σ2 η2 R2 (fs1.trans f2)
      | rt v => exact fun d η2 f2 r => ho d η2 (fs1.trans f2) r
def psWhile (t : PT) (s : PS') : PS' := fun ρ => pwhD t s fuelW ρ
theorem ss_while {t : CT} {c : CS} {pt : PT} {ps : PS'} (ht : ST t pt) (hc : SS c ps) : SS (sWhile t c) (psWhile pt ps) := by
  intro P0 b ρ σ η k R h
  exact wh_loop ht hc fuelW ρ σ η R h
/-- more fuel changes nothing -/
theorem pwhD_mono {t : PT} {s : PS'} {Q : Ou → Prop} {E : Xc → Prop} : ∀ (n m : Nat) (ρ : PEn), n ≤ m → (pwhD t s n ρ).ok Q E → (pwhD t s m ρ).ok Q E
  | 0, _, _, _, h => h.elim
  | n + 1, 0, _, hn, _ => absurd hn (by omega)
  | n + 1, m + 1, ρ, hn, h => by
    rw [pwhD] at h
    rw [pwhD]
    refine Rs.ok_bind (Rs.imp (Rs.bind_ok h) (fun x hx => ?_) (fun x hx => hx))
    cases x with
    | false => exact hx
    | true =>
      refine Rs.ok_bind (Rs.imp (Rs.bind_ok hx) (fun o ho => ?_) (fun x hx => hx))
      cases o with
      | nx ρ1 => exact pwhD_mono n m ρ1 (by omega) ho
      | ct ρ1 => exact pwhD_mono n m ρ1 (by omega) ho
      | bk ρ1 => exact ho
      | rt v => exact ho
theorem psWhile_of {t : PT} {s : PS'} {ρ : PEn} {Q : Ou → Prop} {E : Xc → Prop} {n : Nat} (hn : n ≤ 1000000) (h : (pwhD t s n ρ).ok Q E) : (psWhile t s ρ).ok Q E := by
  unfold psWhile
  exact pwhD_mono n fuelW ρ (by unfold fuelW; exact hn) h
/-! ### defs -/
def pDef (n m : Nat) (s : PS') : PFn := fun vs => match Nat.beq vs.length n with
  | true => (s (vs.map some ++ List.replicate (m - n) none)).bind fun o => match o with
    | .nx _ => .val (.im .non)
    | .rt v => .val v
    | _ => .bad
  | false => .bad
theorem AWs.len {P : Nat → Prop} {η : Hd} {vs : List PV} {ds : List D} (h : AWs P η vs ds) : vs.length = ds.length := by
  induction h with
  | nil => rfl
  | cons h r ih => simp [ih]
theorem AWs.get {P : Nat → Prop} {η : Hd} {vs : List PV} {ds : List D} (h : AWs P η vs ds) : ∀ (i : Nat) (v : PV), vs[i]? = some v → ∃ d : D, ds[i]? = some d ∧ AW P η v d := by
  induction h with
  | nil => intro i v e; simp at e
  | cons h r ih =>
    intro i v e
    cases i with
    | zero => simp at e; subst e; exact ⟨_, by simp, h⟩
    | succ i => simp at e; obtain ⟨d, e1, e2⟩ := ih i v e; exact ⟨d, by simpa using e1, e2⟩
theorem AW.own {P : Nat → Prop} {η : Hd} {v : PV} {d : D} (h : AW P η v d) : v.own = false := by
  cases v with
  | im _ => rfl
  | ls m l => cases m <;> first | rfl | exact h.elim
  | dc m t l => cases m <;> first | rfl | exact h.elim
  | cl c => rfl
theorem rep_start {P : Nat → Prop} {η : Hd} {vs : List PV} {ds : List D} {n m : Nat} (lt : ∀ q, P q → q < η.nx) (h : AWs P η vs ds) : Rep P η.nx (vs.map some ++ List.replicate (m - n) none) (startD n m ds) η := by
  have get : ∀ (i : Nat) (v : PV), (vs.map some ++ List.replicate (m - n) none : PEn)[i]? = some (some v) → ∃ d : D, (startD n m ds)[i]? = some (some d) ∧ AW P η v d := fun i v e => by
    by_cases hi : i < vs.length
    · rw [List.getElem?_append_left (by simpa using hi), List.getElem?_map] at e
      cases ev : vs[i]? with
      | none => rw [ev] at e; cases e
      | some u =>
        rw [ev] at e; cases e
        obtain ⟨d, e1, e2⟩ := h.get i v ev
        refine ⟨d, ?_, e2⟩
        unfold startD
        rw [List.getElem?_append_left (by rw [List.length_map, ← h.len]; exact hi), List.getElem?_map, e1]
        rfl
    · rw [List.getElem?_append_right (by simpa using Nat.le_of_not_lt hi), List.getElem?_replicate] at e
      split at e <;> cases e
  have no : ∀ (i : Nat) (v : PV), (vs.map some ++ List.replicate (m - n) none : PEn)[i]? = some (some v) → v.own = false := fun i v e => by
    obtain ⟨d, _, a⟩ := get i v e
    exact a.own
  have pr : ∀ q, Pr P (vs.map some ++ List.replicate (m - n) none) (startD n m ds) q → P q := fun q p => by
    rcases p with p | ⟨i, v, h1, h2, _⟩
    · exact p
    · rw [no i v h1] at h2; cases h2
  refine ⟨lt, Nat.le_refl _, by unfold startD; simp [h.len], fun i v e => ?_, fun i v e hv => ?_, fun i l e => ?_, fun i t l e => ?_, fun i j v w d _ e hv => ?_⟩
  · obtain ⟨d, e1, a⟩ := get i v e
    refine ⟨d, e1, ?_⟩
    cases v with
    | im _ => exact a
    | ls m l => cases m with
      | lo => obtain ⟨r, z1, z2, z3, z4⟩ := a; exact ⟨r, z1, z2, z3, fun hm => (nomatch hm), fun _ p => z4 (pr _ p)⟩
      | ke => obtain ⟨r, z1, z2, z3, z4⟩ := a; exact ⟨r, z1, z2, list_lst z3, fun _ => ⟨.inl z4, z3⟩, fun hm => by rcases hm with hm | hm <;> cases hm⟩
      | rd => obtain ⟨r, z1, z2, z3⟩ := a; exact ⟨r, z1, z2, z3, fun hm => (nomatch hm), fun hm => by rcases hm with hm | hm <;> cases hm⟩
      | fr => exact a.elim
      | ow => exact a.elim
    | dc m t l => cases m with
      | ke => obtain ⟨r, z1, z2, z3, z4⟩ := a; exact ⟨r, z1, z2, z3, fun _ => .inl z4, fun hm => (nomatch hm)⟩
      | _ => exact a.elim
    | cl c => exact a
  · rw [no i v e] at hv; cases hv
  · obtain ⟨d, e1, a⟩ := get i _ e
    obtain ⟨r, z1, z2, z3, z4⟩ := a
    exact ⟨r, by rw [e1, z1], z4⟩
  · obtain ⟨d, e1, a⟩ := get i _ e
    obtain ⟨r, z1, z2, z3, z4⟩ := a
    exact ⟨r, by rw [e1, z1], z4⟩
  · rw [no i v e] at hv; cases hv
theorem sf_def {n m : Nat} {c : CS} {p : PS'} (hc : SS c p) : SF (cDef n m c) (pDef n m p) := by
  intro P η vs ds kv kx lt ha h
  unfold pDef at h
  unfold cDef
  rw [← ha.len]
  split at h
  · rename_i en
    (try rw [en])
    have fr : ∀ {η'}, Fs P η.nx η η' → Fr P η η' := fun f => ⟨f.nx, fun q hq => f.keep q hq⟩
    refine hc (rep_start lt ha) (Rs.imp (Rs.bind_ok h) (fun o ho => ?_) (fun x hx η' f => hx η' (fr f)))
    cases o with
    | nx ρ => exact fun σ' η' _ f => ho .non η' (fr f) rfl
    | bk ρ => exact ho.elim
    | ct ρ => exact ho.elim
    | rt v =>
      refine fun d η' f r => ho d η' (fr f) ?_
      cases v with
      | im _ => exact r
      | ls m l => cases m <;> first | exact r | exact r.elim
      | dc m t l => cases m <;> first | exact r | exact r.elim
      | cl c => exact r
  · exact h.elim
end PL

/-! the plain layer: rolls, what is told, fields, methods, dicts -/
namespace PL
open PySem PySem.Spec L2 DL
/-! ### rolls -/
def below (n : Nat) : D → Prop := fun d => ∃ v, v < n ∧ d = iD (Int.ofNat v)
def qRoll : PFn := fun vs => match vs with
  | [.cl .dice, .im (.int (.ofNat (n + 1)))] => match Nat.ble n 1000000000 with
    | true => .all (below (n + 1)) fun d => .val (.im d)
    | false => .bad
  | _ => .bad
theorem sf_roll : SF fRoll qRoll := by
  intro P η vs ds kv kx lt ha h
  unfold qRoll at h
  split at h
  · rename_i n
    split at h
    · rename_i e
      cases ha with
      | cons h1 r =>
        cases r with
        | cons h2 r =>
          cases r
          obtain ⟨g, rfl, z2, z3, z4⟩ := h1
          cases h2
          exact roll_at z3 (Nat.le_of_ble_eq_true e) fun v hv => h _ ⟨v, hv, rfl⟩ _ η (Fr.refl _ _) rfl
    · exact h.elim
  · exact h.elim
/-! ### what is told -/
/-! ### fields, methods -/
/-! ### dicts -/
end PL

/-! the plain layer: texts, falling rows, names out of a list, three names at once -/
namespace PL
open PySem PySem.Spec L2 DL
def pJoin (o e : PE) : PE := fun ρ => (o ρ).bind fun x => match x with
  | .im (.str a) => (e ρ).bind fun y => match y with
    | .ls _ l => match strsOf l with
      | some ys => match Nat.ble ((ys.map (·.length)).sum + ys.length * a.length) 16777216 with
        | true => .val (.im (.str (Txt.join a ys)))
        | false => .bad
      | none => .bad
    | _ => .bad
  | _ => .bad
theorem se_join {o e : CE} {po pe : PE} (ho : SE o po) (he : SE e pe) : SE (cJoin o e) (pJoin po pe) := by
  intro P0 b ρ σ η kv kx R h
  unfold cJoin
  refine ho R (Rs.imp (Rs.bind_ok h) (fun x hx dx η1 f1 s1 n1 => ?_) (fun x hx η' f => hx η' f))
  split at hx
  · cases s1
    refine he (R.mono f1) (Rs.imp (Rs.bind_ok hx) (fun y hy dy η2 f2 s2 n2 => ?_) (fun x hx η' f => hx η' (f1.trans f)))
    have R2 := R.mono (f1.trans f2)
    split at hy
    · obtain ⟨r, rfl, l1, g1, _⟩ := (R2.view s2).lst
      split at hy
      · rename_i e1
        split at hy
        · rename_i e2
          simp only [gJoin, g1, e1, e2]
          exact hy _ η2 (f1.trans f2) rfl (fun z => nomatch z)
        · exact hy.elim
      · exact hy.elim
    · exact hy.elim
  · exact hx.elim
theorem w_par3' {A B C : CE} {σ : SD} {η : Hd} {i j l : Nat} {K : KS} : sPar3 i j l (cCons A (cCons B (cCons C cNil))) σ η K = A σ η (fun x η1 => B σ η1 (fun y η2 => C σ η2 (fun z η3 => K.nx (((σ.set i (some x)).set j (some y)).set l (some z)) η3) K.xc) K.xc) K.xc := rfl
/-! ### any of two fors -/
end PL

/-! the plain layer: laws of walks, loops -/
namespace PL
open PySem PySem.Spec L2 DL
section
variable {α β : Type} {pi : PI'} {pg : PG'} {pt : PT} {pe : PE} {ps : PS'} {vs : List Nat} {ρ : PEn} {l ys : List D} {o : Option Nat}
theorem bind_val {a : α} {f : α → Rs β} : (Rs.val a).bind f = f a := rfl
theorem lc_val (h1 : pi ρ = .val (l, o)) (h2 : wipOk vs (wk o ρ) = true) (h3 : l.length ≤ line1) (h4 : plc pg pt pe (wipP vs (wk o ρ)) l = .val ys) : pLc pi pg pt pe vs ρ = Rs.val (PV.ls .fr ys) := by
  unfold pLc
  rw [h1]
  show (match wipOk vs (wk o ρ), Nat.ble l.length line1 with
    | true, true => (nox (plc pg pt pe (wipP vs (wk o ρ)) l)).bind fun ys => Rs.val (PV.ls .fr ys)
    | _, _ => .bad) = _
  rw [h2, Nat.ble_eq_true_of_le h3, h4]
  rfl
theorem plc_filt {f g : α → D} {b : α → Bool} : ∀ {l : List α}, (∀ x ∈ l, ∃ ρ1, pg (f x) ρ = .val ρ1 ∧ pt ρ1 = .val (b x) ∧ (b x = true → pe ρ1 = .val (.im (g x)))) → plc pg pt pe ρ (l.map f) = .val ((l.filter b).map g)
  | [], _ => rfl
  | x :: l, h => by
    obtain ⟨ρ1, h1, h2, h3⟩ := h x (.head _)
    have ih := plc_filt (fun y hy => h y (.tail _ hy)) (l := l)
    rw [List.map_cons, plc, h1, bind_val, h2, bind_val]
    cases e : b x with
    | true =>
      rw [List.filter_cons_of_pos e]
      show (pe ρ1).bind _ = _
      rw [h3 e, bind_val]
      show (plc pg pt pe ρ (l.map f)).bind _ = _
      rw [ih]
      rfl
    | false =>
      rw [List.filter_cons_of_neg (by rw [e]; decide)]
      exact ih
theorem plc_map {f g : α → D} : ∀ {l : List α}, (∀ x ∈ l, ∃ ρ1, pg (f x) ρ = .val ρ1 ∧ pe ρ1 = .val (.im (g x))) → plc pg pYes pe ρ (l.map f) = .val (l.map g)
  | [], _ => rfl
  | x :: l, h => by
    obtain ⟨ρ1, h1, h3⟩ := h x (.head _)
    have ih := plc_map (fun y hy => h y (.tail _ hy)) (l := l)
    rw [List.map_cons, plc, h1, bind_val]
    show (pe ρ1).bind _ = _
    rw [h3, bind_val]
    show (plc pg pYes pe ρ (l.map f)).bind _ = _
    rw [ih]
    rfl
theorem for_ind {l : List D} (I : Nat → PEn → Prop) (hs : ∀ k d ρ, l[k]? = some d → I k ρ → ∃ ρ', (nox (pg d ρ)).bind ps = .val (.nx ρ') ∧ I (k + 1) ρ') : ∀ (r : List D) (k : Nat) (ρ : PEn), l.drop k = r → I k ρ → ∃ ρ', pforD pg ps r ρ = .val (.nx ρ') ∧ I (k + r.length) ρ'
  | [], k, ρ, _, h => ⟨ρ, rfl, h⟩
  | d :: r, k, ρ, e, h => by
    have hd : l[k]? = some d := by
      have : (l.drop k)[0]? = some d := by rw [e]; rfl
      rw [List.getElem?_drop] at this; exact this
    have hr : l.drop (k + 1) = r := by
      have : (l.drop k).drop 1 = r := by rw [e]; rfl
      rw [List.drop_drop] at this; exact this
    obtain ⟨ρ1, h1, h2⟩ := hs k d ρ hd h
    obtain ⟨ρ2, h3, h4⟩ := for_ind I hs r (k + 1) ρ1 hr h2
    refine ⟨ρ2, ?_, by rw [List.length_cons]; rw [show k + (r.length + 1) = k + 1 + r.length by omega]; exact h4⟩
    rw [pforD]
    cases eg : nox (pg d ρ) with
    | val ρ0 =>
      rw [eg, bind_val] at h1
      rw [bind_val, h1, bind_val]
      exact h3
    | exc x => rw [eg] at h1; cases h1
    | bad => rw [eg] at h1; cases h1
    | all S f => rw [eg] at h1; cases h1
theorem for_val {l : List D} {ρ0 : PEn} {pi : PI'} (I : Nat → PEn → Prop) (h1 : pi ρ0 = .val (l, none)) (h0 : I 0 ρ0) (hs : ∀ k d ρ, l[k]? = some d → I k ρ → ∃ ρ', (nox (pg d ρ)).bind ps = .val (.nx ρ') ∧ I (k + 1) ρ') : ∃ ρ', psFor pi pg ps ρ0 = .val (.nx ρ') ∧ I l.length ρ' := by
  obtain ⟨ρ', e, h⟩ := for_ind I hs l 0 ρ0 rfl h0
  refine ⟨ρ', ?_, by rw [Nat.zero_add] at h; exact h⟩
  unfold psFor
  rw [h1]
  exact e
theorem pwhD_up {t : PT} {s : PS'} {o : Ou} : ∀ (n m : Nat) (ρ : PEn), n ≤ m → pwhD t s n ρ = .val o → pwhD t s m ρ = .val o
  | 0, _, _, _, h => nomatch h
  | n + 1, 0, _, hn, _ => absurd hn (by omega)
  | n + 1, m + 1, ρ, hn, h => by
    rw [pwhD] at h
    rw [pwhD]
    cases et : t ρ with
    | bad => rw [et] at h; cases h
    | exc x => rw [et] at h; cases h
    | all S f => rw [et] at h; cases h
    | val x =>
      rw [et, bind_val] at h
      rw [bind_val]
      cases x with
      | false => exact h
      | true =>
        have h : (s ρ).bind (fun o => match o with
          | .nx ρ1 => pwhD t s n ρ1
          | .ct ρ1 => pwhD t s n ρ1
          | .bk ρ1 => .val (.nx ρ1)
          | .rt v => .val (.rt v)) = .val o := h
        show (s ρ).bind (fun o => match o with
          | .nx ρ1 => pwhD t s m ρ1
          | .ct ρ1 => pwhD t s m ρ1
          | .bk ρ1 => .val (.nx ρ1)
          | .rt v => .val (.rt v)) = .val o
        cases es : s ρ with
        | bad => rw [es] at h; cases h
        | exc x => rw [es] at h; cases h
        | all S f => rw [es] at h; cases h
        | val o =>
          rw [es, bind_val] at h
          rw [bind_val]
          cases o with
          | nx ρ1 => exact pwhD_up n m ρ1 (by omega) h
          | ct ρ1 => exact pwhD_up n m ρ1 (by omega) h
          | bk ρ1 => exact h
          | rt v => exact h
theorem wh_val {t : PT} {s : PS'} (I Q : PEn → Prop) (m : PEn → Nat) (h : ∀ ρ, I ρ → (t ρ = .val false ∧ Q ρ) ∨ (t ρ = .val true ∧ ∃ ρ', s ρ = .val (.nx ρ') ∧ I ρ' ∧ m ρ' < m ρ)) (ρ : PEn) (h0 : I ρ) (hm : m ρ < 1000000) : ∃ ρ', psWhile t s ρ = .val (.nx ρ') ∧ Q ρ' := by
  have key : ∀ n ρ, I ρ → m ρ < n → ∃ ρ', pwhD t s n ρ = .val (.nx ρ') ∧ Q ρ' := by
    intro n
    induction n with
    | zero => intro ρ _ hm; omega
    | succ n ih =>
      intro ρ hI hm
      rcases h ρ hI with ⟨h1, h2⟩ | ⟨h1, ρ1, h2, h3, h4⟩
      · exact ⟨ρ, by rw [pwhD, h1]; rfl, h2⟩
      · obtain ⟨ρ', h5, h6⟩ := ih ρ1 h3 (by omega)
        refine ⟨ρ', ?_, h6⟩
        rw [pwhD, h1, bind_val]
        show (s ρ).bind _ = _
        rw [h2, bind_val]
        exact h5
  obtain ⟨ρ', h1, h2⟩ := key 1000000 ρ h0 hm
  refine ⟨ρ', ?_, h2⟩
  unfold psWhile
  exact pwhD_up 1000000 fuelW ρ (by unfold fuelW; exact Nat.le_refl _) h1
end
/-! ### steps -/
section
variable {ρ ρ1 : PEn} {v w x y z : PV} {a b c e : PE} {g : PV → Option PV} {g2 : G2} {s s2 : PS'} {t : PT} {i j : Nat} {f : PFn}
theorem ret_val (h : e ρ = .val v) (hw : retM v = some w) : psRet e ρ = .val (.rt w) := by unfold psRet; rw [h, bind_val, hw]
theorem fn_val (h : a ρ = .val x) (hg : g x = some v) : pFn g a ρ = .val v := by unfold pFn; rw [h, bind_val, hg]
theorem op_val (h : a ρ = .val x) (h2 : b ρ = .val y) (hg : g2 x y = some v) : pOp g2 a b ρ = .val v := by unfold pOp; rw [h, bind_val, h2, bind_val, hg]
theorem set_val (h : e ρ = .val v) (hw : stM v = some w) : psSet e i ρ = .val (.nx (ρ.set i (some w))) := by unfold psSet; rw [h, bind_val, hw]
theorem seq_nx (h : s ρ = .val (.nx ρ1)) : psSeq s s2 ρ = s2 ρ1 := by unfold psSeq; rw [h, bind_val]
theorem seq_rt (h : s ρ = .val (.rt v)) : psSeq s s2 ρ = .val (.rt v) := by unfold psSeq; rw [h, bind_val]
theorem tst_val {q : Bool} (h : a ρ = .val (.im (.bl q))) : pTst a ρ = .val q := by unfold pTst; rw [h, bind_val]
theorem if_tt (h : t ρ = .val true) : psIf t s s2 ρ = s ρ := by unfold psIf; rw [h, bind_val]
theorem if_ff (h : t ρ = .val false) : psIf t s s2 ρ = s2 ρ := by unfold psIf; rw [h, bind_val]
theorem eif_tt (h : t ρ = .val true) : pIf t a b ρ = a ρ := by unfold pIf; rw [h, bind_val]
theorem eif_ff (h : t ρ = .val false) : pIf t a b ρ = b ρ := by unfold pIf; rw [h, bind_val]
theorem or_ff {t t2 : PT} (h : t ρ = .val false) : pOrT t t2 ρ = t2 ρ := by unfold pOrT; rw [h, bind_val]
theorem and_ff {t t2 : PT} (h : t ρ = .val false) : pAndT t t2 ρ = .val false := by unfold pAndT; rw [h, bind_val]
theorem and_tt {t t2 : PT} (h : t ρ = .val true) : pAndT t t2 ρ = t2 ρ := by unfold pAndT; rw [h, bind_val]
theorem call1 (h : a ρ = .val x) (hx : argM x = some y) : pCall f (pCons a pNil) ρ = f [y] := by
  unfold pCall pCons pNil
  rw [h]
  show (match argMs [x] with | some ws => f ws | none => .bad) = _
  simp only [argMs, hx]
theorem call2 {x2 y2 : PV} (h : a ρ = .val x) (hx : argM x = some y) (h2 : b ρ = .val x2) (hx2 : argM x2 = some y2) : pCall f (pCons a (pCons b pNil)) ρ = f [y, y2] := by
  unfold pCall pCons pNil
  rw [h, bind_val, h2]
  show (match argMs [x, x2] with | some ws => f ws | none => .bad) = _
  simp only [argMs, hx, hx2]
theorem call3 {x2 y2 x3 y3 : PV} (h : a ρ = .val x) (hx : argM x = some y) (h2 : b ρ = .val x2) (hx2 : argM x2 = some y2) (h3 : c ρ = .val x3) (hx3 : argM x3 = some y3) : pCall f (pCons a (pCons b (pCons c pNil))) ρ = f [y, y2, y3] := by
  unfold pCall pCons pNil
  rw [h, bind_val, h2, bind_val, h3]
  show (match argMs [x, x2, x3] with | some ws => f ws | none => .bad) = _
  simp only [argMs, hx, hx2, hx3]
theorem def_rt {n m : Nat} {vs : List PV} (hn : vs.length = n) (h : s (vs.map some ++ List.replicate (m - n) none) = .val (.rt v)) : pDef n m s vs = .val v := by
  unfold pDef
  subst hn
  rw [Nat.beq_refl]
  show (s (vs.map some ++ List.replicate (m - vs.length) none)).bind _ = _
  rw [h]
  rfl
theorem gNe_of {q : Bool} (h : eqP x y = some q) : gNe x y = some (.im (.bl (!q))) := by unfold gNe; rw [h]
theorem gEq_of {q : Bool} (h : eqP x y = some q) : gEq x y = some (.im (.bl q)) := by unfold gEq; rw [h]
theorem ret_im {d : D} (h : e ρ = .val (.im d)) : psRet e ρ = .val (.rt (.im d)) := ret_val h rfl
theorem set_im {d : D} (h : e ρ = .val (.im d)) : psSet e i ρ = .val (.nx (ρ.set i (some (.im d)))) := set_val h rfl
theorem set_fr {l : List D} (h : e ρ = .val (.ls .fr l)) : psSet e i ρ = .val (.nx (ρ.set i (some (.ls .ow l)))) := set_val h rfl
theorem tup_ls {m : Md} {l : List D} (h : a ρ = .val (.ls m l)) : pFn hTuple a ρ = .val (.im (.tup l)) := fn_val h rfl
theorem len_ls {m : Md} {l : List D} (h : a ρ = .val (.ls m l)) : pFn hLen a ρ = .val (.im (.int (Int.ofNat l.length))) := fn_val h rfl
theorem len_tup {l : List D} (h : a ρ = .val (.im (.tup l))) : pFn hLen a ρ = .val (.im (.int (Int.ofNat l.length))) := fn_val h rfl
theorem store_val {d k : D} {u w : PV} (h : e ρ = .val (.im d)) (hu : ownAt ρ i = some u) (h2 : a ρ = .val (.im k)) (hp : putP u k d = some w) : psStore e i a ρ = .val (.nx (ρ.set i (some w))) := by
  unfold psStore; rw [h, bind_val]
  simp only [hu]
  rw [h2, bind_val]
  simp only [hp]
theorem app_val {d : D} {l : List D} (hi : ρ[i]? = some (some (.ls .ow l))) (h : e ρ = .val (.im d)) (hl : l.length < line) : psExpr (pxMt mApp i (pCons e pNil)) ρ = .val (.nx (ρ.set i (some (.ls .ow (l ++ [d]))))) := by
  have : Nat.blt l.length line = true := Nat.ble_eq_true_of_le hl
  unfold psExpr pxMt pCons pNil
  simp only [hi, h, bind_val, imms, mApp, this]
theorem aug_val {d : D} {z : D} (hi : ρ[i]? = some (some (.im d))) (h : e ρ = .val y) (hg : g2 (.im d) y = some (.im z)) : psAug i g2 e ρ = .val (.nx (ρ.set i (some (.im z)))) := by
  unfold psAug
  simp only [hi, h, bind_val, hg]
/-- if a != b: return False -/
theorem ne_ff (h : a ρ = .val x) (h2 : b ρ = .val y) (hq : eqP x y = some true) : pTst (pOp gNe a b) ρ = .val false := tst_val (op_val h h2 (gNe_of hq))
theorem par_val (h : a ρ = .val x) (h2 : b ρ = .val y) (hx : stM x = some v) (hy : stM y = some w) : psPar i j a b ρ = .val (.nx ((ρ.set i (some v)).set j (some w))) := by unfold psPar; rw [h, bind_val, h2, bind_val, hx, hy]
end
/-! ### rows of numbers -/
abbrev nI (n : Nat) : D := .int (Int.ofNat n)
def nR (t : List Nat) : D := .tup (t.map nI)
theorem range_nI : ∀ (n i : Nat), rangeD n (Int.ofNat i) = (List.range' i n).map nI
  | 0, _ => rfl
  | n + 1, i => by
    rw [rangeD, List.range'_succ, List.map_cons]
    congr 1
    exact range_nI n (i + 1)
theorem pR1_val {a : PE} {ρ : PEn} {n : Nat} (h : a ρ = .val (.im (nI n))) (hn : n ≤ 1000000000000000000) : pR1 a ρ = .val ((List.range n).map nI, none) := by
  unfold pR1
  rw [h, bind_val]
  have e : rOk (Int.ofNat n) = true := Nat.ble_eq_true_of_le hn
  show (match rOk (Int.ofNat n) with | true => Rs.val (rangeD (Int.ofNat n).toNat 0, none) | false => .bad) = _
  rw [e, show (0 : Int) = Int.ofNat 0 from rfl, range_nI, List.range_eq_range']
  rfl
theorem ix_nR {t : List Nat} {k : Nat} (h : k < t.length) : gIx (.im (nR t)) (.im (nI k)) = some (.im (nI (t[k]))) := by
  show (match (t.map nI)[k]? with | some d => some (PV.im d) | none => none) = _
  rw [List.getElem?_map, List.getElem?_eq_getElem h]
  rfl
theorem eqn_nI (k : Nat) (a b : Nat) : eqn k (nI a) (nI b) = decide (a = b) := by
  have e : eqn k (nI a) (nI b) = ieq (Int.ofNat a) (Int.ofNat b) := by cases k <;> rfl
  rw [e, ieq_dec]
  by_cases h : a = b
  · subst h; simp
  · rw [decide_eq_false h, decide_eq_false (fun z => h (Int.ofNat.inj z))]
theorem eqL_nI (k : Nat) : ∀ (s t : List Nat), eqL (eqn k) (s.map nI) (t.map nI) = decide (s = t)
  | [], [] => rfl
  | [], _ :: _ => rfl
  | _ :: _, [] => rfl
  | a :: s, b :: t => by
    rw [List.map_cons, List.map_cons]
    simp only [eqL, eqn_nI]
    by_cases h : a = b
    · subst h
      rw [decide_eq_true rfl]
      simp only [eqL_nI k s t]
      by_cases h2 : s = t
      · subst h2; simp
      · rw [decide_eq_false h2, decide_eq_false (fun z => h2 (List.cons.inj z).2)]
    · rw [decide_eq_false h, decide_eq_false (fun z => h (List.cons.inj z).1)]
theorem pur_nI (k : Nat) (t : List Nat) : (t.map nI).all (pur k) = true := by
  rw [List.all_eq_true]
  intro d hd
  obtain ⟨a, _, rfl⟩ := List.mem_map.mp hd
  cases k <;> rfl
theorem eqP_nR {s t : List Nat} : eqP (.im (nR s)) (.im (nR t)) = some (decide (s = t)) := by
  have h1 : pur 8 (nR s) = true := pur_nI 7 s
  have h2 : pur 8 (nR t) = true := pur_nI 7 t
  have h3 : eqn 8 (nR s) (nR t) = decide (s = t) := eqL_nI 7 s t
  simp only [eqP, h1, h2, h3]
theorem eqP_nL {m m' : Md} {s t : List Nat} : eqP (.ls m (s.map nI)) (.ls m' (t.map nI)) = some (decide (s = t)) := by
  have h1 : purs 8 (s.map nI) = true := pur_nI 8 s
  have h2 : purs 8 (t.map nI) = true := pur_nI 8 t
  simp only [eqP, h1, h2, eqL_nI]
theorem eqP_nI {a b : Nat} : eqP (.im (nI a)) (.im (nI b)) = some (decide (a = b)) := by
  have h3 : eqn 8 (nI a) (nI b) = decide (a = b) := eqn_nI 8 a b
  have h1 : pur 8 (nI a) = true := rfl
  have h2 : pur 8 (nI b) = true := rfl
  simp only [eqP, h1, h2, h3]
section
variable {α : Type} {B : Nat} {pi pi1 : PI'} {pg pg1 : PG'} {pt pt1 : PT} {pe pk pv : PE} {vs vs1 : List Nat} {ρ : PEn} {o : Option Nat}
end
end PL

/-! the plain layer: isinstance of lists; loops over a list of values and lists; slots forgotten -/
namespace PL
open PySem PySem.Spec L2 DL
/-- values that stay -/
def RE (P0 : Nat → Prop) (b : Nat) (η : Hd) : PV → D → Prop
  | .im e, d => d = e
  | .ls .lo l, d => ∃ r, d = .ref r ∧ r < b ∧ η.list r = some l ∧ ¬ P0 r
  | _, _ => False
inductive REs (P0 : Nat → Prop) (b : Nat) (η : Hd) : List PV → List D → Prop
  | nil : REs P0 b η [] []
  | cons {v : PV} {d : D} {vs : List PV} {ds : List D} (h : RE P0 b η v d) (r : REs P0 b η vs ds) : REs P0 b η (v :: vs) (d :: ds)
theorem RE.mono {P0 : Nat → Prop} {b : Nat} {η η' : Hd} {v : PV} {d : D} (f : Fs P0 b η η') (h : RE P0 b η v d) : RE P0 b η' v d := by
  cases v with
  | im _ => exact h
  | ls m l => cases m with
    | lo =>
      obtain ⟨r, z1, z2, z3, z4⟩ := h
      refine ⟨r, z1, z2, ?_, z4⟩
      rcases f.keep r z2 with e | ⟨_, l', e1, e2⟩
      · unfold Hd.list at z3 ⊢; rw [e]; exact z3
      · rw [list_lst e1] at z3; cases z3; exact list_frz e2
    | _ => exact h
  | dc m t l => exact h
  | cl c => exact h
theorem REs.mono {P0 : Nat → Prop} {b : Nat} {η η' : Hd} (f : Fs P0 b η η') : ∀ {vs : List PV} {ds : List D}, REs P0 b η vs ds → REs P0 b η' vs ds
  | _, _, .nil => .nil
  | _, _, .cons h r => .cons (h.mono f) (r.mono f)
theorem REs.len {P0 : Nat → Prop} {b : Nat} {η : Hd} : ∀ {vs : List PV} {ds : List D}, REs P0 b η vs ds → vs.length = ds.length
  | _, _, .nil => rfl
  | _, _, .cons h r => by rw [List.length_cons, List.length_cons, r.len]
section
variable {P0 : Nat → Prop} {b b' : Nat} {ρ : PEn} {σ : SD} {η η1 : Hd}
end
end PL

/-! the plain layer: the less of two, rows of noughts; the instance of Sums -/
namespace PL
open PySem PySem.Spec L2 DL
def gRepV : G2 := fun x y => match x, y with
  | .im (.tup (a :: b)), .im (.int (.ofNat k)) => match Nat.ble k 1000, Nat.ble (b.length + 1) 1000 with
    | true, true => some (.im (.tup (List.replicate k (a :: b)).flatten))
    | _, _ => none
  | _, _ => none
theorem repV_eq {a : D} {b : List D} {k : Nat} {η : Hd} (h1 : Nat.ble k 1000 = true) (h2 : Nat.ble (b.length + 1) 1000 = true) : fRepV (.tup (a :: b)) (.int (.ofNat k)) η = some (.tup (List.replicate k (a :: b)).flatten, η) := by
  match k, h1 with
  | 0, _ => rfl
  | 1, _ =>
    show some (D.tup (a :: b), η) = some (D.tup (List.replicate 1 (a :: b)).flatten, η)
    simp [List.replicate]
  | k + 2, h1 =>
    have e : (Nat.ble 1 (a :: b).length && (Nat.ble 2 (k + 2) && (Nat.ble (k + 2) 1000 && Nat.ble (a :: b).length 1000))) = true := by
      rw [h1, show Nat.ble (a :: b).length 1000 = true from h2, Nat.ble_eq_true_of_le (show 1 ≤ (a :: b).length by rw [List.length_cons]; omega), Nat.ble_eq_true_of_le (show 2 ≤ k + 2 by omega)]
      rfl
    have : fRepT (.tup (a :: b)) (.int (.ofNat (k + 2))) η = some (.tup (List.replicate (k + 2) (a :: b)).flatten, η) := by
      unfold fRepT
      simp only [e]
    simp only [fRepV, fRepU, fOr, this]
theorem s2_repV : S2 fRepV gRepV := by
  intro P η x y v dx dy lt hx hy h
  unfold gRepV at h
  split at h
  · split at h
    · rename_i e1 e2
      cases h; cases hx; cases hy
      exact ⟨_, η, repV_eq e1 e2, Fr.refl _ _, rfl⟩
    · cases h
  · cases h
/-! ### Sums(lengths) -/
section
variable {P0 : Nat → Prop} {b : Nat} {ρ : PEn} {σ : SD} {η η1 : Hd}
end
/-- only the cell r is another -/
structure On (r : Nat) (η η' : Hd) : Prop where
  nx : η'.nx = η.nx
  ne : ∀ q, q ≠ r → η'.get q = η.get q
theorem On.refl (r : Nat) (η : Hd) : On r η η := ⟨rfl, fun _ _ => rfl⟩
theorem On.set {r : Nat} {η η' : Hd} {c : Cell} (h : On r η η') : On r η (η'.set r c) := ⟨h.nx, fun q z => by rw [get_set_ne z]; exact h.ne q z⟩
theorem Fr.on {P : Nat → Prop} {r : Nat} {η0 η η' : Hd} (f : Fr P η0 η) (h : On r η η') (hr : η0.nx ≤ r) : Fr P η0 η' := ⟨by rw [h.nx]; exact f.nx, fun q hq => by
  rw [h.ne q (by omega)]
  exact f.keep q hq⟩
section
variable {c r rt rl : Nat} {T : D} {x1 : Option D} {K : KS}
end
end PL

/-! the plain layer: two stores at once; sorted(d.items()) -/
namespace PL
open PySem PySem.Spec L2 DL
section
variable {P0 : Nat → Prop} {b : Nat} {ρ : PEn} {σ : SD} {η : Hd}
end
end PL

/-! the plain layer: sorted of one row alone -/
namespace PL
open PySem PySem.Spec L2 DL
end PL

/-! a dict with rows of rows of ints as keys: x in d, {k: v}, sorted(d) -/
namespace DL
open PySem PySem.Spec PyProof.Rows L2
section
variable {X : Cx} {N : Nm} {E : XK}
/-! ### in -/
/-! ### {k: v} -/
/-! ### sorted -/
end
end DL

/-! grids by a prime: wide ones cleared (printed by gencw.py) -/
namespace DL
open PySem PySem.Spec L2
section
variable {S : List Nat} {σ : SD} {η η0 η' : Hd} {A B C : CE}
/-- a list of rows -/
structure MtW (n wd R : Nat) (m : Mt) (η0 η : Hd) : Prop where
  qs : ∃ q : Nat → Nat, η.get R = some (.lst (tab n (fun i => .ref (q i)))) ∧ ∀ i, i < n → η.list (q i) = some (iRow wd (m i)) ∧ q i < η.nx ∧ q i ≠ R ∧ η0.nx ≤ q i
  R0 : η0.nx ≤ R
  R1 : R < η.nx
  gr : Gr [] η0 η
variable {n wd R : Nat} {m : Mt}
theorem MtW.mono (M : MtW n wd R m η0 η) (x : Gr [] η η') : MtW n wd R m η0 η' := by
  obtain ⟨q, h1, h2⟩ := M.qs
  exact ⟨⟨q, by rw [x.keep M.R1 (by simp)]; exact h1, fun i hi => by
    obtain ⟨a, b, c, d⟩ := h2 i hi
    exact ⟨x.list b a, Nat.lt_of_lt_of_le b x.1, c, d⟩⟩, M.R0, Nat.lt_of_lt_of_le M.R1 x.1, M.gr.trans x⟩
/-- a row may be read alone from now on -/
theorem MtW.frz (M : MtW n wd R m η0 η) {q : Nat} (hq : q ≠ R) (h0 : η0.nx ≤ q) : MtW n wd R m η0 (frzd η (.ref q)) := by
  have key : ∀ p l, η.list p = some l → (frzd η (.ref q)).list p = some l := fun p l h => by
    simp only [frzd]
    split
    · rename_i l' e
      show (η.set q (.frz l')).list p = some l
      by_cases z : p = q
      · subst z
        rw [list_lst e] at h
        cases h
        exact list_frz (get_set_eq e)
      · unfold Hd.list; rw [get_set_ne z]; exact h
    · exact h
  obtain ⟨qs, h1, h2⟩ := M.qs
  refine ⟨⟨qs, ?_, fun i hi => ?_⟩, M.R0, by rw [frzd_nx]; exact M.R1, M.gr.frzN h0⟩
  · rcases frzd_ref η q with e | ⟨l, e⟩
    · rw [e]; exact h1
    · rw [e, get_set_ne (Ne.symm hq)]; exact h1
  · obtain ⟨a, b, c, d⟩ := h2 i hi
    exact ⟨key _ _ a, by rw [frzd_nx]; exact b, c, d⟩
/-- rows[k] -/
theorem MtW.row (M : MtW n wd R m η0 η) {k : Nat} (hk : k < n) (a : Ev A σ η (.ref R)) (b : Ev B σ η (.int (Int.ofNat k))) : ∃ q, Ev (cOp fIx A B) σ η (.ref q) ∧ η.list q = some (iRow wd (m k)) ∧ q < η.nx ∧ q ≠ R ∧ η0.nx ≤ q := by
  obtain ⟨q, h1, h2⟩ := M.qs
  exact ⟨q k, ev_ixL a (list_lst h1) b (tab_get hk), h2 k hk⟩
theorem MtW.len (M : MtW n wd R m η0 η) (a : Ev A σ η (.ref R)) : Ev (cFn (f1 gLenA) (cCons A cNil)) σ η (.int (Int.ofNat n)) := by
  obtain ⟨q, h1, _⟩ := M.qs
  have := ev_lenL a (list_lst h1)
  rw [tab_len] at this
  exact this
/-- rows[k] = a row -/
theorem MtW.set (M : MtW n wd R m η0 η) {k c : Nat} {f : Nat → Int} (hk : k < n) (hc : η.list c = some (iRow wd f)) (c1 : c < η.nx) (c2 : c ≠ R) (c3 : η0.nx ≤ c) : ∃ l, fSet (.ref R) (.int (Int.ofNat k)) (.ref c) η = some (η.set R (.lst l)) ∧ MtW n wd R (fun i => if i = k then f else m i) η0 (η.set R (.lst l)) := by
  obtain ⟨q, h1, h2⟩ := M.qs
  refine ⟨_, fSet_at h1 tab_len hk, ⟨fun i => if i = k then c else q i, ?_, fun i hi => ?_⟩, M.R0, M.R1, M.gr.setN M.R0⟩
  · rw [get_set_eq h1, tab_set]
    congr 2
    exact tab_ext fun i _ => by
      by_cases e : i = k
      · dsimp only; rw [if_pos e, if_pos e]
      · dsimp only; rw [if_neg e, if_neg e]
  · obtain ⟨a, b, d, e⟩ := h2 i hi
    have gl : ∀ p, p ≠ R → (η.set R (.lst ((tab n (fun i => .ref (q i))).set k (.ref c)))).list p = η.list p := fun p hp => by unfold Hd.list; rw [get_set_ne hp]
    by_cases z : i = k
    · dsimp only; rw [if_pos z, if_pos z, gl c c2]
      exact ⟨hc, c1, c2, c3⟩
    · dsimp only; rw [if_neg z, if_neg z, gl _ d]
      exact ⟨a, b, d, e⟩
end
section
variable {n wd R : Nat} {m m0 : Mt} {η η0 : Hd} {p : Int} {e : Nat} {det : Mt → Int}
end
section
variable {n wd R : Nat} {m m0 : Mt} {η η0 : Hd} {p : Int} {e : Nat} {I : Nat → Nat → Int → Mt → Prop}
end
end DL

/-! an attribute among the targets; list(dict); a def that is never left -/
namespace DL
open PySem PySem.Spec L2
section
variable {K : PySem.W.Frag} {X : Cx} {N : Nm} {E : XK}
/-! ### o.f as a target -/
/-! ### list(d) -/
/-! ### never -/
end
end DL

/-! any, all of two fors in the plain layer -/
namespace PL
open PySem PySem.Spec L2 DL
variable {g g1 : CG} {t t1 : CT} {e : CE} {i i1 : CI} {pg pg1 : PG'} {pt pt1 : PT} {pe : PE} {pi pi1 : PI'} {vs vs1 : List Nat}
end PL

/-! the plain layer: sorted of rows of rows -/
namespace PL
open PySem PySem.Spec L2 DL
end PL

/-! grids by a prime in the plain layer: cleared, square and wide -/
namespace PL
open PySem PySem.Spec L2 DL
section
variable {n : Nat} {m0 m : Mt} {p : Int} {e : Nat} {det : Mt → Int}
end
/-! ### cleared as a def -/
end PL

/-! turns as rows of numbers: one after the other, backward, what some make -/
namespace TN
noncomputable section
def nth (l : List Nat) (k : Nat) : Nat := List.rec (motive := fun _ => Nat → Nat) (fun _ => 0) (fun x _ ih k => Nat.rec x (fun k' _ => ih k') k) l k
theorem nth_succ {x : Nat} {l : List Nat} {k : Nat} : nth (x :: l) (k + 1) = nth l k := rfl
theorem nth_eq : ∀ (l : List Nat) (k : Nat), nth l k = l.getD k 0
  | [], k => rfl
  | x :: l, 0 => rfl
  | x :: l, k + 1 => by rw [nth_succ, nth_eq l k]; rfl
theorem nth_lt {t : List Nat} {k : Nat} (h : k < t.length) : nth t k = t[k] := by
  rw [nth_eq, List.getD_eq_getElem?_getD, List.getElem?_eq_getElem h]; rfl
theorem nth_mem {t : List Nat} {k : Nat} (h : k < t.length) : nth t k ∈ t := by rw [nth_lt h]; exact List.getElem_mem h
theorem nth_ext {a b : List Nat} (hl : a.length = b.length) (h : ∀ k, k < a.length → nth a k = nth b k) : a = b := by
  apply List.ext_getElem hl
  intro k h1 h2
  have := h k h1
  rw [nth_lt h1, nth_lt h2] at this
  exact this
theorem nth_range {n k : Nat} (h : k < n) : nth (List.range n) k = k := by
  rw [nth_lt (by rw [List.length_range]; exact h)]
  simp
theorem mem_nth {t : List Nat} {x : Nat} (h : x ∈ t) : ∃ k, k < t.length ∧ nth t k = x := by
  obtain ⟨k, hk, e⟩ := List.mem_iff_getElem.mp h
  exact ⟨k, hk, by rw [nth_lt hk]; exact e⟩
def aft (a b : List Nat) : List Nat := a.map fun k => nth b k
theorem aft_len {a b : List Nat} : (aft a b).length = a.length := by unfold aft; rw [List.length_map]
theorem nth_map {a : List Nat} {f : Nat → Nat} {k : Nat} (h : k < a.length) : nth (a.map f) k = f (nth a k) := by
  rw [nth_lt (by rw [List.length_map]; exact h), nth_lt h, List.getElem_map]
theorem nth_aft {a b : List Nat} {k : Nat} (h : k < a.length) : nth (aft a b) k = nth b (nth a k) := nth_map h
def Pm (n : Nat) (t : List Nat) : Prop := t.Perm (List.range n)
theorem Pm.len {n : Nat} {t : List Nat} (h : Pm n t) : t.length = n := by have := h.length_eq; rwa [List.length_range] at this
theorem Pm.lt {n : Nat} {t : List Nat} (h : Pm n t) : ∀ k ∈ t, k < n := fun k hk => List.mem_range.mp (h.subset hk)
theorem Pm.nlt {n k : Nat} {t : List Nat} (h : Pm n t) (hk : k < n) : nth t k < n := h.lt _ (nth_mem (by rw [h.len]; exact hk))
theorem Pm.nd {n : Nat} {t : List Nat} (h : Pm n t) : t.Nodup := (List.Perm.nodup_iff h).mpr List.nodup_range
theorem Pm.id (n : Nat) : Pm n (List.range n) := .refl _
theorem nd_inj {t : List Nat} (h : t.Nodup) {i j : Nat} (hi : i < t.length) (hj : j < t.length) (e : nth t i = nth t j) : i = j := by
  rw [nth_lt hi, nth_lt hj] at e
  exact (List.getElem_inj h).mp e
theorem Pm.inj {n : Nat} {t : List Nat} (h : Pm n t) {i j : Nat} (hi : i < n) (hj : j < n) (e : nth t i = nth t j) : i = j :=
  nd_inj h.nd (by rw [h.len]; exact hi) (by rw [h.len]; exact hj) e
/-! ### as many as there are -/
theorem nodup_perm {α : Type} [DecidableEq α] : ∀ {l m : List α}, l.Nodup → (∀ x ∈ l, x ∈ m) → m.length ≤ l.length → l.Perm m
  | [], m, _, _, h => by
    have : m = [] := List.length_eq_zero_iff.mp (Nat.le_zero.mp h)
    rw [this]
  | x :: l, m, hd, hs, hl => by
    obtain ⟨h1, h2⟩ := List.nodup_cons.mp hd
    have hx := hs x (.head _)
    have e := List.length_erase_of_mem hx
    have hp : 0 < m.length := List.length_pos_of_mem hx
    rw [List.length_cons] at hl
    have ih := nodup_perm (l := l) (m := m.erase x) h2 (fun y hy => (List.mem_erase_of_ne (fun z => h1 (by rw [← z]; exact hy))).mpr (hs y (.tail _ hy))) (by omega)
    exact (ih.cons x).trans (List.perm_cons_erase hx).symm
theorem pm_of {n : Nat} {t : List Nat} (hl : t.length = n) (hlt : ∀ k, k < n → nth t k < n) (hi : ∀ i j, i < n → j < n → nth t i = nth t j → i = j) : Pm n t := by
  have nd : t.Nodup := by
    rw [List.nodup_iff_pairwise_ne, List.pairwise_iff_getElem]
    intro i j h1 h2 hij e
    rw [← nth_lt h1, ← nth_lt h2] at e
    have := hi i j (by omega) (by omega) e
    omega
  refine nodup_perm nd (fun x hx => ?_) (by rw [List.length_range]; omega)
  obtain ⟨k, hk, e⟩ := mem_nth hx
  rw [← e]
  exact List.mem_range.mpr (hlt k (by omega))
theorem Pm.aft {n : Nat} {a b : List Nat} (ha : Pm n a) (hb : Pm n b) : Pm n (aft a b) := by
  refine pm_of (by rw [aft_len, ha.len]) (fun k hk => ?_) (fun i j hi hj e => ?_)
  · rw [nth_aft (by rw [ha.len]; exact hk)]; exact hb.nlt (ha.nlt hk)
  · rw [nth_aft (by rw [ha.len]; exact hi), nth_aft (by rw [ha.len]; exact hj)] at e
    exact ha.inj hi hj (hb.inj (ha.nlt hi) (ha.nlt hj) e)
theorem aft_assoc {n : Nat} {a b c : List Nat} (ha : Pm n a) (hb : Pm n b) : aft (aft a b) c = aft a (aft b c) := by
  refine nth_ext (by rw [aft_len, aft_len, aft_len]) fun k hk => ?_
  rw [aft_len, aft_len] at hk
  rw [nth_aft (by rw [aft_len]; exact hk), nth_aft hk, nth_aft hk, nth_aft (by rw [hb.len]; exact ha.nlt (by rw [← ha.len]; exact hk))]
theorem one_aft {n : Nat} {b : List Nat} (h : Pm n b) : aft (List.range n) b = b := by
  refine nth_ext (by rw [aft_len, List.length_range, h.len]) fun k hk => ?_
  rw [aft_len, List.length_range] at hk
  rw [nth_aft (by rw [List.length_range]; exact hk), nth_range hk]
theorem aft_one {n : Nat} {a : List Nat} (h : Pm n a) : aft a (List.range n) = a := by
  refine nth_ext aft_len fun k hk => ?_
  rw [aft_len] at hk
  rw [nth_aft hk, nth_range (h.nlt (by rw [← h.len]; exact hk))]
/-! ### backward -/
def bckK (a : List Nat) (k : Nat) : List Nat := (List.range k).foldl (fun f i => f.set (nth a i) i) (List.replicate a.length 0)
def bck (a : List Nat) : List Nat := bckK a a.length
theorem bckK_succ (a : List Nat) (k : Nat) : bckK a (k + 1) = (bckK a k).set (nth a k) k := by
  unfold bckK
  rw [List.range_succ, List.foldl_append]
  rfl
theorem bckK_len (a : List Nat) : ∀ k, (bckK a k).length = a.length
  | 0 => by simp [bckK]
  | k + 1 => by rw [bckK_succ, List.length_set, bckK_len a k]
theorem nth_set {l : List Nat} {i j x : Nat} (hj : j < l.length) : nth (l.set i x) j = if i = j then x else nth l j := by
  rw [nth_lt (by rw [List.length_set]; exact hj), nth_lt hj, List.getElem_set]
theorem bckK_at {n : Nat} {a : List Nat} (h : Pm n a) : ∀ (k : Nat), k ≤ n → ∀ i, i < k → nth (bckK a k) (nth a i) = i
  | 0, _, i, hi => absurd hi (by omega)
  | k + 1, hk, i, hi => by
    have hl : nth a i < (bckK a k).length := by rw [bckK_len, h.len]; exact h.nlt (by omega)
    rw [bckK_succ, nth_set hl]
    by_cases e : nth a k = nth a i
    · rw [if_pos e]; exact h.inj (by omega) (by omega) e
    · rw [if_neg e]
      exact bckK_at h k (by omega) i (by
        rcases Nat.lt_succ_iff_lt_or_eq.mp hi with q | q
        · exact q
        · exact absurd (by rw [q]) e)
theorem bck_at {n : Nat} {a : List Nat} (h : Pm n a) {i : Nat} (hi : i < n) : nth (bck a) (nth a i) = i := by
  unfold bck
  exact bckK_at h a.length (by rw [h.len]; exact Nat.le_refl _) i (by rw [h.len]; exact hi)
theorem Pm.at_ {n : Nat} {a : List Nat} (h : Pm n a) {x : Nat} (hx : x < n) : ∃ i, i < n ∧ nth a i = x := by
  obtain ⟨k, hk, e⟩ := mem_nth (h.mem_iff.mpr (List.mem_range.mpr hx))
  exact ⟨k, by rw [← h.len]; exact hk, e⟩
theorem at_bck {n : Nat} {a : List Nat} (h : Pm n a) {x : Nat} (hx : x < n) : nth a (nth (bck a) x) = x := by
  obtain ⟨i, hi, rfl⟩ := h.at_ hx
  rw [bck_at h hi]
theorem bck_len {a : List Nat} : (bck a).length = a.length := bckK_len a _
theorem Pm.bck {n : Nat} {a : List Nat} (h : Pm n a) : Pm n (bck a) := by
  refine pm_of (by rw [bck_len, h.len]) (fun k hk => ?_) (fun i j hi hj e => ?_)
  · obtain ⟨i, hi, rfl⟩ := h.at_ hk
    rw [bck_at h hi]; exact hi
  · have := congrArg (nth a) e
    rw [at_bck h hi, at_bck h hj] at this
    exact this
theorem aft_bck {n : Nat} {a : List Nat} (h : Pm n a) : aft a (bck a) = List.range n := by
  refine nth_ext (by rw [aft_len, List.length_range, h.len]) fun k hk => ?_
  rw [aft_len, h.len] at hk
  rw [nth_aft (by rw [h.len]; exact hk), bck_at h hk, nth_range hk]
theorem bck_aft {n : Nat} {a : List Nat} (h : Pm n a) : aft (bck a) a = List.range n := by
  refine nth_ext (by rw [aft_len, List.length_range, bck_len, h.len]) fun k hk => ?_
  rw [aft_len, bck_len, h.len] at hk
  rw [nth_aft (by rw [bck_len, h.len]; exact hk), at_bck h hk, nth_range hk]
theorem canc_r {n : Nat} {a b c : List Nat} (ha : Pm n a) (hb : Pm n b) (hc : Pm n c) (e : aft a c = aft b c) : a = b := by
  have := congrArg (fun z => aft z (bck c)) e
  rw [aft_assoc ha hc, aft_assoc hb hc, aft_bck hc, aft_one ha, aft_one hb] at this
  exact this
theorem canc_l {n : Nat} {a b c : List Nat} (ha : Pm n a) (hb : Pm n b) (hc : Pm n c) (e : aft c a = aft c b) : a = b := by
  have := congrArg (fun z => aft (bck c) z) e
  rw [← aft_assoc hc.bck hc, ← aft_assoc hc.bck hc, bck_aft hc, one_aft ha, one_aft hb] at this
  exact this
theorem bck_bck {n : Nat} {a : List Nat} (h : Pm n a) : bck (bck a) = a := canc_l h.bck.bck h h.bck ((aft_bck h.bck).trans (bck_aft h).symm)
theorem bck_mul {n : Nat} {a b : List Nat} (ha : Pm n a) (hb : Pm n b) : bck (aft a b) = aft (bck b) (bck a) := by
  refine canc_l (ha.aft hb).bck (hb.bck.aft ha.bck) (ha.aft hb) ?_
  rw [aft_bck (ha.aft hb), aft_assoc ha hb, ← aft_assoc hb hb.bck, aft_bck hb, one_aft ha.bck, aft_bck ha]
theorem bck_one (n : Nat) : bck (List.range n) = List.range n := by
  have := bck_aft (Pm.id n)
  rw [aft_one (Pm.id n).bck] at this
  exact this
/-! ### all turns in a row -/
def ins (x : Nat) : List Nat → List (List Nat)
  | [] => [[x]]
  | y :: l => (x :: y :: l) :: (ins x l).map (y :: ·)
def perms : List Nat → List (List Nat)
  | [] => [[]]
  | x :: l => (perms l).flatMap (ins x)
theorem ins_mid (x : Nat) : ∀ (p q : List Nat), p ++ x :: q ∈ ins x (p ++ q)
  | [], [] => .head _
  | [], y :: q => .head _
  | y :: p, q => .tail _ (List.mem_map.mpr ⟨_, ins_mid x p q, rfl⟩)
theorem mem_perms : ∀ {l t : List Nat}, t.Perm l → t ∈ perms l
  | [], t, h => by rw [List.perm_nil.mp h]; exact .head _
  | x :: l, t, h => by
    have hx : x ∈ t := h.mem_iff.mpr (.head _)
    obtain ⟨p, q, rfl⟩ := List.append_of_mem hx
    have h2 : (p ++ q).Perm l := by
      have : (x :: (p ++ q)).Perm (x :: l) := (List.perm_middle (l₁ := p) (l₂ := q) (a := x)).symm.trans h
      exact (List.perm_cons x).mp this
    exact List.mem_flatMap.mpr ⟨p ++ q, mem_perms h2, ins_mid x p q⟩
/-! ### what some turns make -/
inductive Gen (n : Nat) (S : List (List Nat)) : List Nat → Prop
  | one : Gen n S (List.range n)
  | mul {t s : List Nat} (h : Gen n S t) (hs : s ∈ S) : Gen n S (aft t s)
section
variable {n : Nat} {S T : List (List Nat)} {t u : List Nat}
theorem Gen.pm (hS : ∀ s ∈ S, Pm n s) (h : Gen n S t) : Pm n t := by
  induction h with
  | one => exact Pm.id n
  | mul h hs ih => exact ih.aft (hS _ hs)
theorem Gen.of (hS : ∀ s ∈ S, Pm n s) (h : t ∈ S) : Gen n S t := by
  have := Gen.mul (n := n) .one h
  rwa [one_aft (hS _ h)] at this
theorem Gen.aft (hS : ∀ s ∈ S, Pm n s) (h : Gen n S t) (h2 : Gen n S u) : Gen n S (aft t u) := by
  induction h2 with
  | one => rw [aft_one (h.pm hS)]; exact h
  | mul g hs ih => rw [← aft_assoc (h.pm hS) (g.pm hS)]; exact .mul ih hs
theorem Gen.trans (hT : ∀ s ∈ T, Pm n s) (h : Gen n S t) (hs : ∀ s ∈ S, Gen n T s) : Gen n T t := by
  induction h with
  | one => exact .one
  | mul g hm ih => exact ih.aft hT (hs _ hm)
theorem Gen.mono (h : Gen n S t) (hs : ∀ s ∈ S, s ∈ T) : Gen n T t := by
  induction h with
  | one => exact .one
  | mul g hm ih => exact .mul ih (hs _ hm)
def dd : List (List Nat) → List (List Nat)
  | [] => []
  | x :: l => if x ∈ dd l then dd l else x :: dd l
theorem mem_dd : ∀ {l : List (List Nat)} {x : List Nat}, x ∈ dd l ↔ x ∈ l
  | [], x => Iff.rfl
  | y :: l, x => by
    unfold dd
    split
    · rename_i h
      rw [mem_dd, List.mem_cons]
      exact ⟨.inr, fun z => z.elim (fun e => by rw [e]; exact mem_dd.mp h) id⟩
    · rw [List.mem_cons, List.mem_cons, mem_dd]
theorem nd_dd : ∀ l : List (List Nat), (dd l).Nodup
  | [] => List.nodup_nil
  | y :: l => by
    unfold dd
    split
    · exact nd_dd l
    · rename_i h; exact List.nodup_cons.mpr ⟨h, nd_dd l⟩
theorem map_nodup {α β : Type} {f : α → β} : ∀ {l : List α}, l.Nodup → (∀ x ∈ l, ∀ y ∈ l, f x = f y → x = y) → (l.map f).Nodup
  | [], _, _ => List.nodup_nil
  | x :: l, h, hi => by
    obtain ⟨h1, h2⟩ := List.nodup_cons.mp h
    rw [List.map_cons]
    refine List.nodup_cons.mpr ⟨fun z => ?_, map_nodup h2 fun a ha b hb => hi a (.tail _ ha) b (.tail _ hb)⟩
    obtain ⟨y, hy, e⟩ := List.mem_map.mp z
    have := hi y (.tail _ hy) x (.head _) e
    subst this
    exact h1 hy
open Classical in
theorem Gen.bck (hS : ∀ s ∈ S, Pm n s) (h : Gen n S t) : Gen n S (bck t) := by
  have ht := h.pm hS
  let L := dd ((perms (List.range n)).filter fun x => decide (Gen n S x))
  have mem : ∀ x, x ∈ L ↔ Gen n S x := fun x => by
    show x ∈ dd _ ↔ _
    rw [mem_dd, List.mem_filter]
    exact ⟨fun z => of_decide_eq_true z.2, fun z => ⟨mem_perms (z.pm hS), decide_eq_true z⟩⟩
  have p := nodup_perm (l := L.map fun x => TN.aft x t) (m := L) (map_nodup (nd_dd _) fun x hx y hy e => canc_r (((mem x).mp hx).pm hS) (((mem y).mp hy).pm hS) ht e)
    (fun x hx => by obtain ⟨y, hy, rfl⟩ := List.mem_map.mp hx; exact (mem _).mpr (((mem y).mp hy).aft hS h)) (by rw [List.length_map]; exact Nat.le_refl _)
  obtain ⟨x, hx, e⟩ := List.mem_map.mp (p.mem_iff.mpr ((mem _).mpr .one))
  have hx := (mem x).mp hx
  have : x = TN.bck t := canc_r (hx.pm hS) ht.bck ht (e.trans (bck_aft ht).symm)
  rw [← this]
  exact hx
end
end
end TN

/-! chains of stabilisers, in plain words: what is computed -/
namespace CH
open TN
noncomputable section
/-- a level: its place, makers, a turn to each place of the orbit -/
structure Lv where
  pl : Nat
  gs : List (List Nat)
  ws : List (Nat × List Nat)
def lk (k : Nat) : List (Nat × List Nat) → Option (List Nat)
  | [] => none
  | p :: l => match Nat.beq p.1 k with
    | true => some p.2
    | false => lk k l
def lpOf (ws : List (Nat × List Nat)) (h : Nat) (m : List Nat) : Option (List Nat) := match lk h ws, lk (nth m h) ws with
  | some u, some u' => some (aft (aft u m) (bck u'))
  | _, _ => none
section
variable (n : Nat)
/-- all turns, from the deepest level's ways on -/
def els : List Lv → List (List Nat)
  | [] => [List.range n]
  | v :: vs => (els vs).flatMap fun s => v.ws.map fun p => aft s p.2
end
def mkOf : List Lv → List (List Nat)
  | [] => []
  | v :: _ => v.gs
/-! ### what holds -/
def Fix (ps : List Nat) (t : List Nat) : Prop := ∀ p ∈ ps, nth t p = p
structure Orb (n : Nat) (v : Lv) : Prop where
  nd : (v.ws.map (·.1)).Nodup
  base : (v.pl, List.range n) ∈ v.ws
  ok : ∀ p ∈ v.ws, Gen n v.gs p.2 ∧ nth p.2 v.pl = p.1
  cl : ∀ p ∈ v.ws, ∀ m ∈ v.gs, ∃ u, (nth m p.1, u) ∈ v.ws
inductive Good (n : Nat) : List Nat → List Lv → Prop
  | nil {ps} : Good n ps []
  | cons {ps v vs} (hp : v.pl < n) (hn : v.pl ∉ ps) (hm : ∀ m ∈ v.gs, Pm n m ∧ Fix ps m) (ho : Orb n v) (hg : Good n (v.pl :: ps) vs) (hs : ∀ m ∈ mkOf vs, Gen n v.gs m)
      (hl : ∀ p ∈ v.ws, ∀ m ∈ v.gs, ∀ g, lpOf v.ws p.1 m = some g → Gen n (mkOf vs) g) (hz : v.gs.length < (els n (v :: vs)).length) : Good n ps (v :: vs)
section
variable {n : Nat} {ps : List Nat} {v : Lv} {vs : List Lv} {t u : List Nat}
theorem Fix.gen {S : List (List Nat)} (hS : ∀ s ∈ S, Pm n s ∧ Fix ps s) (hp : ∀ p ∈ ps, p < n) (h : Gen n S t) : Fix ps t := by
  induction h with
  | one => exact fun p h => nth_range (hp p h)
  | mul g hs ih =>
    intro p h
    rw [nth_aft (by rw [(g.pm fun s h => (hS s h).1).len]; exact hp p h), ih p h, (hS _ hs).2 p h]
theorem Fix.bck (ht : Pm n t) (hp : ∀ p ∈ ps, p < n) (h : Fix ps t) : Fix ps (bck t) := fun p hm => by
  have e := bck_at ht (hp p hm)
  rw [h p hm] at e
  exact e
theorem Fix.aft (ht : Pm n t) (hp : ∀ p ∈ ps, p < n) (h : Fix ps t) (h2 : Fix ps u) : Fix ps (aft t u) := fun p hm => by
  rw [nth_aft (by rw [ht.len]; exact hp p hm), h p hm, h2 p hm]
theorem Good.mk (h : Good n ps vs) : ∀ m ∈ mkOf vs, Pm n m ∧ Fix ps m := by
  cases h with
  | nil => intro m hm; cases hm
  | cons hp hn hm _ _ _ _ _ => exact hm
theorem Good.pm (h : Good n ps vs) : ∀ m ∈ mkOf vs, Pm n m := fun m hm => (h.mk m hm).1
/-! ### sizes -/
theorem len_le {l : List Nat} (h : l.Nodup) (hl : ∀ x ∈ l, x < n) : l.length ≤ n := by
  have := nodup_len h (m := List.range n) fun x hx => List.mem_range.mpr (hl x hx)
  rwa [List.length_range] at this
where nodup_len {α : Type} [DecidableEq α] : ∀ {l m : List α}, l.Nodup → (∀ x ∈ l, x ∈ m) → l.length ≤ m.length
  | [], m, _, _ => Nat.zero_le _
  | x :: l, m, hd, hs => by
    obtain ⟨h1, h2⟩ := List.nodup_cons.mp hd
    have hx := hs x (.head _)
    have e := List.length_erase_of_mem hx
    have hp : 0 < m.length := List.length_pos_of_mem hx
    have ih := nodup_len (l := l) (m := m.erase x) h2 fun y hy => (List.mem_erase_of_ne (fun z => h1 (by rw [← z]; exact hy))).mpr (hs y (.tail _ hy))
    rw [List.length_cons]
    omega
theorem Good.len (h : Good n ps vs) : (∀ p ∈ ps, p < n) → ps.Nodup → vs.length + ps.length ≤ n := by
  induction h with
  | nil =>
    intro h1 h2
    have := len_le h2 h1
    simpa using this
  | @cons ps v vs hp hn hm ho hg hs hl hz ih =>
    intro h1 h2
    have := ih (fun p h => by cases h with | head => exact hp | tail _ h => exact h1 p h) (List.nodup_cons.mpr ⟨hn, h2⟩)
    rw [List.length_cons] at this ⊢
    omega
end
end
end CH

/-! chains of stabilisers: what is computed is right -/
namespace CH
open TN
noncomputable section
section
variable {n : Nat} {ps : List Nat} {v : Lv} {vs : List Lv} {t u : List Nat}
def keys (ws : List (Nat × List Nat)) : List Nat := ws.map (·.1)
section
variable {A : List Lv → List Nat → Option (List Lv)} {mk : List (List Nat)} {ws : List (Nat × List Nat)} {pl : Nat}
end
end
/-! ### all makers, one after another -/
end
end CH

/-! chains in the heap: what a chain's cells are -/
namespace CH
open PySem PySem.Spec L2 DL TN PL
/-! ### cells that are known -/
structure Cs (η : Hd) (L : List (Nat × Cell)) : Prop where
  get : ∀ p ∈ L, η.get p.1 = some p.2
  nd : (L.map (·.1)).Nodup
  lt : ∀ p ∈ L, p.1 < η.nx
section
variable {η η' η1 η2 : Hd} {L L' L1 L2 : List (Nat × Cell)} {q : Nat} {c c' : Cell} {F F1 F2 : List Nat}
theorem Cs.mono (C : Cs η L) (hn : η.nx ≤ η'.nx) (hk : ∀ p ∈ L, η'.get p.1 = η.get p.1) : Cs η' L := ⟨fun p hp => (hk p hp).trans (C.get p hp), C.nd, fun p hp => Nat.lt_of_lt_of_le (C.lt p hp) hn⟩
theorem Cs.tail {p : Nat × Cell} (C : Cs η (p :: L)) : Cs η L := ⟨fun x hx => C.get x (.tail _ hx), (List.nodup_cons.mp C.nd).2, fun x hx => C.lt x (.tail _ hx)⟩
theorem Cs.set (C : Cs η ((q, c) :: L)) : Cs (η.set q c') ((q, c') :: L) := by
  obtain ⟨n1, n2⟩ := List.nodup_cons.mp C.nd
  refine ⟨fun p hp => ?_, List.nodup_cons.mpr ⟨n1, n2⟩, fun p hp => ?_⟩
  · rcases List.mem_cons.mp hp with e | hp
    · subst e; exact get_set_eq (C.get _ (.head _))
    · rw [get_set_ne (fun e => n1 (List.mem_map.mpr ⟨p, hp, e⟩))]
      exact C.get p (.tail _ hp)
  · rcases List.mem_cons.mp hp with e | hp
    · subst e; exact C.lt (q, c) (.head _)
    · exact C.lt p (.tail _ hp)
theorem Cs.new (C : Cs η L) : Cs (η.new c) ((η.nx, c) :: L) := by
  refine ⟨fun p hp => ?_, List.nodup_cons.mpr ⟨fun h => ?_, C.nd⟩, fun p hp => ?_⟩
  · rcases List.mem_cons.mp hp with e | hp
    · subst e; exact get_new_eq
    · rw [get_new_ne (C.lt p hp)]; exact C.get p hp
  · obtain ⟨p, hp, e⟩ := List.mem_map.mp h
    have := C.lt p hp
    have e : p.1 = η.nx := e
    omega
  · rcases List.mem_cons.mp hp with e | hp
    · subst e; exact Nat.lt_succ_self _
    · exact Nat.lt_succ_of_lt (C.lt p hp)
/-- a cell that was made meanwhile -/
theorem Cs.cons (C : Cs η L) (hg : η.get q = some c) (hq : q < η.nx) (hn : ∀ p ∈ L, p.1 ≠ q) : Cs η ((q, c) :: L) :=
  ⟨fun p hp => by rcases List.mem_cons.mp hp with e | hp
                  · subst e; exact hg
                  · exact C.get p hp, List.nodup_cons.mpr ⟨fun h => by obtain ⟨p, hp, e⟩ := List.mem_map.mp h; exact hn p hp e, C.nd⟩, fun p hp => by
    rcases List.mem_cons.mp hp with e | hp
    · subst e; exact hq
    · exact C.lt p hp⟩
theorem Cs.ne (C : Cs η ((q, c) :: L)) {p : Nat × Cell} (hp : p ∈ L) : p.1 ≠ q := fun e => (List.nodup_cons.mp C.nd).1 (List.mem_map.mpr ⟨p, hp, e⟩)
/-- what changes stands in F, then in F1; new cells may have come to it -/
structure Aft (η : Hd) (F F1 : List Nat) (η1 : Hd) : Prop where
  nx : η.nx ≤ η1.nx
  keep : ∀ q, q < η.nx → q ∉ F → η1.get q = η.get q
  new : ∀ q, q ∈ F1 → q ∈ F ∨ η.nx ≤ q
theorem Aft.refl (η : Hd) (F : List Nat) : Aft η F F η := ⟨Nat.le_refl _, fun _ _ _ => rfl, fun _ h => .inl h⟩
theorem Aft.trans (a : Aft η F F1 η1) (b : Aft η1 F1 F2 η2) : Aft η F F2 η2 := ⟨Nat.le_trans a.nx b.nx, fun q hq hf => (b.keep q (Nat.lt_of_lt_of_le hq a.nx) fun h => (a.new q h).elim hf fun z => by omega).trans (a.keep q hq hf), fun q h => by
  rcases b.new q h with h | h
  · exact a.new q h
  · exact .inr (Nat.le_trans a.nx h)⟩
theorem Aft.put (h : q ∈ F) : Aft η F F (η.set q c) := ⟨Nat.le_refl _, fun p hp hf => get_set_ne (fun e => hf (e ▸ h)), fun _ h => .inl h⟩
theorem Aft.sub (a : Aft η F F1 η1) (h : ∀ q ∈ F2, q ∈ F1) : Aft η F F2 η1 := ⟨a.nx, a.keep, fun q hq => a.new q (h q hq)⟩
/-- cells beside -/
theorem Cs.aft {L0 : List (Nat × Cell)} (C : Cs η (L0 ++ L)) (a : Aft η (L.map (·.1)) (L'.map (·.1)) η') (C' : Cs η' L') : Cs η' (L0 ++ L') := by
  have nd := C.nd
  rw [List.map_append, List.nodup_append] at nd
  obtain ⟨n1, n2, n3⟩ := nd
  have l0 : ∀ p ∈ L0, p.1 < η.nx ∧ p.1 ∉ L.map (·.1) := fun p hp => ⟨C.lt p (List.mem_append_left _ hp), fun h => n3 _ (List.mem_map.mpr ⟨p, hp, rfl⟩) _ h rfl⟩
  refine ⟨fun p hp => ?_, ?_, fun p hp => ?_⟩
  · rcases List.mem_append.mp hp with hp | hp
    · rw [a.keep _ (l0 p hp).1 (l0 p hp).2]; exact C.get p (List.mem_append_left _ hp)
    · exact C'.get p hp
  · rw [List.map_append, List.nodup_append]
    refine ⟨n1, C'.nd, fun x hx y hy e => ?_⟩
    subst e
    obtain ⟨p, hp, rfl⟩ := List.mem_map.mp hx
    rcases a.new _ hy with h | h
    · exact (l0 p hp).2 h
    · have := (l0 p hp).1; omega
  · rcases List.mem_append.mp hp with hp | hp
    · exact Nat.lt_of_lt_of_le (l0 p hp).1 a.nx
    · exact C'.lt p hp
end
/-! ### a chain's cells -/
def wD (ws : List (Nat × List Nat)) : List (D × D) := ws.map fun p => (nI p.1, nR p.2)
structure HL where
  a : Nat
  m : Nat
  w : Nat
  v : Lv
def cA (cl : Nat) (h : HL) : Cell := .ins cl [(0, nI h.v.pl), (1, .ref h.m), (2, .ref h.w)]
def blk (cl : Nat) (h : HL) : List (Nat × Cell) := [(h.a, cA cl h), (h.m, .lst (h.v.gs.map nR)), (h.w, .dct false (wD h.v.ws))]
def blks (cl : Nat) (hs : List HL) : List (Nat × Cell) := hs.flatMap (blk cl)
def cCh (cc n : Nat) (mk : D) (rl : Nat) : Cell := .ins cc [(3, nI n), (1, mk), (4, .ref rl)]
def cells (cc cl n : Nat) (mk : D) (r rl : Nat) (hs : List HL) : List (Nat × Cell) := (r, cCh cc n mk rl) :: (rl, .lst (hs.map fun h => .ref h.a)) :: blks cl hs
def foot (r rl : Nat) (hs : List HL) : List Nat := r :: rl :: hs.flatMap fun h => [h.a, h.m, h.w]
/-! ### looking up -/
section
variable {σ : SD} {η : Hd} {A B : CE} {t u : List Nat} {k r : Nat} {ws : List (Nat × List Nat)}
end
end CH

/-! chains in the heap: sifted -/
namespace CH
open PySem PySem.Spec L2 DL TN PL
section
variable {n cc cl r rl : Nat} {mk : D} {Fst Fck Faf Fba : CF} {hs hu hv : List HL} {h : HL} {η η' : Hd} {σ : SD} {A : CE}
theorem Cs.ch (C : Cs η (cells cc cl n mk r rl hs)) : η.get r = some (cCh cc n mk rl) := C.get _ (.head _)
theorem Cs.ls (C : Cs η (cells cc cl n mk r rl hs)) : η.get rl = some (.lst (hs.map fun h => .ref h.a)) := C.get _ (.tail _ (.head _))
theorem mem_blks (hm : h ∈ hs) {p : Nat × Cell} (hp : p ∈ blk cl h) : p ∈ cells cc cl n mk r rl hs := .tail _ (.tail _ (List.mem_flatMap.mpr ⟨h, hm, hp⟩))
theorem Cs.la (C : Cs η (cells cc cl n mk r rl hs)) (hm : h ∈ hs) : η.get h.a = some (cA cl h) := C.get _ (mem_blks hm (.head _))
theorem Cs.lm (C : Cs η (cells cc cl n mk r rl hs)) (hm : h ∈ hs) : η.get h.m = some (.lst (h.v.gs.map nR)) := C.get _ (mem_blks hm (.tail _ (.head _)))
theorem Cs.lw (C : Cs η (cells cc cl n mk r rl hs)) (hm : h ∈ hs) : η.get h.w = some (.dct false (wD h.v.ws)) := C.get _ (mem_blks hm (.tail _ (.tail _ (.head _))))
/-- a chain that is read alone -/
structure Rd (cc cl n : Nat) (mk : D) (r rl : Nat) (hs : List HL) (η : Hd) : Prop where
  ch : η.get r = some (cCh cc n mk rl)
  ls : η.list rl = some (hs.map fun h => .ref h.a)
  la : ∀ h ∈ hs, η.get h.a = some (cA cl h)
  lm : ∀ h ∈ hs, η.list h.m = some (h.v.gs.map nR)
  lw : ∀ h ∈ hs, η.get h.w = some (.dct false (wD h.v.ws))
  lt : ∀ q ∈ foot r rl hs, q < η.nx
theorem mem_foot {hs : List HL} {h : HL} (hm : h ∈ hs) {q : Nat} (hq : q = h.a ∨ q = h.m ∨ q = h.w) : q ∈ foot r rl hs := .tail _ (.tail _ (List.mem_flatMap.mpr ⟨h, hm, by rcases hq with rfl | rfl | rfl <;> simp⟩))
theorem Rd.fr {P : Nat → Prop} (C : Rd cc cl n mk r rl hs η) (f : Fr P η η') : Rd cc cl n mk r rl hs η' :=
  ⟨f.get (C.lt _ (.head _)) C.ch (fun _ e => nomatch e), f.list (C.lt _ (.tail _ (.head _))) C.ls, fun h hm => f.get (C.lt _ (mem_foot hm (.inl rfl))) (C.la h hm) (fun _ e => nomatch e),
   fun h hm => f.list (C.lt _ (mem_foot hm (.inr (.inl rfl)))) (C.lm h hm), fun h hm => f.get (C.lt _ (mem_foot hm (.inr (.inr rfl)))) (C.lw h hm) (fun _ e => nomatch e), fun q hq => Nat.lt_of_lt_of_le (C.lt q hq) f.1⟩
/-! ### sifted -/
end
end CH

/-! chains in the heap: a level's ways anew -/
namespace CH
open PySem PySem.Spec L2 DL TN PL
structure Kp (N : Nat) (F : List Nat) (η η' : Hd) : Prop where
  nx : η.nx ≤ η'.nx
  keep : ∀ q, q < N → q ∉ F → η'.get q = η.get q
section
variable {N : Nat} {F : List Nat} {η η' η1 η2 : Hd} {q : Nat} {c : Cell}
theorem Kp.refl : Kp N F η η := ⟨Nat.le_refl _, fun _ _ _ => rfl⟩
theorem Kp.trans (a : Kp N F η η1) (b : Kp N F η1 η2) : Kp N F η η2 := ⟨Nat.le_trans a.1 b.1, fun q h1 h2 => (b.2 q h1 h2).trans (a.2 q h1 h2)⟩
theorem Kp.put (h : q ∈ F ∨ N ≤ q) : Kp N F η (η.set q c) := ⟨Nat.le_refl _, fun p h1 h2 => get_set_ne fun e => h.elim (fun z => h2 (e ▸ z)) fun z => by omega⟩
theorem Kp.new (h : N ≤ η.nx) : Kp N F η (η.new c) := ⟨Nat.le_succ _, fun p h1 _ => get_new_ne (Nat.lt_of_lt_of_le h1 h)⟩
end
/-- what is known while ways are made -/
structure BfI (n : Nat) (ws : List (Nat × List Nat)) (l : List Nat) : Prop where
  kp : ∀ p ∈ ws, p.1 < n ∧ Pm n p.2
  nd : (ws.map (·.1)).Nodup
  le : l.length ≤ ws.length
theorem BfI.len {n : Nat} {ws : List (Nat × List Nat)} {l : List Nat} (B : BfI n ws l) : ws.length ≤ n := by
  have := len_le B.nd fun x hx => by obtain ⟨p, hp, rfl⟩ := List.mem_map.mp hx; exact (B.kp p hp).1
  rw [List.length_map] at this
  exact this
section
variable {n cc cl r rl a m w q pl : Nat} {mk : D} {Fst Fck Faf Fba : CF} {R : List (Nat × Cell)} {N : Nat} {F : List Nat}
/-! ### the while loop -/
end
end CH

/-! grids by a prime in the plain layer: made_by one grid -/
namespace PL
open PySem PySem.Spec L2 DL CH
section
variable {n r f q N mo : Nat} {p : Int} {a : Mt} {F : List Nat} {M0 : Nat}
end
end PL

/-! chains in the heap: what of the next levels is lacking -/
namespace CH
open PySem PySem.Spec L2 DL TN PL
section
variable {σ : SD} {η : Hd} {A B C : CE} {kv : KV} {kx : KX}
end
section
variable {n cc cl r rl : Nat} {mk : D} {Fst Fck Faf Fba : CF}
def Inn (F : List Nat) (N : Nat) (G : List Nat) : Prop := ∀ q ∈ G, q ∈ F ∨ N ≤ q
theorem Aft.kp {N : Nat} {F F1 F2 : List Nat} {η0 η η' : Hd} (a : Aft η F1 F2 η') (i : Inn F N F1) (hN : N ≤ η.nx) : Kp N F η η' := ⟨a.nx, fun q h1 h2 => a.keep q (Nat.lt_of_lt_of_le h1 hN) fun z => (i q z).elim h2 fun y => by omega⟩
end
end CH

/-! chains in the heap: spread -/
namespace CH
open PySem PySem.Spec L2 DL TN PL
section
variable {n cc cl r rl : Nat} {mk : D} {Fst Fck Faf Fba : CF}
end
end CH

/-! chains in the heap: add -/
namespace CH
open PySem PySem.Spec L2 DL TN PL
section
variable {n cc cl r rl : Nat} {mk : D} {Fst Fck Faf Fba : CF}
end
end CH

/-! chains in the heap: add -/
namespace CH
open PySem PySem.Spec L2 DL TN PL
section
variable {n cc cl r rl : Nat} {mk : D} {Fst Fck Faf Fba : CF}
/-! ### what holds on the way -/
/-! ### add -/
end
end CH

/-! chains in the heap: add, whole -/
namespace CH
open PySem PySem.Spec L2 DL TN PL
section
variable {n cc cl r rl : Nat} {mk : D} {Fst Fck Faf Fba : CF}
/-! ### a chain is made -/
end
end CH

/-! chains in the heap: a chain is made -/
namespace CH
open PySem PySem.Spec L2 DL TN PL
section
variable {n cc cl ct r rl : Nat} {mk : D} {Fst Fck Faf Fba : CF}
/-- where the makers stand: a tuple, a list that may be read alone, a list of one's own -/
inductive Mks (η : Hd) (ms : List (List Nat)) : D → List (Nat × Cell) → Prop
  | tup : Mks η ms (.tup (ms.map nR)) []
  | frz {q} (h : η.get q = some (.frz (ms.map nR))) (hq : q < η.nx) : Mks η ms (.ref q) []
  | lst {q} (h : η.get q = some (.lst (ms.map nR))) (hq : q < η.nx) : Mks η ms (.ref q) [(q, .lst (ms.map nR))]
end
end CH

/-! chains in the heap: a chain is made, whole -/
namespace CH
open PySem PySem.Spec L2 DL TN PL
section
variable {n cc cl ct r rl : Nat} {mk : D} {Fst Fck Faf Fba : CF}
theorem Mks.mono {η η' : Hd} {ms : List (List Nat)} {M : D} {L0 : List (Nat × Cell)} (hM : Mks η ms M L0) (hx : η.nx ≤ η'.nx) (h : ∀ q, M = .ref q → η'.get q = η.get q) : Mks η' ms M L0 := by
  cases hM with
  | tup => exact .tup
  | frz h1 hq => exact .frz ((h _ rfl).trans h1) (Nat.lt_of_lt_of_le hq hx)
  | lst h1 hq => exact .lst ((h _ rfl).trans h1) (Nat.lt_of_lt_of_le hq hx)
theorem Mks.lt {η : Hd} {ms : List (List Nat)} {M : D} {L0 : List (Nat × Cell)} (hM : Mks η ms M L0) {q : Nat} (h : M = .ref q) : q < η.nx := by
  cases hM with
  | tup => cases h
  | frz h1 hq => cases h; exact hq
  | lst h1 hq => cases h; exact hq
end
end CH

/-! a statement while a dict is locked; for k, v in d.items() -/
namespace DL
open PySem PySem.Spec L2
section
variable {X : Cx} {N : Nm} {E : XK}
end
/-! ### items of a dict with row keys -/
section
variable {P : Program} {w : World} {K : PySem.W.Frag} {d : Addr} {o : Obj} {es : Array DictEntry} {ep : Nat}
end
section
variable {X : Cx} {N : Nm} {E : XK} {e : Expr} {td : TE} {apos cpos : Pos}
end
end DL

/-! sorted(d.items()): keys rows of ints, values ints -/
namespace DL
open PySem PySem.Spec L2 PyProof.Rows
section
variable {prog : Program} {w : World} {A : Around} {E : Value → Shared → Prop} {s : Shared}
/-- a pair of a row of ints and an int -/
def IsPr (h : Heap) (v : Value) (k : List (List Int)) : Prop := ∃ (a : Addr) (o : Obj) (x : Value) (r : List Int) (i : Int) (t : Tok) (n : Nat), v = .ref a ∧ h.get? a = some o ∧ o.cls = .type "tuple" ∧ o.data = .seq #[x, .int i t] n ∧ IsRow h x r ∧ k = [r, [i]]
theorem IsPr.keeps {h h' : Heap} {v : Value} {k : List (List Int)} (q : IsPr h v k) (kp : ∀ b o, h.get? b = some o → o.cls = .type "tuple" → h'.get? b = some o) : IsPr h' v k := by
  obtain ⟨a, o, x, r, i, t, n, e, h1, h2, h3, h4, h5⟩ := q
  exact ⟨a, o, x, r, i, t, n, e, kp a o h1 h2, h2, h3, h4.keeps kp, h5⟩
end
section
variable {X : Cx}
end
/-! ### read by trees -/
section
variable {X : Cx} {N : Nm} {E : XK}
end
end DL

/-! rows that are known to have no dict: min, sorted, count -/
namespace DL
open PySem PySem.Spec L2 PyProof.Rows
section
variable {X : Cx} {N : Nm} {E : XK}
/-! t.count(i) -/
end
end DL

/-! the plain layer: a list of lists, laid into one -/
namespace PL
open PySem PySem.Spec L2 DL
section
variable {g : CG} {t : CT} {e : CE} {pg : PG'} {pt : PT} {pe : PE}
end
/-! ### the def -/
end PL

/-! the plain layer: dicts that are walked; rows without a dict -/
namespace PL
open PySem PySem.Spec L2 DL
section
variable {P0 : Nat → Prop} {b : Nat} {ρ : PEn} {σ : SD} {η η2 : Hd} {i r : Nat} {t : Bool} {l : List (D × D)}
end
/-! ### statements -/
/-! ### sources -/
/-! ### expressions -/
/-! ### rows that are known to have no dict -/
/-! ### for k in d: if ..: return .. (d is as it was behind it) -/
section
variable {P0 : Nat → Prop} {b : Nat} {ρ : PEn} {σ : SD} {η η0 η2 : Hd} {i j r : Nat} {t : Bool} {l : List (D × D)} {ct : CT} {pt : PT} {e : CE} {K : KS} {c : Cell}
end
end PL

/-! law_k23_patterns_counted: the defs (printed by pure.py) -/
namespace CH
open PySem PySem.Spec L2 DL PL
def b_still : CS := (sRet (cTupR (crg1 (cVar 0))))
abbrev F_still : CF := cDef 1 1 b_still
def p_still : PS' := (psRet (pTupR (pC (.int 0)) (pVar 0)))
theorem sp_still : SS b_still p_still := (ss_ret (se_tupR1 se_var))
def q_still : PFn := pDef 1 1 p_still
theorem sf_still : SF F_still q_still := sf_def sp_still
def b_after : CS := (sRet (cFn (f1 gTuple) (cCons (cLc (ciSeq (cVar 0)) (gNm 2) ctYes (cOp fIx (cVar 1) (cVar 2)) [2]) cNil)))
abbrev F_after : CF := cDef 2 3 b_after
def p_after : PS' := (psRet (pFn hTuple (pLc (pSeqV 0) (pNm 2) pYes (pOp gIx (pVar 1) (pVar 2)) [2])))
theorem sp_after : SS b_after p_after := (ss_ret (se_fn s1_tuple (se_lc si_var sg_nm st_yes (se_op s2_ix se_var se_var))))
def q_after : PFn := pDef 2 3 p_after
theorem sf_after : SF F_after q_after := sf_def sp_after
def b_back : CS := (sSeq (sAsg (cOp fMul (cLst (cCons (cC (.int 0)) cNil)) (cFn (f1 gLenA) (cCons (cVar 0) cNil))) (gNm 1)) (sSeq (sFor (ciEnum (cCons (cVar 0) cNil)) (gTp 2 (gsCons (gNm 2) (gsCons (gNm 3) gsNil))) (sAsg (cVar 2) (gSb (cVar 1) (cVar 3)))) (sRet (cFn (f1 gTuple) (cCons (cVar 1) cNil)))))
abbrev F_back : CF := cDef 1 4 b_back
def p_back : PS' := (psSeq (psSet (pOp gMul (pLst (pCons (pC (.int 0)) pNil)) (pFn hLen (pVar 0))) 1) (psSeq (psFor (pEnum (pVar 0)) (pTp 2 (pgCons (pNm 2) (pgCons (pNm 3) pgNil))) (psStore (pVar 2) 1 (pVar 3))) (psRet (pFn hTuple (pVar 1)))))
theorem sp_back : SS b_back p_back := (ss_seq (ss_set (se_op s2_mul (se_lst (sa_cons se_c sa_nil)) (se_fn s1_len se_var))) (ss_seq (ss_for (si_enum se_var) (sg_tp (sgs_cons sg_nm (sgs_cons sg_nm sgs_nil))) (ss_store se_var se_var)) (ss_ret (se_fn s1_tuple se_var))))
def q_back : PFn := pDef 1 4 p_back
theorem sf_back : SF F_back q_back := sf_def sp_back
end CH

/-! chains: what the turns' defs give; how many turns a chain has -/
namespace CH
open PySem PySem.Spec L2 DL TN PL
noncomputable section
theorem after_eq {a b : List Nat} (h : ∀ k ∈ a, k < b.length) (hl : a.length ≤ 1000) : q_after [.im (nR a), .im (nR b)] = .val (.im (nR (aft a b))) := by
  have e : aft a b = a.map fun k => (nth b k) := rfl
  have e2 : (a.map fun k => nI ((nth b k))) = (aft a b).map nI := by rw [e, List.map_map]; rfl
  refine def_rt rfl (ret_im (tup_ls (m := .fr) ?_))
  refine lc_val (l := a.map nI) (o := none) rfl rfl (by rw [List.length_map]; unfold line1; omega) ?_
  rw [← e2]
  exact plc_map fun k hk => ⟨[some (.im (nR a)), some (.im (nR b)), some (.im (nI k))], rfl, op_val rfl rfl (by rw [ix_nR (h k hk), nth_lt (h k hk)])⟩
theorem still_eq {n : Nat} (hn : n ≤ 1000) : q_still [.im (nI n)] = .val (.im (nR (List.range n))) := by
  refine def_rt rfl (ret_im ?_)
  show (match rOk 0, rOk (Int.ofNat n), Nat.ble (Int.ofNat n - 0).toNat line with | true, true, true => Rs.val (PV.im (.tup (rangeD (Int.ofNat n - 0).toNat 0))) | _, _, _ => .bad) = _
  rw [show rOk (Int.ofNat n) = true from Nat.ble_eq_true_of_le (by show n ≤ _; omega), show (Int.ofNat n - 0).toNat = n by show ((n : Int) - 0).toNat = n; omega, Nat.ble_eq_true_of_le (show n ≤ line by unfold line; omega), show (0 : Int) = Int.ofNat 0 from rfl, range_nI, List.range_eq_range']
  rfl
theorem putP_nI {l : List D} {g : Nat} {d : D} (h : g < l.length) : putP (.ls .ow l) (nI g) d = some (.ls .ow (l.set g d)) := by
  have e : ixD l.length (Int.ofNat g) = some g := by
    show (match Nat.blt g l.length with | true => some g | false => none) = some g
    rw [show Nat.blt g l.length = true from Nat.ble_eq_true_of_le h]
  simp only [putP, e]
theorem enum_inv {l : List Nat} {k : Nat} {d : D} (h : (enumD 0 (l.map nI))[k]? = some d) : ∃ hk : k < l.length, d = .tup [nI k, nI l[k]] := by
  have hk : k < l.length := by
    have := (List.getElem?_eq_some_iff.mp h).1
    rw [enumD_len, List.length_map] at this; exact this
  refine ⟨hk, ?_⟩
  have := enumD_get 0 (l.map nI) k (nI l[k]) (by rw [List.getElem?_map, List.getElem?_eq_getElem hk]; rfl)
  rw [h] at this
  rw [Option.some.inj this, Nat.zero_add]
theorem flat_one (n : Nat) : (List.replicate n [nI 0]).flatten = (List.replicate n 0).map nI := by
  induction n with
  | zero => rfl
  | succ n ih => rw [List.replicate_succ, List.flatten_cons, ih, List.replicate_succ, List.map_cons]; rfl
theorem back_eq {a : List Nat} (h : ∀ k ∈ a, k < a.length) (hl : a.length ≤ 1000) : q_back [.im (nR a)] = .val (.im (nR (bck a))) := by
  have e1 : psSet (pOp gMul (pLst (pCons (pC (.int 0)) pNil)) (pFn hLen (pVar 0))) 1 [some (.im (nR a)), none, none, none] = .val (.nx [some (.im (nR a)), some (.ls .ow ((bckK a 0).map nI)), none, none]) := by
    refine set_fr (op_val (x := .ls .fr [nI 0]) (y := .im (nI a.length)) rfl (len_tup (l := a.map nI) rfl |>.trans (by rw [List.length_map])) ?_)
    show (match Md.tight .fr, Nat.ble (Int.ofNat a.length).natAbs 100000, Nat.ble (1 * (Int.ofNat a.length).toNat) line with | true, true, true => some (PV.ls .fr (List.replicate (Int.ofNat a.length).toNat [nI 0]).flatten) | _, _, _ => none) = _
    rw [show Md.tight .fr = true from rfl, Nat.ble_eq_true_of_le (show (Int.ofNat a.length).natAbs ≤ 100000 by show a.length ≤ _; omega), Nat.ble_eq_true_of_le (show 1 * (Int.ofNat a.length).toNat ≤ line by show 1 * a.length ≤ line; unfold line; omega)]
    show some (PV.ls .fr (List.replicate a.length [nI 0]).flatten) = _
    rw [flat_one]
    rfl
  refine def_rt rfl ((seq_nx e1).trans ?_)
  obtain ⟨ρ', h1, j2, j3, h2⟩ := for_val (ρ0 := [some (.im (nR a)), some (.ls .ow ((bckK a 0).map nI)), none, none]) (pi := pEnum (pVar 0)) (pg := pTp 2 (pgCons (pNm 2) (pgCons (pNm 3) pgNil))) (ps := psStore (pVar 2) 1 (pVar 3)) (l := enumD 0 (a.map nI))
    (fun k ρ => ∃ j2 j3 : Option D, ρ = [some (.im (nR a)), some (.ls .ow ((bckK a k).map nI)), j2.map .im, j3.map .im]) rfl ⟨none, none, rfl⟩ fun k d ρ hd hI => by
      obtain ⟨hk, rfl⟩ := enum_inv hd
      obtain ⟨j2, j3, rfl⟩ := hI
      refine ⟨[some (.im (nR a)), some (.ls .ow ((bckK a (k + 1)).map nI)), some (.im (nI k)), some (.im (nI a[k]))], ?_, some _, some _, rfl⟩
      have eg : nox (pTp 2 (pgCons (pNm 2) (pgCons (pNm 3) pgNil)) (.tup [nI k, nI a[k]]) [some (.im (nR a)), some (.ls .ow ((bckK a k).map nI)), j2.map .im, j3.map .im]) = .val [some (.im (nR a)), some (.ls .ow ((bckK a k).map nI)), some (.im (nI k)), some (.im (nI a[k]))] := by
        cases j2 <;> cases j3 <;> rfl
      rw [eg, bind_val]
      have ep : putP (.ls .ow ((bckK a k).map nI)) (nI a[k]) (nI k) = some (.ls .ow ((bckK a (k + 1)).map nI)) := by
        rw [putP_nI (by rw [List.length_map, bckK_len]; exact h _ (List.getElem_mem hk)), bckK_succ, List.map_set, nth_lt hk]
      exact store_val rfl rfl rfl ep
  obtain ⟨h2, h3, rfl⟩ := h2
  refine (seq_nx h1).trans (ret_im (tup_ls (m := .ow) ?_))
  rw [enumD_len, List.length_map]
  rfl
theorem neI {ρ : PEn} {pa pb : PE} {s t : Nat} (h1 : pa ρ = .val (.im (nI s))) (h2 : pb ρ = .val (.im (nI t))) (e : s = t) : pTst (pOp gNe pa pb) ρ = .val false := by
  refine ne_ff h1 h2 ?_
  rw [eqP_nI, decide_eq_true e]
/-! ### from the plain layer to the heap -/
/-! ### Chain.order -/
end
end CH

/-! a turn is drawn: the same in all laws -/
namespace LT
open PySem PySem.Spec L2 DL PL TN
noncomputable section
def p__law_turn : PS' := (psSeq (psSet (pLstR (pC (.int 0)) (pVar 1)) 2) (psSeq (psSet (pLst pNil) 3) (psSeq (psWhile (pTst (pOp gNe (pVar 2) (pLst pNil))) (psExpr (pxMtX mApp 3 (pxMt mPopAt 2 (pCons (pCall qRoll (pCons (pVar 0) (pCons (pFn hLen (pVar 2)) pNil))) pNil))))) (psRet (pFn hTuple (pVar 3))))))
def q__law_turn : PFn := pDef 2 4 p__law_turn
/-! turns drawn -/
def picks : Nat → List Nat → List (List Nat)
  | 0, _ => [[]]
  | n + 1, l => (List.range l.length).flatMap fun i => (picks n (l.eraseIdx i)).map fun r => ((nth l i)) :: r
theorem eraseIdx_perm : ∀ {l : List Nat} {i : Nat} (h : i < l.length), (l[i] :: l.eraseIdx i).Perm l
  | x :: l, 0, h => .refl _
  | x :: l, i + 1, h => by
    have h' : i < l.length := by rw [List.length_cons] at h; omega
    show (l[i] :: x :: l.eraseIdx i).Perm (x :: l)
    exact (List.Perm.swap _ _ _).trans ((eraseIdx_perm h').cons x)
theorem eraseIdx_nI : ∀ (l : List Nat) (v : Nat), (l.map nI).eraseIdx v = (l.eraseIdx v).map nI
  | [], _ => rfl
  | x :: l, 0 => rfl
  | x :: l, v + 1 => by
    show nI x :: (l.map nI).eraseIdx v = nI x :: (l.eraseIdx v).map nI
    rw [eraseIdx_nI l v]
theorem pcons1 {a : PE} {ρ : PEn} : pCons a pNil ρ = (a ρ).bind fun v => PL.Rs.val [v] := rfl
theorem picks_perm : ∀ {n : Nat} {l t : List Nat}, l.length = n → t ∈ picks n l → t.Perm l
  | 0, l, t, hl, h => by
    simp [picks] at h
    subst h
    rw [List.length_eq_zero_iff.mp hl]
  | n + 1, l, t, hl, h => by
    unfold picks at h
    obtain ⟨i, hi, h⟩ := List.mem_flatMap.mp h
    obtain ⟨r, hr, rfl⟩ := List.mem_map.mp h
    have hi' : i < l.length := List.mem_range.mp hi
    have ih := picks_perm (n := n) (by rw [List.length_eraseIdx_of_lt hi']; omega) hr
    rw [nth_lt hi']
    exact (ih.cons _).trans (eraseIdx_perm hi')
theorem lstR_val {ρ : PEn} {n : Nat} {i : Nat} (h : pVar i ρ = .val (.im (nI n))) (hn : n ≤ 1000) : pLstR (pC (.int 0)) (pVar i) ρ = .val (.ls .fr ((List.range n).map nI)) := by
  unfold pLstR
  rw [show pC (.int 0) ρ = .val (.im (.int 0)) from rfl, bind_val, h, bind_val]
  show (match rOk 0, rOk (Int.ofNat n), Nat.ble (Int.ofNat n - 0).toNat line with | true, true, true => Rs.val (PV.ls .fr (rangeD (Int.ofNat n - 0).toNat 0)) | _, _, _ => .bad) = _
  rw [show rOk (Int.ofNat n) = true from Nat.ble_eq_true_of_le (by show n ≤ _; omega), show (Int.ofNat n - 0).toNat = n by show ((n : Int) - 0).toNat = n; omega, Nat.ble_eq_true_of_le (show n ≤ line by unfold line; omega), show (0 : Int) = Int.ofNat 0 from rfl, range_nI, List.range_eq_range']
  rfl
theorem ok_nox {α : Type} {r : PL.Rs α} {Q : α → Prop} {E : Xc → Prop} (h : r.ok Q (fun _ => False)) : (nox r).ok Q E := by
  induction r with
  | val a => exact h
  | exc x => exact h.elim
  | bad => exact h
  | all n g ih => exact fun v hv => ih v (h v hv)
abbrev tT : PT := pTst (pOp gNe (pVar 2) (pLst pNil))
abbrev tS : PS' := psExpr (pxMtX mApp 3 (pxMt mPopAt 2 (pCons (pCall qRoll (pCons (pVar 0) (pCons (pFn hLen (pVar 2)) pNil))) pNil)))
theorem turn_loop {n0 : Option PV} {Q : Ou → Prop} {E : Xc → Prop} : ∀ (f : Nat) (l fd : List Nat), l.length < f → l.length ≤ 1000 → fd.length + l.length ≤ 1000 →
    (∀ t ∈ picks l.length l, Q (.nx [some (.cl .dice), n0, some (.ls .ow []), some (.ls .ow ((fd ++ t).map nI))])) → (pwhD tT tS f [some (.cl .dice), n0, some (.ls .ow (l.map nI)), some (.ls .ow (fd.map nI))]).ok Q E
  | 0, l, fd, hf, _, _, _ => absurd hf (by omega)
  | f + 1, l, fd, hf, hl, hfd, hq => by
    have ht : tT [some (.cl .dice), n0, some (.ls .ow (l.map nI)), some (.ls .ow (fd.map nI))] = .val (!decide (l = [])) := tst_val (op_val (x := .ls .ow (l.map nI)) (y := .ls .fr (([] : List Nat).map nI)) rfl rfl (gNe_of eqP_nL))
    rw [pwhD, ht, bind_val]
    cases l with
    | nil =>
      have := hq [] (by simp [picks])
      rw [List.append_nil] at this
      exact this
    | cons x l =>
      rw [decide_eq_false (by intro z; cases z)]
      show ((tS _).bind _).ok Q E
      have hb : Nat.ble l.length 1000000000 = true := Nat.ble_eq_true_of_le (by simp at hl; omega)
      have e1 : pCall qRoll (pCons (pVar 0) (pCons (pFn hLen (pVar 2)) pNil)) [some (.cl .dice), n0, some (.ls .ow ((x :: l).map nI)), some (.ls .ow (fd.map nI))] = PL.Rs.all (below (l.length + 1)) fun d => PL.Rs.val (PV.im d) := by
        refine (call2 (x := .cl .dice) (y := .cl .dice) rfl rfl ((len_ls (m := .ow) (l := (x :: l).map nI) rfl).trans (by rw [List.length_map])) rfl).trans ?_
        show (match Nat.ble l.length 1000000000 with | true => PL.Rs.all (below (l.length + 1)) fun d => PL.Rs.val (PV.im d) | false => PL.Rs.bad) = _
        rw [hb]
      show (((pxMtX mApp 3 (pxMt mPopAt 2 (pCons (pCall qRoll (pCons (pVar 0) (pCons (pFn hLen (pVar 2)) pNil))) pNil)) [some (.cl .dice), n0, some (.ls .ow ((x :: l).map nI)), some (.ls .ow (fd.map nI))]).bind _).bind _).ok Q E
      have e2 : pxMtX mApp 3 (pxMt mPopAt 2 (pCons (pCall qRoll (pCons (pVar 0) (pCons (pFn hLen (pVar 2)) pNil))) pNil)) [some (.cl .dice), n0, some (.ls .ow ((x :: l).map nI)), some (.ls .ow (fd.map nI))] =
          (((pCons (pCall qRoll (pCons (pVar 0) (pCons (pFn hLen (pVar 2)) pNil))) pNil [some (.cl .dice), n0, some (.ls .ow ((x :: l).map nI)), some (.ls .ow (fd.map nI))]).bind fun vs => match imms vs with
            | some ds => match mPopAt ((x :: l).map nI) ds with
              | some (d, l') => PL.Rs.val (d, ([some (.cl .dice), n0, some (.ls .ow ((x :: l).map nI)), some (.ls .ow (fd.map nI))] : PEn).set 2 (some (.ls .ow l')))
              | none => .bad
            | none => .bad) : PL.Rs (D × PEn)).bind fun v => match v.2[3]? with
            | some (some (PV.ls .ow l)) => match mApp l [v.1] with
              | some (d, l') => PL.Rs.val (d, v.2.set 3 (some (.ls .ow l')))
              | none => .bad
            | _ => .bad := rfl
      rw [e2]
      rw [pcons1, e1]
      rintro d ⟨v, hv, rfl⟩
      have hv' : v < (x :: l).length := by rw [List.length_cons]; exact hv
      have e3 : mPopAt ((x :: l).map nI) [iD (Int.ofNat v)] = some (nI (x :: l)[v], ((x :: l).eraseIdx v).map nI) := by
        have i1 : ixD ((x :: l).map nI).length (Int.ofNat v) = some v := by
          show (match Nat.blt v ((x :: l).map nI).length with | true => some v | false => none) = some v
          rw [show Nat.blt v ((x :: l).map nI).length = true from Nat.ble_eq_true_of_le (by rw [List.length_map]; exact hv')]
        have i2 : ((x :: l).map nI)[v]? = some (nI (x :: l)[v]) := by rw [List.getElem?_map, List.getElem?_eq_getElem hv']; rfl
        have i3 : ((x :: l).map nI).eraseIdx v = ((x :: l).eraseIdx v).map nI := eraseIdx_nI (x :: l) v
        simp only [mPopAt, i1, i2, i3]
      show ((((match mPopAt ((x :: l).map nI) [iD (Int.ofNat v)] with
              | some (d, l') => PL.Rs.val (d, ([some (.cl .dice), n0, some (.ls .ow ((x :: l).map nI)), some (.ls .ow (fd.map nI))] : PEn).set 2 (some (.ls .ow l')))
              | none => .bad).bind _).bind _).bind _).ok Q E
      rw [e3]
      have e4 : mApp (fd.map nI) [nI (x :: l)[v]] = some (.non, (fd ++ [(x :: l)[v]]).map nI) := by
        have : Nat.blt (fd.map nI).length line = true := Nat.ble_eq_true_of_le (by rw [List.length_map]; unfold line; omega)
        simp only [mApp, this, List.map_append]
        rfl
      show (((match mApp (fd.map nI) [nI (x :: l)[v]] with
              | some (d, l') => PL.Rs.val (d, ([some (.cl .dice), n0, some (.ls .ow (((x :: l).eraseIdx v).map nI)), some (.ls .ow (fd.map nI))] : PEn).set 3 (some (.ls .ow l')))
              | none => .bad).bind _).bind _).ok Q E
      rw [e4]
      have le : ((x :: l).eraseIdx v).length = l.length := by rw [List.length_eraseIdx_of_lt hv']; rfl
      rw [List.length_cons] at hf hl hfd
      refine turn_loop f ((x :: l).eraseIdx v) (fd ++ [(x :: l)[v]]) (by omega) (by omega) (by rw [List.length_append, le]; show fd.length + 1 + _ ≤ _; omega) fun t ht => ?_
      rw [le] at ht
      rw [List.append_assoc]
      refine hq _ ?_
      show _ ∈ picks (l.length + 1) (x :: l)
      unfold picks
      refine List.mem_flatMap.mpr ⟨v, List.mem_range.mpr hv', List.mem_map.mpr ⟨t, ht, ?_⟩⟩
      rw [nth_lt hv']
      rfl
theorem turn_ok {n : Nat} (hn : n ≤ 500) {Q : PV → Prop} {E : Xc → Prop} (h : ∀ t, Pm n t → Q (.im (nR t))) : (q__law_turn [.cl .dice, .im (nI n)]).ok Q E := by
  show ((psSeq (psSet (pLstR (pC (.int 0)) (pVar 1)) 2) (psSeq (psSet (pLst pNil) 3) (psSeq (psWhile tT tS) (psRet (pFn hTuple (pVar 3))))) [some (.cl .dice), some (.im (nI n)), none, none]).bind _).ok Q E
  have e1 : psSet (pLstR (pC (.int 0)) (pVar 1)) 2 [some (.cl .dice), some (.im (nI n)), none, none] = .val (.nx [some (.cl .dice), some (.im (nI n)), some (.ls .ow ((List.range n).map nI)), none]) := set_fr (lstR_val rfl (by omega))
  rw [seq_nx e1, seq_nx (show psSet (pLst pNil) 3 _ = .val (.nx [some (.cl .dice), some (.im (nI n)), some (.ls .ow ((List.range n).map nI)), some (.ls .ow (([] : List Nat).map nI))]) from rfl)]
  refine Rs.ok_bind (Rs.ok_bind (psWhile_of (n := 1000) (by omega) (turn_loop 1000 (List.range n) [] (by rw [List.length_range]; omega) (by rw [List.length_range]; omega) (by rw [List.length_range]; show 0 + n ≤ 1000; omega) fun t ht => ?_)))
  rw [List.length_range] at ht
  have hp := picks_perm (List.length_range) ht
  exact h t hp
theorem plc_any {pg : PG'} {pe : PE} {ρ : PEn} {P : D → Prop} : ∀ (l : List D), (∀ d ∈ l, ∃ ρ1, pg d ρ = .val ρ1 ∧ ∀ (Q : PV → Prop) (E : Xc → Prop), (∀ x, P x → Q (.im x)) → (pe ρ1).ok Q E) → ∀ (Q : List D → Prop) (E : Xc → Prop), (∀ ys : List D, ys.length = l.length → (∀ y ∈ ys, P y) → Q ys) → (plc pg pYes pe ρ l).ok Q E
  | [], _, Q, E, hq => hq [] rfl (fun _ h => nomatch h)
  | d :: l, h, Q, E, hq => by
    obtain ⟨ρ1, h1, h2⟩ := h d (.head _)
    rw [plc, h1, bind_val]
    show ((pe ρ1).bind _).ok Q E
    refine Rs.ok_bind (h2 _ _ fun x hx => ?_)
    refine Rs.ok_bind (plc_any l (fun d hd => h d (.tail _ hd)) _ _ fun ys hl hys => ?_)
    exact hq (x :: ys) (by rw [List.length_cons, List.length_cons, hl]) fun s hs => by
      cases hs with
      | head => exact hx
      | tail _ hs => exact hys s hs
/-- a list of n rolled things -/
theorem lc_any {pe : PE} {ρ : PEn} {a : PE} {i n : Nat} {P : D → Prop} (ha : a ρ = .val (.im (nI n))) (hn : n ≤ 1000) (hw : wipOk [i] ρ = true) (hs : ∀ d, ∃ ρ1, pNm i d (wipP [i] ρ) = .val ρ1 ∧ ∀ (Q : PV → Prop) (E : Xc → Prop), (∀ x, P x → Q (.im x)) → (pe ρ1).ok Q E) {Q : PV → Prop} {E : Xc → Prop} (h : ∀ ys : List D, ys.length = n → (∀ y ∈ ys, P y) → Q (.ls .fr ys)) : (pLc (pR1 a) (pNm i) pYes pe [i] ρ).ok Q E := by
  unfold pLc
  rw [pR1_val ha (by omega), bind_val]
  show (match wipOk [i] ρ, Nat.ble ((List.range n).map nI).length line1 with
    | true, true => (nox (plc (pNm i) pYes pe (wipP [i] ρ) ((List.range n).map nI))).bind fun ys => PL.Rs.val (PV.ls .fr ys)
    | _, _ => .bad).ok Q E
  rw [hw, Nat.ble_eq_true_of_le (show ((List.range n).map nI).length ≤ line1 by rw [List.length_map, List.length_range]; unfold line1; omega)]
  refine Rs.ok_bind (ok_nox (plc_any _ (fun d _ => hs d) _ _ fun ys hl hys => ?_))
  rw [List.length_map, List.length_range] at hl
  exact h ys hl hys
theorem tup_ok {A : PE} {ρ : PEn} {Q : PV → Prop} {E : Xc → Prop} (h : (A ρ).ok (fun v => ∃ m l, v = .ls m l ∧ Q (.im (.tup l))) E) : (pFn hTuple A ρ).ok Q E :=
  Rs.ok_bind (Rs.imp h (fun v hv => by
    obtain ⟨m, l, rfl, h⟩ := hv
    exact h) (fun _ h => h))
theorem tup2_ok {A B : PE} {ρ : PEn} {Q : PV → Prop} {E : Xc → Prop} (h : (A ρ).ok (fun v => ∃ d, v = .im d ∧ (B ρ).ok (fun u => ∃ e, u = .im e ∧ Q (.im (.tup [d, e]))) E) E) : (pTup (pCons A (pCons B pNil)) ρ).ok Q E := by
  unfold pTup pCons pNil
  refine Rs.ok_bind (Rs.ok_bind (Rs.imp h (fun v hv => ?_) (fun _ h => h)))
  obtain ⟨d, rfl, hv⟩ := hv
  refine Rs.ok_bind (Rs.ok_bind (Rs.imp hv (fun u hu => ?_) (fun _ h => h)))
  obtain ⟨e, rfl, hu⟩ := hu
  exact hu
theorem op_ok {g : G2} {A B : PE} {ρ : PEn} {Q : PV → Prop} {E : Xc → Prop} (h : (A ρ).ok (fun v => (B ρ).ok (fun u => ∃ w, g v u = some w ∧ Q w) E) E) : (pOp g A B ρ).ok Q E :=
  Rs.ok_bind (Rs.imp h (fun v hv => Rs.ok_bind (Rs.imp hv (fun u hu => by
    obtain ⟨w, e, hw⟩ := hu
    show ((match g v u with | some v => PL.Rs.val v | none => .bad) : PL.Rs PV).ok Q E
    rw [e]
    exact hw) (fun _ h => h))) (fun _ h => h))
end
end LT

/-! texts: walked, enumerated, by place, lower, upper, in, index; a name of the top that holds a text -/
namespace DL
open PySem PySem.Spec L2
section
variable {K : PySem.W.Frag} {X : Cx} {N : Nm} {E : XK}
def sgn (c : Nat) : D := .str ⟨#[c]⟩
def sgnsD (x : Str) : List D := x.cps.toList.map sgn
theorem sgnsD_len (x : Str) : (sgnsD x).length = x.cps.size := by unfold sgnsD; rw [List.length_map, Array.length_toList]
theorem sgnsD_get {x : Str} {i c : Nat} (h : x.cps[i]? = some c) : (sgnsD x)[i]? = some (sgn c) := by
  unfold sgnsD
  rw [List.getElem?_map, Array.getElem?_toList, h]
  rfl
/-! ### a text is walked -/
theorem walkD_str {Wf : Wl} (x : Str) : WalkD K N Wf (sgnsD x) (L2.Its x) := by
  refine ⟨fun W1 i _ o hi => ?_, fun W1 _ o => ?_, fun W1 i y H' _ o hi hy => ?_⟩
  · rw [sgnsD_len] at hi; exact hi
  · rw [sgnsD_len]; exact Nat.le_refl _
  · obtain ⟨e1, c, e2, rfl⟩ := hy
    exact ⟨W1, sgn c, sgnsD_get e2, Ext.refl W1, o, e1.symm, rfl, mkStr'⟩
def ciStr (c : CE) : CI := fun σ η k kx => c σ η (fun d η1 => match d with
  | .str x => k ⟨sgnsD x, none⟩ η1
  | _ => false) kx
theorem ji_str {tg e : Expr} {c : CE} (h : JE X N E e c) : JI X N E tg e (ciStr c) := PI.imp (pi_str h) fun σ H R q => by
  obtain ⟨W, σd, k, kx, rfl, o, s, h, hk, hx⟩ := q
  refine tE.bind o s hx h fun W1 d v x1 o1 r1 s1 hx1 h1 => ?_
  cases d with
  | str x =>
    rw [RelD] at r1
    exact ⟨x, r1, hk W1 ⟨sgnsD x, none⟩ _ x1 o1 (fun r l e => nomatch e) (walkD_str x) h1⟩
  | _ => cases h1
/-! ### a text is enumerated -/
def IteS (x : Str) : It :=
  ⟨fun i _ => i < x.cps.size, fun i H v H' => ∃ T c, v = .ref T ∧ H T = none ∧ H' = upd H T (.tup [.int (i : Nat), .str ⟨#[c]⟩]) ∧ x.cps[i]? = some c, fun i _ => i = x.cps.size⟩
theorem turn_enumS {P : Program} {w : World} {K : PySem.W.Frag} {elts : List Expr} {kk : Nat} {tpos : Pos} (x : Str) (t : Tok) (e it : Addr) (hne : e ≠ it) :
    Turn P w K (.Tuple elts kk tpos) (IteS x) [e, it] e (fun i h => (∃ old, IsEnum h e it ((i : Nat) : Int) old) ∧ h.IsStrIter it (strIterType x) x t i) where
  mem := by simp
  obj := fun i h st b hb => by
    obtain ⟨⟨old, he⟩, ⟨o, ho, hc, hd⟩⟩ := st
    have e' : b = e ∨ b = it := by simpa using hb
    rcases e' with z | z
    · rw [z]; exact ⟨_, he, fun v q => nomatch q⟩
    · rw [z]; exact ⟨o, ho, fun v q => by rw [hd] at q; cases q⟩
  keep := fun i h h' st k => let ⟨⟨old, he⟩, ⟨o, ho, r⟩⟩ := st; ⟨⟨old, k e (by simp) _ he⟩, ⟨o, k it (by simp) o ho, r⟩⟩
  item := by
    intro X hP hw hK hc i pins s σ H E I hf st hg
    subst hP hw hK
    obtain ⟨⟨old, he⟩, hit⟩ := st
    have hel : e < s.heap.objs.size := Heap.lt_size he
    have hil : it < s.heap.objs.size := by obtain ⟨o, q, _⟩ := hit; exact Heap.lt_size q
    refine wpAny_pyNext_enum_itemD (PySem.Draws.text (A := X.A.in1) (I.ok.hd hc) it x t) he hit hg hne (by simp; exact hne) fun y h' tk hy ho hit' hT hsz hk => ?_
    obtain ⟨c, u, hcx, rfl⟩ := hy
    refine ⟨_, rfl, wpAny_letOwnedTupleGo_enum (s := { s with heap := h', toks := tk + 1 }) ho fun h'' he' sb => ?_⟩
    have hT2 : h''.get? s.heap.objs.size = some { cls := .type "tuple", data := .seq #[.int i tk, .str ⟨#[c]⟩ u] } := (sb.2 _ (Nat.ne_of_gt hel)).trans hT
    have new : ObjOk X.prog X.w (upd H s.heap.objs.size (.tup [.int (i : Nat), .str ⟨#[c]⟩])) h'' s.heap.objs.size (.tup [.int (i : Nat), .str ⟨#[c]⟩]) :=
      ⟨by show 2 ≤ sizeLine; decide, [.int i tk, .str ⟨#[c]⟩ u], .cons ⟨_, rfl⟩ (.cons ⟨_, rfl⟩ .nil), ⟨_, hT2, rfl, _, rfl⟩⟩
    have I1 : Inv X pins σ (upd H s.heap.objs.size (.tup [.int (i : Nat), .str ⟨#[c]⟩])) { s with heap := h'', toks := tk + 1 } :=
      I.turnedNew (t' := tk + 1) (ch := [e, it]) (fun b ob hb q => (sb.2 b (fun z => hb (by simp [z]))).trans (hk b ob (fun z => hb (by simp [z])) (fun z => hb (by simp [z])) q)) hf (Nat.le_refl _) new
    refine ⟨.ref s.heap.objs.size, _, I1, rfl, ⟨_, c, rfl, I.hok.fresh (Nat.le_refl _), rfl, hcx⟩, ⟨⟨.str ⟨#[c]⟩ u, ?_⟩, ?_⟩, fun b hb => ?_⟩
    · have e1 : ((i + 1 : Nat) : Int) = (i : Int) + 1 := by omega
      rw [e1]; exact he'
    · obtain ⟨o, ho, r⟩ := hit'
      exact ⟨o, (sb.2 it (Ne.symm hne)).trans ho, r⟩
    · have hb' : b < s.heap.objs.size := by
        have e' : b = e ∨ b = it := by simpa using hb
        rcases e' with z | z
        · rw [z]; exact hel
        · rw [z]; exact hil
      rw [upd_ne (Nat.ne_of_lt hb')]
      exact (hf b hb).1
  done := by
    intro X hP hw hK hc i pins s σ H E I hf st hg
    subst hP hw hK
    obtain ⟨⟨old, he⟩, hit⟩ := st
    obtain ⟨f0, f1, f2, f3, f4, f5⟩ := hf it (by simp)
    have hi : i = x.cps.size := hg
    exact wpAny_pyNext_enum_endD (PySem.Draws.text (A := X.A.in1) (I.ok.hd hc) it x t) he (by rw [← hi]; exact hit) fun h' eb => ⟨rfl, I.turned (t' := s.toks) (fun b o hb q => eb b o hb q) f0 f1 f3 f4 f5⟩
  self := fun A i s Q E st h => let ⟨⟨_, he⟩, _⟩ := st; wpAny_pyIter_enum he h
def iEnumS (ta : TA) : TI := fun σ H R => ta σ H fun vs H1 => ∃ x, vs = [.str x] ∧ R (IteS x) H1
theorem pi_enumS {e : Expr} {ta : TA} {p pos tpos : Pos} {elts : List Expr} {kk : Nat} (hg : Gl X "enumerate") (hm : X.mg "enumerate" = none) (ha : PA X [e] ta) (hs : starEach [e] X.env = [(false, eval e X.env)] := by rfl) :
    PI X (.Tuple elts kk tpos) (.Call (.Name "enumerate" p) [e] [] pos) (iEnumS ta) := by
  refine ⟨fun pins s σ H R I h => ?_⟩
  refine PyProof.Rows.Call_ (ld_blt I hg hm PyProof.Rows.boot_enumerate (PyProof.Rows.callWith_type1 (thn (ha.run pos pins s σ H _ I h) fun us s1 ⟨vs, H1, I1, r1, q1⟩ => ?_) hs rfl))
  obtain ⟨x, ex, q⟩ := q1
  subst ex
  cases r1 with
  | cons r rr =>
    cases rr
    obtain ⟨t, rfl⟩ := r
    refine enum_begins1 (PySem.begins_text x t) True.intro fun h' he hit hsz hk => wpAny_pyIter_enum he ?_
    have I2 : Inv X pins σ H1 { s1 with heap := h' } := I1.kept (t' := s1.toks) hk
    refine ⟨s1.heap.objs.size + 1, [s1.heap.objs.size + 1, s1.heap.objs.size], _, _, H1, rfl, I2, turn_enumS x t (s1.heap.objs.size + 1) s1.heap.objs.size (Nat.succ_ne_self _), ⟨⟨.none, he⟩, ⟨_, hit, rfl, rfl⟩⟩, fun b hb => ?_, q⟩
    have e' : b = s1.heap.objs.size + 1 ∨ b = s1.heap.objs.size := by simpa using hb
    have hle : s1.heap.objs.size ≤ b := by
      rcases e' with z | z
      · rw [z]; exact Nat.le_add_right _ _
      · rw [z]; exact Nat.le_refl _
    exact I1.fpOk hle (I1.hok.fresh hle)
theorem walkD_enumS {Wf : Wl} (x : Str) : WalkD K N Wf (enumD 0 (sgnsD x)) (IteS x) := by
  refine ⟨fun W1 i _ o hi => ?_, fun W1 _ o => ?_, fun W1 i y H' x1 o hi hy => ?_⟩
  · rw [enumD_len, sgnsD_len] at hi; exact hi
  · show (enumD 0 (sgnsD x)).length = x.cps.size
    rw [enumD_len, sgnsD_len]
  · obtain ⟨T, c, rfl, hT, rfl, hc⟩ := hy
    obtain ⟨x2, o2⟩ := o.lay (ob := .tup [.int (i : Nat), .str ⟨#[c]⟩]) hT
    refine ⟨W1.lay T (.tup [.int (i : Nat), .str ⟨#[c]⟩]), .tup [.int (Int.ofNat i), sgn c], ?_, x2, o2, rfl, rfl, ?_⟩
    · have := enumD_get 0 (sgnsD x) i (sgn c) (sgnsD_get hc)
      rw [Nat.zero_add] at this
      exact this
    · rw [RelD]
      exact ⟨T, _, rfl, upd_same, .cons mkInt (.cons mkStr' .nil)⟩
def ciEnumS (a : CA) : CI := fun σ η k kx => a σ η (fun ds η1 => match ds with
  | [.str x] => k ⟨enumD 0 (sgnsD x), none⟩ η1
  | _ => false) kx
theorem ji_enumS {e : Expr} {ca : CA} {p pos tpos : Pos} {elts : List Expr} {kk : Nat} (hg : Gl X "enumerate") (hm : X.mg "enumerate" = none) (ha : JA X N E [e] ca) (hs : starEach [e] X.env = [(false, eval e X.env)] := by rfl) :
    JI X N E (.Tuple elts kk tpos) (.Call (.Name "enumerate" p) [e] [] pos) (ciEnumS ca) :=
  PI.imp (pi_enumS hg hm ha hs) fun σ H R q => by
    obtain ⟨W, σd, k, kx, rfl, o, s, h, hk, hx⟩ := q
    refine tAr.bind o s hx h fun W1 ds vs x1 o1 r1 s1 hx1 h1 => ?_
    split at h1
    · rename_i x
      obtain ⟨v, rfl, r⟩ := rel1 r1
      rw [RelD] at r
      exact ⟨x, by rw [r], hk W1 ⟨enumD 0 (sgnsD x), none⟩ _ x1 o1 (fun r l e => nomatch e) (walkD_enumS x) h1⟩
    · cases h1
/-! ### a text's sign by its place -/
def fIxS : F2 := fun x y η => match x, y with
  | .str w, .int i => match Nat.ble w.length 100000, atI w.cps.toList i with
    | true, some c => some (sgn c, η)
    | _, _ => none
  | _, _ => none
theorem je_ixS {a b : Expr} {ca cb : CE} {pos : Pos} (ha : JE X N E a ca) (hb : JE X N E b cb) (hs : PlainIx b) : JE X N E (.Subscript a b pos) (cOp fIxS ca cb) :=
  PE.imp (pe_ix ix_str ha hb hs) fun σ H Q q => by
    have h := tOp_of q
    obtain ⟨W, σd, kv, kx, e1, o, s, h1, hv, hx⟩ := h
    refine ⟨W, σd, kv, kx, e1, o, s, h1, fun W1 d v x1 o1 r1 h2 => ?_, hx⟩
    obtain ⟨W', σd', kv', kx', e1', o', s', h1', hv', hx'⟩ := hv W1 d v x1 o1 r1 h2
    refine ⟨W', σd', kv', kx', e1', o', s', h1', fun W2 d2 v2 x2 o2 r2 h3 => ?_, hx'⟩
    obtain ⟨W3, dx, dy, d3, η', e3, o3, q1, q2, hf, hq⟩ := hv' W2 d2 v2 x2 o2 r2 h3
    unfold fIxS at hf
    split at hf
    · rename_i w i
      split at hf
      · rename_i c e4 e5
        cases hf
        rw [RelD] at q1
        refine ⟨w, i, c, q1, relInt q2, ?_, e5, ?_⟩
        · have := Nat.le_of_ble_eq_true e4
          exact Nat.le_trans this (by decide)
        · rw [← e3]; exact hq W3 _ (Ext.refl W3) o3 rfl mkStr'
      · cases hf
    · cases hf
/-! ### in -/
def oneC (x : Str) : Option Nat := match x.cps.toList with
  | [c] => some c
  | _ => none
theorem oneC_eq {x : Str} {c : Nat} (h : oneC x = some c) : x = ⟨#[c]⟩ := by
  unfold oneC at h
  split at h
  · rename_i e
    cases h
    obtain ⟨a⟩ := x
    have e : a.toList = [c] := e
    have : a = #[c] := Array.ext' e
    rw [this]
  · cases h
def fNotInS : F2 := fun x y η => match x, y with
  | .str a, .str z => match oneC a with
    | some c => some (.bl (!decide (c ∈ z.cps.toList)), η)
    | none => none
  | _, _ => none
theorem opd_notInS : OpR X (compareOp .NotIn) (r2 X.K N fNotInS) := by
  intro pins s σ H x y v u Q I rx ry h
  obtain ⟨W, dx, dy, d, η', rfl, o, r1, r2, hf, hq⟩ := h
  unfold fNotInS at hf
  split at hf
  · rename_i a z
    split at hf
    · rename_i c e
      have := oneC_eq e
      subst this
      cases hf
      rw [RelD] at r1 r2
      subst r1 r2
      exact op_notIn_sign pins s σ _ _ _ v u Q I rx ry ⟨c, z, rfl, rfl, hq W _ (Ext.refl W) o rfl (by rw [RelD])⟩
    · cases hf
  · cases hf
/-! ### lower, upper -/
def cTx0 (f : Str → Str) (c : CE) : CE := fun σ η kv kx => c σ η (fun d η1 => match d with
  | .str a => match Nat.ble a.length 100000 with
    | true => kv (.str (f a)) η1
    | false => false
  | _ => false) kx
theorem tx0_of {f : Str → Str} {o : Expr} {co : CE} {K : PySem.W.Frag} {σ : St} {H : Hp} {Q : VK} (q : tE K N E (cTx0 f co) σ H Q) : tM0 (fun x xs H Q => ∃ a, x = .str a ∧ xs = [] ∧ a.length ≤ 5592405 ∧ Q (.str (f a)) H) (tE K N E co) σ H Q := by
  obtain ⟨W, σd, kv, kx, rfl, o, s, h, hv, hx⟩ := q
  refine tE.bind o s hx h fun W1 d v x1 o1 r1 s1 hx1 h1 => ?_
  cases d with
  | str a =>
    rw [RelD] at r1
    subst r1
    simp only at h1
    cases e : Nat.ble a.length 100000 with
    | false => rw [e] at h1; cases h1
    | true =>
      rw [e] at h1
      exact ⟨⟨a, rfl⟩, a, rfl, rfl, Nat.le_trans (Nat.le_of_ble_eq_true e) (by decide), hv W1 _ _ x1 o1 mkStr' h1⟩
  | _ => cases h1
theorem je_lower {o : Expr} {co : CE} {apos pos : Pos} (ho : JE X N E o co) (hbase : attributeBase o "lower" X.env (eval o X.env) = eval o X.env := by rfl) (hline : (apos.endLine == pos.line) = true := by rfl) :
    JE X N E (.Call (.Attribute o "lower" apos) [] [] pos) (cTx0 Txt.lower co) := PE.imp (pe_lower ho hbase hline) fun σ H Q q => tx0_of (o := o) q
theorem je_upper {o : Expr} {co : CE} {apos pos : Pos} (ho : JE X N E o co) (hbase : attributeBase o "upper" X.env (eval o X.env) = eval o X.env := by rfl) (hline : (apos.endLine == pos.line) = true := by rfl) :
    JE X N E (.Call (.Attribute o "upper" apos) [] [] pos) (cTx0 Txt.upper co) := PE.imp (pe_upper ho hbase hline) fun σ H Q q => tx0_of (o := o) q
/-! ### index -/
def cIdxS (o e : CE) : CE := fun σ η kv kx => o σ η (fun x η1 => match x with
  | .str a => e σ η1 (fun y η2 => match y with
    | .str b => match Txt.index0 a b with
      | some k => kv (.int (Int.ofNat k)) η2
      | none => false
    | _ => false) kx
  | _ => false) kx
theorem je_idxS {o e : Expr} {co ce : CE} {apos cpos : Pos} (hc : X.calm = true) (tk : Takes X (fun _ _ _ _ => False)) (ho : JE X N E o co) (he : JE X N E e ce)
    (hbase : attributeBase o "index" X.env (eval o X.env) = eval o X.env := by rfl)
    (hfew : ((backTo cpos (starEach [e] X.env)).all (fun x => !x.1) && (backToKw cpos (keywordEach [] X.env)).all (fun x => x.1.isSome)
      && decide ([e].length + ([] : List Keyword).length + (if ([] : List Keyword).isEmpty then 0 else 1) < 30)) = true := by rfl)
    (hline : (apos.endLine == cpos.line) = true := by rfl) (hs : starEach [e] X.env = (false, eval e X.env) :: starEach [] X.env := by rfl) (hplain : (backTo cpos (starEach [] X.env)).any (·.1) = false := by rfl) :
    JE X N E (.Call (.Attribute o "index" apos) [e] [] cpos) (cIdxS co ce) :=
  PE.imp (pe_bmS PySem.F.plainAttrs_str PySem.F.slot_str_index PySem.F.type_str_index (mt_indexX hc tk) ho (ja_cons he ja_nil hs) hbase hfew hline hs hplain) fun σ H Q q => by
    obtain ⟨W, σd, kv, kx, rfl, o, s, h, hv, hx⟩ := q
    refine tE.bind o s hx h fun W1 d v x1 o1 r1 s1 hx1 h1 => ?_
    cases d with
    | str a =>
      rw [RelD] at r1
      subst r1
      refine ⟨?_, tAr.bind (kt := fun ds η2 => match ds with
        | [.str b] => (match Txt.index0 a b with
          | some k => kv (.int (Int.ofNat k)) η2
          | none => false)
        | _ => false) o1 s1 hx1 ?_ fun W2 ds vs x2 o2 r2 s2 hx2 h2 => ?_⟩
      · rfl
      · refine Eq.trans (congrArg (fun K => ce σd W1.η K kx) (funext fun y => funext fun η2 => ?_)) h1
        cases y <;> rfl
      · split at h2
        · rename_i b
          obtain ⟨u, rfl, ru⟩ := rel1 r2
          rw [RelD] at ru
          subst ru
          cases ek : Txt.index0 a b with
          | none => rw [ek] at h2; cases h2
          | some k =>
            rw [ek] at h2
            refine ⟨a, b, rfl, rfl, fun k' e' => ?_, fun z => by rw [ek] at z; cases z⟩
            rw [ek] at e'
            cases e'
            exact hv W2 _ _ (x1.trans o o1 x2) o2 mkInt h2
        · cases h2
    | _ => cases h1
/-! ### a name of the top that holds a text -/
theorem je_gstr {x : Str} {w : Str} {pos : Pos} (hg : Gl X x) (hm : ∃ t, X.mg x = some (.str w t)) (hd : (x == ("__debug__" : Str)) = false := by decide) : JE X N E (.Name x pos) (cC (.str w)) := by
  obtain ⟨t, hm⟩ := hm
  exact je_c (pe_glob (v := .str w) hg hm ⟨t, rfl⟩ hd) fun W => mkStr'
end
end DL

/-! an own exception over ValueError whose __init__ says super().__init__(text), self.f = x -/
namespace L2
open PySem PySem.Spec PyProof.Rows
section
open PySem.W PySem.Calls PySem.HandSPX
variable {prog : Program} {w : World} {A : Around} {E : Value → Shared → Prop} {h : Heap} {g : Array GenState} {d : Drawn} {t : Nat} {os : OsState}
variable {nm q : Str} {C N : Addr} {bs bm : List Value} {hdct : Bool} {sn : List Str} {sub : List Value} {ab : Bool} {col : Option Bool} {dd : Option Addr} {k0 k1 k2 k3 k5 : Option Value}
theorem call_mwV {u e t0 : Addr} {rest : List Value} {Q : Value → Shared → Prop}
    (hC : h.get? C = some (excClassObj nm q C N bs bm hdct sn sub ab col dd k0 k1 k2 k3 k5 "ValueError.__new__")) (he : h.get? e = some (excO C t0)) (hu : h.get? u = some (kxs_mw "ValueError.__init__" e)) (hrest : rest.length ≤ sizeLine)
    (hq : ∀ h' t1, (∀ b o, b ≠ e → h.get? b = some o → h'.get? b = some o) → h'.get? e = some (excO C t1) → Q .none ⟨h', g, d, t, os⟩) :
    wpAny (model prog w) A (call (.ref u) rest) Q E ⟨h, g, d, t, os⟩ := by
  refine wpAny_call (codeAny_of_tree ?_)
  show wpAny _ A.in1 (callAny (.ref u) ⟨rest, []⟩) _ _ _
  simp only [callAny]
  refine wpAny_bind (wpAny_load hu ?_)
  simp only [kxs_mw, show (Value.type "method-wrapper" == Value.type "method" || Value.type "method-wrapper" == Value.type "builtin_function_or_method" || Value.type "method-wrapper" == Value.type "method-wrapper") = true by decide, if_true]
  refine W.KFB.if_so (by decide) ?_
  refine wpAny_bind (ESX.check_bound F.excBase_ValueError hC he rfl ?_)
  refine wpAny_bind (wpAny_pure (wpAny_pure ?_))
  refine ⟨Code.quiet_builtin _ (by decide +kernel), codeAny_builtin F.excBase_ValueError.initEntry ?_⟩
  rw [Around.under_plainId F.excBase_ValueError.init.plain _]
  wp_walk
  refine hq _ h.objs.size (fun b o hb ho => ?_) ?_
  · rw [Heap.get?_update_other _ _ (Ne.symm hb)]
    exact Heap.get?_push_of_some _ ho
  · rw [Heap.get?_update_self _ (Heap.get?_push_of_some _ he) rfl]
    rfl
end
/-- the context of such an __init__'s body -/
def cxX (CX : CXT) (P : Program) (w : World) (K : PySem.W.Frag) (mg : Str → Option Value) (base : Heap) (N : List Str) (qual : Str) (scope : Scope) (f : Addr) (cd : Value) (cc : Addr) (A : Around) (outer : List Env) (s : Shared) (H : Hp) (E : XK) : Cx where
  prog := P
  w := w
  K := K
  mg := mg
  base := base
  A := A.deeper (PySem.W.ksEnv qual scope s.heap.objs.size f cd cc)
  N := N
  s_0 := s
  H_0 := H
  env := PySem.W.ksEnv qual scope s.heap.objs.size f cd cc
  outer := outer
  stack := PySem.W.ksEnv qual scope s.heap.objs.size f cd cc :: outer
  ex := []
  calm := true
  fn := fun _ => false
  pn := []
  xe := fun e s' => wpAny (model P w) (A.deeper (PySem.W.ksEnv qual scope s.heap.objs.size f cd cc)) (leaving (PySem.W.ksEnv qual scope s.heap.objs.size f cd cc) e) (fun _ s'' => CX outer H s E e s'') (fun e' s'' => CX outer H s E e' s'') s'
theorem one_lookup {y : Str} {cc c : Addr} (h : ([(("__class__" : Str), cc)] : List (Str × Addr)).lookup y = some c) : y = "__class__" ∧ c = cc := by
  rw [List.lookup_cons] at h
  cases e : y == ("__class__" : Str) with
  | true => rw [e] at h; cases h; exact ⟨beq_iff_eq.mp e, rfl⟩
  | false => rw [e] at h; cases h
theorem two_lookup {n0 n1 : Str} (hne : n0 ≠ n1) (u0 u1 : Value) : ([(n0, u0), (n1, u1)] : List (Str × Value)).reverse.lookup n0 = some u0 ∧ ([(n0, u0), (n1, u1)] : List (Str × Value)).reverse.lookup n1 = some u1 := by
  have e : (n0 == n1) = false := by simpa using hne
  refine ⟨?_, ?_⟩
  · show ([(n1, u1), (n0, u0)] : List (Str × Value)).lookup n0 = _
    rw [List.lookup_cons, e]
    show ([(n0, u0)] : List (Str × Value)).lookup n0 = _
    rw [List.lookup_cons, beq_self_eq_true]
  · show ([(n1, u1), (n0, u0)] : List (Str × Value)).lookup n1 = _
    rw [List.lookup_cons, beq_self_eq_true]
theorem inv_startX {CX : CXT} {P : Program} {w : World} {K : PySem.W.Frag} {mg : Str → Option Value} {base : Heap} {n0 n1 qual : Str} {scope : Scope} {f cc : Addr} {cd : Value} {A : Around} {outer : List Env} {s : Shared} {H : Hp} {E : XK} {u0 u1 : Value} {v0 v1 : V} {h1 : Heap} {tk : Nat} {cl : Value} {cld : Option Addr} {cv : Option Value} {csl : Array (Option Value)}
    (hne : n0 ≠ n1) (hk : scope.kind = .function) (l0 : scope.names.lookup n0 = some .local) (l1 : scope.names.lookup n1 = some .local) (hfree : ∀ y ∈ scope.names, y.2 = .free → y.1 = "__class__") (hcell : ∀ y ∈ scope.names, y.2 ≠ .cell)
    (lcc : K.lookup cc = some ⟨cl, cld, .cell cv, csl⟩) (hd : A.handled = none) (e0 : Env0 P w K mg base A outer s H) (r0 : RelV v0 u0) (r1 : RelV v1 u1)
    (hns : h1.Ns s.heap.objs.size fun x => ([(n0, u0), (n1, u1)] : List (Str × Value)).reverse.lookup x) (kp : ∀ b o, s.heap.get? b = some o → h1.get? b = some o) :
    Inv (cxX CX P w K mg base [n0, n1] qual scope f cd cc A outer s H E) [] [some v0, some v1] H { s with heap := h1, toks := tk } := by
  have noA : ∀ b : Addr, b ∉ (cxX CX P w K mg base [n0, n1] qual scope f cd cc A outer s H E).ex := fun b z => absurd (show b ∈ ([] : List Addr) from z) (by simp)
  obtain ⟨gc, hc⟩ := e0.bs cc _ (e0.mod.kin _ _ lcc)
  refine ⟨⟨e0.mod, hk, rfl, rfl, Nat.le_refl _, fun y z c h1 h2 => ?_, fun y hy => ?_, (fun y c z h => nomatch z), fun _ => hd, Around.frames_deeper e0.frames, .inr ⟨rfl, rfl⟩, fun b z => absurd z (noA b), e0.bs, e0.bsz, fun b _ _ => noA b, fun b z => absurd z (noA b), e0.funs, e0.frf⟩,
    rfl, e0.bare, Un.kept kp, ⟨_, hns, fun i y v h1 h2 h3 => ?_⟩, fun y c h => ?_, e0.hok.fresh (Nat.le_refl _), fun y c h => ?_, fun p hp => absurd (show p ∈ ([] : List (Addr × Obj)) from hp) (by simp), e0.hok.kept kp, rfl⟩
  · exact (one_lookup h1).1.trans (one_lookup h2).1.symm
  · have hy : scope.names.lookup y = some .cell ∨ scope.names.lookup y = some .free := hy
    rcases hy with hy | hy
    · exact absurd rfl (hcell _ (PySem.mem_of_lookup hy))
    · have := hfree _ (PySem.mem_of_lookup hy) rfl
      have this : y = "__class__" := this
      subst this
      exact ⟨cc, rfl⟩
  · obtain ⟨t0, t1⟩ := two_lookup hne u0 u1
    match i, h1, h2 with
    | 0, h1, h2 => cases h1; cases h2; exact ⟨u0, r0, .inl ⟨l0, t0⟩⟩
    | 1, h1, h2 => cases h1; cases h2; exact ⟨u1, r1, .inl ⟨l1, t1⟩⟩
    | i + 2, h1, h2 => cases h1
  · obtain ⟨_, rfl⟩ := one_lookup h
    exact ⟨cv, _, kp _ _ gc, rfl⟩
  · obtain ⟨_, rfl⟩ := one_lookup h
    exact hc
/-- such an __init__'s promise -/
def spIni (C : Addr) (f : Str) : Sp := fun vs H Q _ => ∃ (a : Addr) (v : V), vs = [.ref a, v] ∧ H a = some (exo a C none) ∧ ∀ dx, H dx = none → dx ≠ a → Q .non (upd (upd H dx (exd dx [(f, v)])) a (exo a C (some dx)))
/-- what the written part says of the class and its __init__ -/
structure SupOk (P : Program) (K : PySem.W.Frag) (mg : Str → Option Value) (C fI : Addr) (f n0 n1 : Str) (scope : Scope) (cda cc : Addr) (ar : Arg) (params : Arguments) : Prop where
  T : OexC K C
  cdef : ∃ cd, PySem.W.clsIn K C = some cd ∧ PySem.W.alongIn K "__init__" ((cd.mro.dropWhile (· != .ref C)).drop 1) = some (some (.builtin "ValueError.__init__"))
  mroC : PySem.W.mroIn K C (.ref C) = some true
  mroV : PySem.W.mroIn K C (.type "ValueError") = some true
  opq : PySem.W.nsIn K cStatics "thirdparty.any" = some none
  sup : mg "super" = none
  own : PySem.W.findIn K (.ref C) f = some none
  code : ∃ ccl cdd vs ccs file tf, K.lookup cda = some ⟨ccl, cdd, .fields vs, ccs⟩ ∧ vs[2]? = some (.str file tf) ∧ ((P.main.file : Str) == file) = true
  cell : ∃ cl cld csl, K.lookup cc = some ⟨cl, cld, .cell (some (.ref C)), csl⟩
  top : (P.main.scope.names.lookup ("super" : Str)).isSome = false
  par : (params.posonlyargs ++ params.args).head? = some ar ∧ ar.arg = n0
  ne : n0 ≠ n1
  kind : scope.kind = .function
  co : scope.isCoroutine = false
  gen : scope.isGenerator = false
  l0 : scope.names.lookup n0 = some .local
  l1 : scope.names.lookup n1 = some .local
  lc : scope.names.lookup ("__class__" : Str) = some .free
  ls : scope.names.lookup ("super" : Str) = some .globalImplicit
  fr : ∀ y ∈ scope.names, y.2 = .free → y.1 = "__class__"
  ce : ∀ y ∈ scope.names, y.2 ≠ .cell
  dbg : ((n0 == ("__debug__" : Str)) = false ∧ (n0 == ("__classdict__" : Str)) = false) ∧ (n1 == ("__debug__" : Str)) = false ∧ (n1 == ("__classdict__" : Str)) = false
abbrev bodyX (n0 n1 f tx : Str) (j : Nat) (p0 p1 p2 p3 p4 pc q1 q2 q3 q4 : Pos) : List Stmt := [.Expr (.Call (.Attribute (.Call (.Name "super" p0) [] [] p1) "__init__" p2) [.Constant (.str tx) j pc] [] p3) p4, .Assign [.Attribute (.Name n0 q1) f q2] (.Name n1 q3) q4]
theorem fn_superinit {CX : CXT} {P : Program} {w : World} {K : PySem.W.Frag} {mg : Str → Option Value} {base : Heap} {C fI cda cc : Addr} {f n0 n1 tx name qual : Str} {scope : Scope} {ar : Arg} {params : Arguments} {dV kV doc pm ct oc : Value} {an od : Option Addr} {osl : Array (Option Value)} {j : Nat} {p0 p1 p2 p3 p4 pc q1 q2 q3 q4 : Pos} {pl : Env → Sem Bool}
    (S : SupOk P K mg C fI f n0 n1 scope cda cc ar params) (lk : K.lookup fI = some ⟨oc, od, .func (PySem.W.ksFn name qual params (bodyX n0 n1 f tx j p0 p1 p2 p3 p4 pc q1 q2 q3 q4) scope dV kV doc pm an (.ref cda) ct cc), osl⟩) (hcd : PySem.W.codeIn K (.ref cda) qual = true)
    (hc : ∀ env : Env, eval (.Call (.Attribute (.Call (.Name "super" p0) [] [] p1) "__init__" p2) [.Constant (.str tx) j pc] [] p3) env = (do
      let ov ← attributeBase (.Call (.Name "super" p0) [] [] p1) "__init__" env (eval (.Call (.Name "super" p0) [] [] p1) env)
      standAt p2.atName
      let (f, first) ← holding [ov] (getMethod ov "__init__" (pl env))
      callWith p3 f first (backTo p3 (starEach [.Constant (.str tx) j pc] env)) []) := by intro _; rfl) :
    FnOk P w K mg base CX 1 fI (PySem.W.ksFn name qual params (bodyX n0 n1 f tx j p0 p1 p2 p3 p4 pc q1 q2 q3 q4) scope dV kV doc pm an (.ref cda) ct cc) [n0, n1] (spIni C f) := by
  refine ⟨fun vs H Q E h => by obtain ⟨a, v, rfl, _⟩ := h; rfl, fun A outer s H args us vs Q E hr e0 hb r hsp => ?_⟩
  obtain ⟨a, v, rfl, ea, q⟩ := hsp
  obtain ⟨u0, u1, rfl, r0, r1⟩ : ∃ u0 u1, us = [u0, u1] ∧ RelV (.ref a) u0 ∧ RelV v u1 := by
    cases r with
    | @cons _ u0 _ ur r0 rr =>
      cases rr with
      | @cons _ u1 _ ur' r1 rr' => cases rr'; exact ⟨u0, u1, rfl, r0, r1⟩
  obtain rfl : u0 = Value.ref a := r0
  have KX : K.In s.heap := e0.mod.kin.keeps fun b o e => (e0.bs b o e).1
  have lim : s.heap.NoLimit := e0.mod.nolimit.keeps fun b o e => (e0.bs b o e).1
  obtain ⟨cl, cld, csl, lcc⟩ := S.cell
  refine PySem.ks_codeAny_call_defAt (fd := PySem.W.ksFn name qual params (bodyX n0 n1 f tx j p0 p1 p2 p3 p4 pc q1 q2 q3 q4) scope dV kV doc pm an (.ref cda) ct cc) (body := bodyX n0 n1 f tx j p0 p1 p2 p3 p4 pc q1 q2 q3 q4) (binds := [(n0, .ref a), (n1, u1)]) hr.depth (KX _ _ lk) rfl lim (PySem.W.codeRec_of KX hcd) rfl hb S.ce (fun y hy => ?_) (fun h1 hns kp => ?_) S.co S.gen S.kind
  · rcases List.mem_cons.mp hy with rfl | hy
    · exact S.l0
    · rw [List.mem_singleton.mp hy]; exact S.l1
  have I : Inv (cxX CX P w K mg base [n0, n1] qual scope fI (.ref cda) cc A outer s H E) [] [some (.ref a), some v] H { s with heap := h1, toks := s.toks + 2 } :=
    inv_startX S.ne S.kind S.l0 S.l1 S.fr S.ce lcc hr.hd e0 (v0 := .ref a) rfl r1 hns kp
  have X1 : K.In h1 := KX.keeps kp
  obtain ⟨ccl, cdd, cvs, ccs, file, tf, lcode, hfile, hmain⟩ := S.code
  obtain ⟨cdC, hcls, hal⟩ := S.cdef
  obtain ⟨nm, qn, N, bs, bm, sn, sub, ab, col, dd, k0, k1, k2, k3, k5, hCl, hbm⟩ := S.T.cls
  obtain ⟨mb, hb1, hb2⟩ := e0.mod.blt
  obtain ⟨ta, ha⟩ := exo_at I.hok ea
  obtain ⟨hp, g, dr, tk, os⟩ := s
  have ha : h1.get? a = some (PySem.HandSPX.excO C ta) := ha
  have bk : ∀ b o, base.get? b = some o → h1.get? b = some o := fun b o e => kp _ _ (e0.bs b o e).1
  have IA : PySem.W.InstAt h1 a (PySem.HandSPX.excO C ta) C none := ⟨ha, rfl, rfl, trivial⟩
  have hi : interactive (PySem.W.ksEnv qual scope hp.objs.size fI (.ref cda) cc) = false := by
    unfold interactive
    simp [S.kind]
  refine PySem.ks_wpAt_execs_cons (PySem.ks_wpAt_Expr_any (PySem.ks_wpAt_MethodCall ?_ (hc _)) hi)
  refine PySem.ks_wpAt_super_base S.ls S.lc (by decide) rfl (X1 _ _ lk) rfl S.par.1 rfl (X1 _ _ lcode) rfl hfile hmain S.top ?_
  refine PySem.W.ks_loadName_global S.kind S.ls (Calls.loadGlobal_builtin (e0.mod.glob.keeps bk) S.sup (hb1.keeps bk) ((hb2 _ (by decide)).trans (by decide +kernel)) ⟨rfl, ?_⟩)
  refine PySem.wpAny_loadName_free S.kind S.lc rfl ⟨_, X1 _ _ lcc, rfl⟩ ?_
  rw [S.par.2]
  refine PySem.wpAny_loadName_local S.kind S.l0 hns (two_lookup S.ne _ _).1 ?_
  refine PySem.ks_wpAny_isType_cls (X1 _ _ hCl) rfl ⟨rfl, ?_⟩
  refine PySem.ks_wpAny_call_super (X1 _ _ hCl) rfl ha rfl (fun c z => by cases z) (PySem.W.looks_mroIn X1 S.mroC) fun h2 e2 k2 => ?_
  have X2 : K.In h2 := X1.keeps k2
  have IA2 : PySem.W.InstAt h2 a (PySem.HandSPX.excO C ta) C none := ⟨k2 _ _ ha, rfl, rfl, trivial⟩
  refine PySem.W.kxs_getMethod PySem.W.kxs_ValueError e2 (PySem.W.looks_opaque X2 S.opq) (fun A Q E s k q => wpAny_bind ((PySem.W.looks_clsIn X2 hcls) A _ E s k (wpAny_pure q))) rfl X2 hal (IA2.type.andThen (PySem.W.looks_mroIn X2 S.mroV)) (PySem.W.ks_ne X2 IA2 hcls) (by decide) ?_
  have ga : (h2.push (PySem.W.kxs_mw "ValueError.__init__" a)).get? a = some (PySem.HandSPX.excO C ta) := Heap.get?_push_of_some _ (k2 _ _ ha)
  have gu : (h2.push (PySem.W.kxs_mw "ValueError.__init__" a)).get? h2.objs.size = some (PySem.W.kxs_mw "ValueError.__init__" a) := Heap.get?_push_size _ rfl
  have I3 := I.kept (t' := tk + 2 + 1 + 1) (h' := h2.push (PySem.W.kxs_mw "ValueError.__init__" a)) fun b o e => Heap.get?_push_of_some _ (k2 b o e)
  refine PySem.W.kxs_callWith (i := "ValueError.__init__") (x := a) rfl ?_
  show wpAny _ _ (evalArgs _ true ((false, eval (.Constant (.str tx) j pc) _) :: []) []) _ _ _
  refine Calls.evalArgs_plain (Calls.spliced_cons (Calls.Constant_str (Calls.spliced_nil ⟨gu, ?_⟩)))
  refine call_mwV (X2 _ _ hCl |> fun e => Heap.get?_push_of_some _ e) ga gu (by show 1 ≤ _; rw [sizeLine_eq]; omega) fun h4 t4 k4 hx4 => ?_
  have I4 := I3.write (t' := tk + 2 + 1 + 1) (x := a) (e := a) (o := exo a C none) (by rw [ea]; exact True.intro) (.inl rfl) k4 ⟨_, hx4⟩ (exo_ok hx4)
  have eu : upd H a (exo a C none) = H := by
    funext b
    by_cases hb : b = a
    · rw [hb, upd_same, ea]
    · rw [upd_ne hb]
  rw [eu] at I4
  refine PySem.ks_wpAt_execs_cons ?_
  refine wpAt_of_wpAny ?_
  have P2 : PS (cxX CX P w K mg base [n0, n1] qual scope fI (.ref cda) cc A outer ⟨hp, g, dr, tk, os⟩ H E) (.Assign [.Attribute (.Name n0 q1) f q2] (.Name n1 q3) q4) (tOst K f (tVar 0) (tVar 1)) := ps_ost (pe_var rfl (.inl S.l0) S.dbg.1.1 S.dbg.1.2) (pe_var rfl (.inl S.l1) S.dbg.2.1 S.dbg.2.2)
  refine wpAny_mono (P2.run [] _ _ H { nx := fun _ H' => Q .non H', rt := Q } I4 ⟨v, rfl, .ref a, rfl, a, C, rfl, S.T, S.own, .inl ⟨ea, fun dx n ne => q dx n ne⟩⟩) (fun fl s' hs => ?_) fun e s' hs => hs
  have fin : ∀ {σ' : St} {H' : Hp} {v' : V} {u : Value} {s' : Shared}, Inv (cxX CX P w K mg base [n0, n1] qual scope fI (.ref cda) cc A outer ⟨hp, g, dr, tk, os⟩ H E) [] σ' H' s' → RelV v' u → Q v' H' → CE outer P w H ⟨hp, g, dr, tk, os⟩ Q u s' :=
    fun {σ' H' v' u s'} J rv q => ⟨v', H', J.os, J.bare, J.base, J.hok, rv, q⟩
  cases fl with
  | ret u =>
    obtain ⟨v', σ', H', J, rv, q⟩ := hs
    exact fin J rv q
  | next =>
    obtain ⟨σ', H', J, q⟩ := hs
    exact wpAt_of_wpAny (wpAny_execs_nil (fin (v' := V.non) (u := Value.none) J rfl q))
  | brk =>
    obtain ⟨_, _, _, q⟩ := hs
    exact False.elim q
  | cont =>
    obtain ⟨_, _, _, q⟩ := hs
    exact False.elim q
end L2

/-! raise C(x) with a payload; try: f(..) except C as e: return e.f -/
namespace DL
open PySem PySem.Spec L2
section
variable {X : Cx} {N : Nm} {E : XK}
def sRaiseX (c : Nat) (a : CE) : CS := fun σ η k => a σ η (fun d η1 => k.xc ⟨c, some d⟩ η1) k.xc
theorem js_raiseX {CX : CXT} {x f : Str} {C fI : Addr} {c j : Nat} {fd : FuncData} {ps : List Str} {e : Expr} {a : CE} {p pos pos' : Pos} (hc : X.calm = true) (tk : Takes X (fun cls d _ H => E cls d H)) (T : OexC X.K C) (iC : PySem.W.findIn X.K (.ref C) "__init__" = some (some (.ref fI))) (tI : PySem.W.typeIn X.K (.ref fI) = some (.type "function"))
    (F1 : FnOk X.prog X.w X.K X.mg X.base CX j fI fd ps (spIni C f)) (hr : Room (j + 1) X.A) (hb : Binds X.K fd ps []) (hx : Passes CX X (fun _ _ _ => False)) (hg : Gl X x) (hm : X.mg x = some (.ref C)) (ha : JE X N E e a) (hC : N.cls c = C) (hf : N.xf c = f)
    (hdb : (x == ("__debug__" : Str)) = false := by decide) (he : starEach [e] X.env = (false, eval e X.env) :: starEach [] X.env := by rfl) : JS X N E (.Raise (some (.Call (.Name x p) [e] [] pos)) none pos') (sRaiseX c a) :=
  PS.imp (ps_raise hc tk (pmk_oex T iC tI F1 hr hb (ds := []) (dvs := []) .nil hx hg hm (pa_cons ha pa_nil he) hdb he rfl)) fun Z σ H q => by
    obtain ⟨W, σd, k, rfl, o, s, h, hk⟩ := q
    refine tE.bind (Q' := fun v H1 => tNil σ H1 fun r H2 => (v :: r).length ≤ 1000 ∧ ∀ a, H2 a = none → spIni C f (.ref a :: ((v :: r) ++ [])) (upd H2 a (exo a C none))
      (fun v H3 => v = .non ∧ ∃ (d : Addr) (fs : List (Str × V)), H3 a = some (exo a C (some d)) ∧ H3 d = some (exd d fs) ∧ H2 d = none ∧ E (.ref C) (some d) (upd (del H3 a) d (.xd fs))) (fun _ _ _ => False)) o s hk.xc h fun W1 d v x1 o1 r1 s1 hx1 h1 => ?_
    refine ⟨by show 1 ≤ 1000; omega, fun a ha0 => ⟨a, v, rfl, upd_same, fun dx hdx ne => ⟨rfl, dx, [(f, v)], upd_same, ?_, ?_, ?_⟩⟩⟩
    · rw [upd_ne ne, upd_same]
    · rw [upd_ne ne] at hdx; exact hdx
    · have hd0 : W1.H dx = none := by rw [upd_ne ne] at hdx; exact hdx
      have eH : upd (del (upd (upd (upd W1.H a (exo a C none)) dx (exd dx [(f, v)])) a (exo a C (some dx))) a) dx (.xd [(f, v)]) = upd W1.H dx (.xd [(f, v)]) := by
        funext b
        by_cases h1 : b = dx
        · rw [h1, upd_same, upd_same]
        · rw [upd_ne h1, upd_ne h1]
          by_cases h2 : b = a
          · rw [h2, del_same, ha0]
          · rw [del_ne h2, upd_ne h2, upd_ne h1, upd_ne h2]
      rw [eH]
      obtain ⟨x2, o2⟩ := o1.lay (ob := .xd [(f, v)]) hd0
      exact hx1 (W1.lay dx (.xd [(f, v)])) ⟨c, some d⟩ (.ref C) (some dx) x2 o2 ⟨by rw [hC], dx, v, rfl, by rw [hf]; exact upd_same, r1.mono o1 x2⟩ h1
theorem passes_len {W : WX} (tk : Takes X W) (hW : ∀ cls d H, E cls d H → ∀ σ : L2.St, σ.length = X.N.length → W cls d σ H) : Passes (CX X.prog X.w) X E := fun pins σ H s e s' I c => tk e s' (XE.of_call I (fun cls d H' h => hW cls d H' h σ I.len) c)
/-- try: f(..) except C as e: return e.f -/
def sTryX (c : Nat) (cb : CE) : CS := fun σ η k => cb σ η (fun _ η1 => k.nx σ η1) (fun x η1 => match Nat.beq x.c c, x.p with
  | true, some d => k.rt d η1
  | _, _ => false)
theorem js_tryX {x n f : Str} {C : Addr} {c i : Nat} {call : Expr} {cb : CE} {p0 np p1 p2 p3 pos pos' : Pos} (hs : X.stack = X.env :: X.outer) (hfr : X.env.frame = some X.env.locals) (hN : X.N.Nodup) (hi : X.N[i]? = some n) (hln : X.env.kindOf n = some .local) (hc : L2.Names X x (.ref C))
    (hex : PySem.W.exmOne X.K (.ref C) (.ref C) = some true) (T : XfC X.K C) (hno : PySem.W.findIn X.K (.ref C) f = some none) (hC : N.cls c = C) (hf : N.xf c = f) (tk : Takes X (fun _ _ _ _ => False))
    (hb : ∀ (W : WX) (pn : List (Addr × Obj)) (xe : Value → Shared → Prop) (E' : XK), Takes (X.tr pn xe) W → (∀ cls d H, E' cls d H → ∀ σ : L2.St, σ.length = X.N.length → W cls d σ H) → JE (X.tr pn xe) N E' call cb)
    (hdb : (n == ("__debug__" : Str)) = false := by decide) (hcd : (n == ("__classdict__" : Str)) = false := by decide)
    (hsw : swapsWith call none p0.line X.env = pure false := by rfl) (hba : attributeBase (.Name n p1) f X.env (eval (.Name n p1) X.env) = eval (.Name n p1) X.env := by rfl) :
    JS X N E (.Try [.Expr call p0] [.ExceptHandler (some (.Name x np)) (some n) [.Return (some (.Attribute (.Name n p1) f p2)) p3] pos'] [] [] pos) (sTryX c cb) :=
  PS.imp (ps_try_as hs hfr hN hi hln hc tk
    (tb := fun W => fun D σ H => tE X.K N (fun cls d H' => ∀ σ' : L2.St, σ'.length = X.N.length → W cls d σ' H') cb σ H fun _ H' => D.nx σ H')
    (ts := fun a cls d => tRet (tXf a cls d C f (tVar i)))
    (fun W pn xe tkW _ => pss_one (ps_expr (hb W pn xe _ tkW fun cls d H h => h) hsw))
    (fun a oe cls d pn hz hv => pss_one (ps_ret (pe_xf T hno hz hv (pe_var hi (.inl hln) hdb hcd) hba)))) fun Z σ H q => by
    obtain ⟨W, σd, k, rfl, o, s, h, hk⟩ := q
    refine ⟨W, σd, _, _, rfl, o, s, h, fun W1 d v x1 o1 r1 e => hk.nx W1 σd σ x1 o1 (s.mono o x1) e, fun W1 xx cls dd x1 o1 r e => ?_⟩
    obtain ⟨rc, rp⟩ := r
    have e : (match Nat.beq xx.c c, xx.p with | true, some d => k.rt d W1.η | _, _ => false) = true := e
    cases ec : Nat.beq xx.c c with
    | false => rw [ec] at e; cases e
    | true =>
      have ecc : xx.c = c := Nat.eq_of_beq_eq_true ec
      rw [ec] at e
      cases ep : xx.p with
      | none => rw [ep] at e; cases e
      | some d0 =>
        rw [ep] at e rp
        obtain ⟨a0, v0, rfl, h0, r0⟩ := rp
        intro σ' hl
        have hi' : i < σ'.length := by rw [hl]; exact (List.getElem?_eq_some_iff.mp hi).1
        refine ⟨true, by rw [rc, ecc, hC]; exact hex, fun _ a ha => ?_, fun z => nomatch z⟩
        exact ⟨.ref a, by rw [List.getElem?_set_self hi'], rfl, by rw [rc, ecc, hC], a0, [(N.xf xx.c, v0)], v0, rfl, h0, by rw [ecc, hf]; simp [List.lookup], hk.rt W1 d0 v0 x1 o1 r0 e⟩
/-! ### what is kept of a class with such an __init__ -/
def oexB (K : PySem.W.Frag) (C : Addr) : Bool := match K.lookup C with
  | some ⟨.type t, _, .cls ⟨_, _, .ref C' :: bm, _, _, true, _, _, _, _, false⟩, sl⟩ => (match sl.toList with
    | [_, _, _, _, some (.builtin n), _] => decide (n = "ValueError.__new__") && (decide (t = "type") && (decide (C' = C) && PySem.HandSPX.refsVE bm))
    | _ => false)
  | _ => false
theorem oexB_ok {K : PySem.W.Frag} {C : Addr} (h : oexB K C = true) : ∃ nm q N bs bm sn sub ab col dd k0 k1 k2 k3 k5, K.lookup C = some (excClassObj nm q C N bs bm true sn sub ab col dd k0 k1 k2 k3 k5 "ValueError.__new__") ∧ PySem.HandSPX.refsVE bm = true := by
  unfold oexB at h
  split at h
  · rename_i t dd nm bs C' bm N q sn sub ab col sl e
    split at h
    · rename_i k0 k1 k2 k3 n k5 es
      simp only [Bool.and_eq_true, decide_eq_true_eq] at h
      obtain ⟨h1, h2, h3, h4⟩ := h
      subst h1; subst h2; subst h3
      refine ⟨nm, q, N, bs, bm, sn, sub, ab, col, dd, k0, k1, k2, k3, k5, ?_, h4⟩
      rw [e]
      have : sl = #[k0, k1, k2, k3, some (.builtin "ValueError.__new__"), k5] := by
        rw [← es]
      rw [this]
    · cases h
  · cases h
def supB (K : PySem.W.Frag) (C : Addr) : Bool := (match PySem.W.clsIn K C with
  | some cd => decide (PySem.W.alongIn K "__init__" ((cd.mro.dropWhile (· != .ref C)).drop 1) = some (some (.builtin "ValueError.__init__")))
  | none => false) && (decide (PySem.W.mroIn K C (.ref C) = some true) && (decide (PySem.W.mroIn K C (.type "ValueError") = some true) && decide (PySem.W.nsIn K cStatics "thirdparty.any" = some none)))
structure OwnX (P : Program) (K : PySem.W.Frag) (mg : Str → Option Value) (C : Addr) (f : Str) : Prop where
  T : OexC K C
  xf : XfC K C
  own : PySem.W.findIn K (.ref C) f = some none
  fn : ∃ (fI : Addr) (fd : FuncData) (ps : List Str), PySem.W.findIn K (.ref C) "__init__" = some (some (.ref fI)) ∧ PySem.W.typeIn K (.ref fI) = some (.type "function") ∧ L2.Binds K fd ps [] ∧ ∀ (CX : CXT) (w : World) (base : Heap), FnOk P w K mg base CX 1 fI fd ps (spIni C f)
theorem ownX_mk {P : Program} {K : PySem.W.Frag} {mg : Str → Option Value} {C fI cda cc : Addr} {f n1 tx name qual : Str} {scope : Scope} {ar : Arg} {params : Arguments} {dV kV doc pm ct oc : Value} {an od : Option Addr} {osl : Array (Option Value)} {j : Nat} {p0 p1 p2 p3 p4 pc q1 q2 q3 q4 : Pos} {pl : Env → Sem Bool}
    {ccl : Value} {cdd : Option Addr} {vs : Array Value} {ccs : Array (Option Value)} {file : Str} {tf : Tok} {cl : Value} {cld : Option Addr} {csl : Array (Option Value)}
    (x1 : oexB K C = true) (x2 : xfB K C = true) (x3 : PySem.W.findIn K (.ref C) f = some none) (x4 : PySem.W.findIn K (.ref C) "__setattr__" = some (some (.builtin "object.__setattr__"))) (x5 : supB K C = true)
    (x6 : PySem.W.findIn K (.ref C) "__init__" = some (some (.ref fI))) (x7 : PySem.W.typeIn K (.ref fI) = some (.type "function")) (kC : PySem.W.keepIn K (.ref C) = true) (sC : PySem.W.subIn K (.ref C) (.type "BaseException") = some true) (tC : PySem.W.typeIn K (.ref C) = some (.type "type"))
    (lk : K.lookup fI = some ⟨oc, od, .func (PySem.W.ksFn name qual params (bodyX "self" n1 f tx j p0 p1 p2 p3 p4 pc q1 q2 q3 q4) scope dV kV doc pm an (.ref cda) ct cc), osl⟩) (hcd : PySem.W.codeIn K (.ref cda) qual = true)
    (y1 : K.lookup cda = some ⟨ccl, cdd, .fields vs, ccs⟩) (y2 : vs[2]? = some (.str file tf)) (y3 : ((P.main.file : Str) == file) = true) (y4 : (P.main.scope.names.lookup ("super" : Str)).isSome = false) (y5 : K.lookup cc = some ⟨cl, cld, .cell (some (.ref C)), csl⟩)
    (z : mg "super" = none) (hb : L2.Binds K (PySem.W.ksFn name qual params (bodyX "self" n1 f tx j p0 p1 p2 p3 p4 pc q1 q2 q3 q4) scope dV kV doc pm an (.ref cda) ct cc) ["self", n1] [])
    (par : (params.posonlyargs ++ params.args).head? = some ar ∧ ar.arg = "self") (ne : ("self" : Str) ≠ n1) (sc : scope.kind = .function ∧ scope.isCoroutine = false ∧ scope.isGenerator = false)
    (ls : scope.names.lookup ("self" : Str) = some .local ∧ scope.names.lookup n1 = some .local ∧ scope.names.lookup ("__class__" : Str) = some .free ∧ scope.names.lookup ("super" : Str) = some .globalImplicit)
    (fr : (scope.names.all fun y => decide (y.2 = .free → y.1 = "__class__")) = true) (ce : (scope.names.all fun y => decide (y.2 ≠ .cell)) = true) (dbg : (n1 == ("__debug__" : Str)) = false ∧ (n1 == ("__classdict__" : Str)) = false)
    (hc : ∀ env : Env, eval (.Call (.Attribute (.Call (.Name "super" p0) [] [] p1) "__init__" p2) [.Constant (.str tx) j pc] [] p3) env = (do
      let ov ← attributeBase (.Call (.Name "super" p0) [] [] p1) "__init__" env (eval (.Call (.Name "super" p0) [] [] p1) env)
      standAt p2.atName
      let (f, first) ← holding [ov] (getMethod ov "__init__" (pl env))
      callWith p3 f first (backTo p3 (starEach [.Constant (.str tx) j pc] env)) []) := by intro _; rfl) : OwnX P K mg C f := by
  have T : OexC K C := ⟨oexB_ok x1, x4, sC, tC, kC⟩
  have S : SupOk P K mg C fI f "self" n1 scope cda cc ar params := by
    unfold supB at x5
    simp only [Bool.and_eq_true, decide_eq_true_eq] at x5
    obtain ⟨a1, a2, a3, a4⟩ := x5
    refine ⟨T, ?_, a2, a3, a4, z, x3, ⟨_, _, _, _, _, _, y1, y2, y3⟩, ⟨_, _, _, y5⟩, y4, par, ne, sc.1, sc.2.1, sc.2.2, ls.1, ls.2.1, ls.2.2.1, ls.2.2.2, fun y hy => of_decide_eq_true (List.all_eq_true.mp fr y hy), fun y hy => of_decide_eq_true (List.all_eq_true.mp ce y hy), ⟨⟨by decide, by decide⟩, dbg⟩⟩
    split at a1
    · rename_i cd e
      exact ⟨cd, e, of_decide_eq_true a1⟩
    · cases a1
  exact ⟨T, xfB_ok x2, x3, fI, _, ["self", n1], x6, x7, hb, fun CX w base => fn_superinit S lk hcd hc⟩
theorem passes_never : Passes (CX X.prog X.w) X (fun _ _ _ => False) := fun _ _ _ _ _ _ _ z => by
  obtain ⟨_, _, _, _, _, _, _, _, _, _, _, _, z⟩ := z
  exact z.elim
theorem js_raiseU {x f : Str} {C : Addr} {c : Nat} {e : Expr} {a : CE} {p pos pos' : Pos} (hc : X.calm = true) (tk : Takes X (fun cls d _ H => E cls d H)) (U : OwnX X.prog X.K X.mg C f) (hr : Room 2 X.A) (hg : Gl X x) (hm : X.mg x = some (.ref C)) (ha : JE X N E e a) (hC : N.cls c = C) (hf : N.xf c = f)
    (hdb : (x == ("__debug__" : Str)) = false := by decide) (he : starEach [e] X.env = (false, eval e X.env) :: starEach [] X.env := by rfl) : JS X N E (.Raise (some (.Call (.Name x p) [e] [] pos)) none pos') (sRaiseX c a) := by
  obtain ⟨fI, fd, ps, h1, h2, h3, h4⟩ := U.fn
  exact js_raiseX hc tk U.T h1 h2 (h4 (CX X.prog X.w) X.w X.base) hr h3 passes_never hg hm ha hC hf hdb he
end
end DL

/-! the empty tuple so many times; a context that takes what never is -/
namespace DL
open PySem PySem.Spec PyProof.Rows L2
section
variable {X : Cx} {N : Nm} {E : XK}
theorem takes_never : Takes X (fun _ _ _ _ => False) := fun u s' x => by
  obtain ⟨_, _, _, _, _, _, _, _, _, _, _, _, _, _, _, _, w⟩ := x
  exact w.elim
def rRepE (K : PySem.W.Frag) : R2 := fun x y H Q => ∃ l k, x = .ref l ∧ y = .int k ∧ 0 ≤ k ∧ k ≤ 1000 ∧ SqT K H l [] ∧ Q (.ref l) H
theorem op_repE : OpR X (binaryOp .Mult) (rRepE X.K) := by
  intro pins s σ H x y v u Q I rx ry h
  obtain ⟨l, k, rfl, rfl, k0, k1, hT, q⟩ := h
  cases rx
  obtain ⟨t, rfl⟩ := ry
  obtain ⟨its, r, ⟨⟨cls, dd, data, sl⟩, ho, hc, n, hd⟩, hs⟩ := I.tuple hT
  simp only at hc hd
  subst hc hd
  cases r
  have c0 : (decide (k < -(2 ^ 63)) || decide (k ≥ 2 ^ 63)) = false := by
    rw [decide_eq_false (by omega), decide_eq_false (by omega)] <;> rfl
  refine wpAny_binaryOp_repeat_ref (T := "tuple") (U := "int") (by decide) ⟨_, ho, rfl⟩ (fun s' => typeIs_int s' k t) noFill_tuple_mul F.fills_int_mul F.slot_int_rmul repeat_tuple F.slot_int_index.lookup
    (call_meets F.slot_int_rmul (typeIs_int s k t) F.entry_int_rmul (F.args_int_rmul_2 _ _) (int_rmul_tuple k t l #[] n dd sl)
      ⟨ho, rfl, ⟨_, ho, rfl⟩, call_meets F.slot_tuple_mul ⟨_, ho, rfl⟩ F.entry_tuple_mul (F.args_tuple_mul_2 _ _) (tuple_mulW1 l #[] n dd sl k t c0 rfl) ⟨ho, ?_⟩⟩)
  exact ⟨.ref l, H, I.tok _, rfl, q⟩
def fRepE : F2 := fun x y η => match x with
  | .tup [] => match y with
    | .int (.ofNat k) => match Nat.ble k 1000 with
      | true => some (.tup [], η)
      | false => none
    | _ => none
  | _ => none
theorem opd_repE : OpR X (binaryOp .Mult) (r2 X.K N fRepE) := OpR.imp op_repE fun x y H Q q => by
  obtain ⟨W, dx, dy, d, η', rfl, o, rx, ry, hf, hq⟩ := q
  unfold fRepE at hf
  split at hf
  · split at hf
    · rename_i k
      split at hf
      · rename_i e
        have e := Nat.le_of_ble_eq_true e
        cases hf
        obtain ⟨l, xs, rfl, h1, h2⟩ := relTup rx
        have ey := relInt ry
        subst ey
        have hxs : xs = [] := by cases h2; rfl
        subst hxs
        exact ⟨l, _, rfl, rfl, Int.natCast_nonneg _, by show ((k : Nat) : Int) ≤ 1000; omega, SqT.of h1, hq W _ (Ext.refl W) o rfl rx⟩
      · cases hf
    · cases hf
  · cases hf
def fRepW : F2 := fOr fRepE fRepV
theorem opd_repW : OpR X (binaryOp .Mult) (r2 X.K N fRepW) := opd_or opd_repE opd_repV
end
end DL

/-! the plain layer: texts; exceptions with a payload -/
namespace PL
open PySem PySem.Spec L2 DL
def pStrI (a : PE) : PI' := fun ρ => (a ρ).bind fun x => match x with
  | .im (.str x) => .val (sgnsD x, none)
  | _ => .bad
theorem si_str {a : CE} {pa : PE} (ha : SE a pa) : SI (ciStr a) (pStrI pa) := by
  intro P0 b ρ σ η kv kx R h
  unfold ciStr
  refine ha R (Rs.imp (Rs.bind_ok h) (fun x hx dx η1 f1 s1 n1 => ?_) (fun x hx η' f => hx η' f))
  split at hx
  · cases s1
    exact hx ⟨_, none⟩ η1 rfl f1 itO_none
  · exact hx.elim
def pEnumS (a : PE) : PI' := fun ρ => (a ρ).bind fun x => match x with
  | .im (.str x) => .val (enumD 0 (sgnsD x), none)
  | _ => .bad
theorem si_enumS {a : CE} {pa : PE} (ha : SE a pa) : SI (ciEnumS (cCons a cNil)) (pEnumS pa) := by
  intro P0 b ρ σ η kv kx R h
  show a σ η _ kx = true
  refine ha R (Rs.imp (Rs.bind_ok h) (fun x hx dx η1 f1 s1 n1 => ?_) (fun x hx η' f => hx η' f))
  split at hx
  · cases s1
    exact hx ⟨_, none⟩ η1 rfl f1 itO_none
  · exact hx.elim
def gIxS : G2 := fun x y => match x, y with
  | .im (.str w), .im (.int i) => match Nat.ble w.length 100000, atI w.cps.toList i with
    | true, some c => some (.im (sgn c))
    | _, _ => none
  | _, _ => none
theorem s2_ixS : S2 fIxS gIxS := by
  intro P η x y v dx dy lt hx hy h
  unfold gIxS at h
  split at h
  · cases hx; cases hy
    split at h
    · rename_i e1 e2; cases h; exact ⟨_, η, by simp only [fIxS, e1, e2], Fr.refl _ _, rfl⟩
    · cases h
  · cases h
def gNotInS : G2 := fun x y => match x, y with
  | .im (.str a), .im (.str z) => match oneC a with
    | some c => some (.im (.bl (!decide (c ∈ z.cps.toList))))
    | none => none
  | _, _ => none
theorem s2_notInS : S2 fNotInS gNotInS := by
  intro P η x y v dx dy lt hx hy h
  unfold gNotInS at h
  split at h
  · cases hx; cases hy
    split at h
    · rename_i e1; cases h; exact ⟨_, η, by simp only [fNotInS, e1], Fr.refl _ _, rfl⟩
    · cases h
  · cases h
def pTx0 (f : Str → Str) (a : PE) : PE := fun ρ => (a ρ).bind fun x => match x with
  | .im (.str a) => match Nat.ble a.length 100000 with
    | true => .val (.im (.str (f a)))
    | false => .bad
  | _ => .bad
theorem se_tx0 {f : Str → Str} {a : CE} {pa : PE} (ha : SE a pa) : SE (cTx0 f a) (pTx0 f pa) := by
  intro P0 b ρ σ η kv kx R h
  unfold cTx0
  refine ha R (Rs.imp (Rs.bind_ok h) (fun x hx dx η1 f1 s1 n1 => ?_) (fun x hx η' f => hx η' f))
  split at hx
  · cases s1
    split at hx
    · rename_i e; simp only [e]; exact hx _ η1 f1 rfl (fun z => nomatch z)
    · exact hx.elim
  · exact hx.elim
def pIdxS (o e : PE) : PE := fun ρ => (o ρ).bind fun x => match x with
  | .im (.str a) => (e ρ).bind fun y => match y with
    | .im (.str b) => match Txt.index0 a b with
      | some k => .val (.im (.int (Int.ofNat k)))
      | none => .bad
    | _ => .bad
  | _ => .bad
theorem se_idxS {o e : CE} {po pe : PE} (ho : SE o po) (he : SE e pe) : SE (cIdxS o e) (pIdxS po pe) := by
  intro P0 b ρ σ η kv kx R h
  unfold cIdxS
  refine ho R (Rs.imp (Rs.bind_ok h) (fun x hx dx η1 f1 s1 n1 => ?_) (fun x hx η' f => hx η' f))
  split at hx
  · cases s1
    refine he (R.mono f1) (Rs.imp (Rs.bind_ok hx) (fun y hy dy η2 f2 s2 n2 => ?_) (fun x hx η' f => hx η' (f1.trans f)))
    split at hy
    · cases s2
      split at hy
      · rename_i e1; simp only [e1]; exact hy _ η2 (f1.trans f2) rfl (fun z => nomatch z)
      · exact hy.elim
    · exact hy.elim
  · exact hx.elim
def gRepW : G2 := fun x y => match x, y with
  | .im (.tup []), .im (.int (.ofNat k)) => match Nat.ble k 1000 with
    | true => some (.im (.tup []))
    | false => none
  | x, y => gRepV x y
theorem s2_repW : S2 fRepW gRepW := by
  intro P η x y v dx dy lt hx hy h
  unfold gRepW at h
  split at h
  · rename_i k
    split at h
    · rename_i e
      cases h; cases hx; cases hy
      exact ⟨_, η, by simp only [fRepW, fOr, fRepE, e], Fr.refl _ _, rfl⟩
    · cases h
  · obtain ⟨d, η', e, f, n⟩ := s2_repV lt hx hy h
    refine ⟨d, η', ?_, f, n⟩
    have : fRepE dx dy η = none := by
      unfold gRepV at h
      split at h
      · cases hx; rfl
      · cases h
    simp only [fRepW, fOr, this, e]
/-! ### raise with a payload; try .. except as -/
def psRaiseX (c : Nat) (e : PE) : PS' := fun ρ => (e ρ).bind fun v => match v with
  | .im d => .exc ⟨c, some d⟩
  | _ => .bad
theorem ss_raiseX {c : Nat} {e : CE} {pe : PE} (he : SE e pe) : SS (sRaiseX c e) (psRaiseX c pe) := by
  intro P0 b ρ σ η k R h
  unfold sRaiseX
  refine he R (Rs.imp (Rs.bind_ok h) (fun v hv d η1 f1 s1 n1 => ?_) (fun x hx η' f => hx η' (R.fs f)))
  split at hv
  · cases s1; exact hv η1 (R.fs f1)
  · exact hv.elim
def catchX (c : Nat) (ρ : PEn) : Rs PV → Rs Ou
  | .val _ => .val (.nx ρ)
  | .exc x => match Nat.beq x.c c, x.p with
    | true, some d => .val (.rt (.im d))
    | _, _ => .bad
  | .bad => .bad
  | .all S f => .all S fun v => catchX c ρ (f v)
theorem catchX_ok {c : Nat} {ρ : PEn} {Q : Ou → Prop} {E : Xc → Prop} {r : Rs PV} (h : (catchX c ρ r).ok Q E) : r.ok (fun _ => Q (.nx ρ)) (fun x => Nat.beq x.c c = true ∧ ∃ d, x.p = some d ∧ Q (.rt (.im d))) := by
  induction r with
  | val a => exact h
  | exc x =>
    unfold catchX at h
    split at h
    · rename_i e1 e2; exact ⟨e1, _, e2, h⟩
    · exact h.elim
  | bad => exact h
  | all S f ih => exact fun v hv => ih v (h v hv)
def psTryX (c : Nat) (e : PE) : PS' := fun ρ => catchX c ρ (e ρ)
theorem ss_tryX {c : Nat} {e : CE} {pe : PE} (he : SE e pe) : SS (sTryX c e) (psTryX c pe) := by
  intro P0 b ρ σ η k R h
  unfold sTryX
  refine he R (Rs.imp (catchX_ok h) (fun v hv d η1 f1 s1 n1 => hv σ η1 (R.mono f1) (R.fs f1)) (fun x hx η' f => ?_))
  obtain ⟨e1, d, e2, hx⟩ := hx
  simp only [e1, e2]
  exact hx d η' (R.fs f) rfl
/-! ### three names at once, the third a list -/
theorem frP_im {P0 : Nat → Prop} {e d : D} : frP P0 (.im e) d = P0 := by
  funext q
  apply propext
  refine ⟨fun h => h.elim id (fun z => nomatch z.1), fun h => Or.inl h⟩
def psPar3L (i j l : Nat) (a c e : PE) : PS' := fun ρ => (a ρ).bind fun x => (c ρ).bind fun y => (e ρ).bind fun z => match x, y, stM z with
  | .im w, .im u, some q => .val (.nx (((ρ.set i (some (.im w))).set j (some (.im u))).set l (some q)))
  | _, _, _ => .bad
theorem ss_par3L {i j l : Nat} {a c e : CE} {pa pc pe : PE} (ha : SE a pa) (hc : SE c pc) (he : SE e pe) : SS (sPar3 i j l (cCons a (cCons c (cCons e cNil)))) (psPar3L i j l pa pc pe) := by
  intro P0 b ρ σ η k R h
  rw [w_par3']
  refine ha R (Rs.imp (Rs.bind_ok h) (fun x hx dx η1 f1 s1 n1 => ?_) (fun x hx η' f => hx η' (R.fs f)))
  obtain ⟨R1, dn⟩ := R.hold f1 s1 n1
  refine hc R1 (Rs.imp (Rs.bind_ok hx) (fun y hy dy η2 f2 s2 n2 => ?_) (fun x hx η' f => hx η' (R.fs (f1.trans (dn η' f).1))))
  obtain ⟨R2, dn2⟩ := R1.hold f2 s2 n2
  refine he R2 (Rs.imp (Rs.bind_ok hy) (fun z hz dz η3 f3 s3 n3 => ?_) (fun x hx η' f => hx η' (R.fs (f1.trans (dn η' (f2.trans (dn2 η' f).1)).1))))
  obtain ⟨f3', s2'⟩ := dn2 η3 f3
  split at hz
  · rename_i w u q ez
    obtain rfl : dx = w := s1
    obtain rfl : dy = u := s2
    simp only [frP_im] at *
    obtain ⟨R1', f1', s1'⟩ := R.put2 (i := i) (x := .im dx) (dx := dx) (f1.trans f2) rfl (fun z => nomatch z) rfl (by rw [frP_im]; exact f3) (by rw [frP_im]; exact s3) (by rw [ez]; rfl)
    obtain ⟨R2', f2', s2''⟩ := R1'.put2 (i := j) (x := .im dy) (dx := dy) (Fr.refl _ _) rfl (fun z => nomatch z) rfl (by rw [frP_im]; exact f1') (by rw [frP_im]; exact s1') (by rw [ez]; rfl)
    exact hz _ η3 (R2'.put f2' s2'' n3 ez l) (R.fs ((f1.trans f2).trans f3))
  · exact hz.elim
end PL

/-! words of letters and their backs, in plain words -/
namespace W16
open TN
noncomputable section
abbrev L := Nat × Bool
def inv (x : L) : L := (x.1, !x.2)
theorem inv_inv (x : L) : inv (inv x) = x := by obtain ⟨a, b⟩ := x; simp [inv]
def push (s : List L) (x : L) : List L := if s.getLast? = some (inv x) then s.dropLast else s ++ [x]
def red (w : List L) : List L := w.foldl push []
def und (w : List L) : List L := (w.reverse).map inv
def Red (s : List L) : Prop := ∀ u x v, s ≠ u ++ x :: inv x :: v
theorem last_of {s : List L} {x : L} (h : s.getLast? = some x) : ∃ s0, s = s0 ++ [x] := by
  rcases List.eq_nil_or_concat s with rfl | ⟨s0, y, rfl⟩
  · cases h
  · rw [List.concat_eq_append, List.getLast?_append] at h
    simp at h
    subst h
    exact ⟨s0, List.concat_eq_append⟩
theorem push_back (s : List L) (x : L) : push (s ++ [inv x]) x = s := by
  unfold push
  rw [if_pos (by simp), List.dropLast_concat]
theorem push_app {s : List L} {x : L} (h : ∀ s0, s ≠ s0 ++ [inv x]) : push s x = s ++ [x] := by
  unfold push
  rw [if_neg]
  intro z
  obtain ⟨s0, e⟩ := last_of z
  exact h s0 e
theorem push_cases (s : List L) (x : L) : (∃ s0, s = s0 ++ [inv x] ∧ push s x = s0) ∨ ((∀ s0, s ≠ s0 ++ [inv x]) ∧ push s x = s ++ [x]) := by
  by_cases h : ∃ s0, s = s0 ++ [inv x]
  · obtain ⟨s0, rfl⟩ := h
    exact .inl ⟨s0, rfl, push_back s0 x⟩
  · have h' : ∀ s0, s ≠ s0 ++ [inv x] := fun s0 e => h ⟨s0, e⟩
    exact .inr ⟨h', push_app h'⟩
theorem Red.nil : Red [] := fun u x v e => by cases u <;> cases e
theorem Red.front {s t : List L} (h : Red (s ++ t)) : Red s := fun u x v e => h u x (v ++ t) (by rw [e]; simp)
theorem Red.push {s : List L} (h : Red s) (x : L) : Red (push s x) := by
  rcases push_cases s x with ⟨s0, rfl, e⟩ | ⟨hn, e⟩
  · rw [e]; exact h.front
  · rw [e]
    intro u y v e2
    rcases List.eq_nil_or_concat v with rfl | ⟨v0, z, rfl⟩
    · have : s ++ [x] = (u ++ [y]) ++ [inv y] := by rw [e2]; simp
      obtain ⟨e3, e4⟩ := List.append_inj' this rfl
      have : x = inv y := (List.cons.inj e4).1
      subst this
      exact hn u (by rw [e3, inv_inv])
    · have : s ++ [x] = (u ++ y :: inv y :: v0) ++ [z] := by rw [e2, List.concat_eq_append]; simp
      obtain ⟨e3, _⟩ := List.append_inj' this rfl
      exact h u y v0 e3
theorem Red.fold {s : List L} (h : Red s) : ∀ (w : List L), Red (w.foldl W16.push s)
  | [] => h
  | x :: w => Red.fold (h.push x) w
theorem red_red (w : List L) : Red (red w) := Red.nil.fold w
theorem push_push {s : List L} (h : Red s) (x : L) : push (push s x) (inv x) = s := by
  rcases push_cases s x with ⟨s0, rfl, e⟩ | ⟨hn, e⟩
  · rw [e]
    refine push_app fun s1 e1 => ?_
    rw [inv_inv] at e1
    subst e1
    exact h s1 x [] (by simp)
  · rw [e]
    have := push_back s (inv x)
    rw [inv_inv] at this
    exact this
theorem und_cons (x : L) (w : List L) : und (x :: w) = und w ++ [inv x] := by simp [und]
theorem und_len (w : List L) : (und w).length = w.length := by simp [und]
theorem mem_und {w : List L} {y : L} (h : y ∈ und w) : ∃ x ∈ w, y = inv x := by
  obtain ⟨x, hx, e⟩ := List.mem_map.mp h
  exact ⟨x, List.mem_reverse.mp hx, e.symm⟩
theorem fold_und : ∀ (w : List L) (s : List L), Red s → (und w).foldl push (w.foldl push s) = s
  | [], s, _ => rfl
  | x :: w, s, h => by
    rw [und_cons, List.foldl_append]
    show push ((und w).foldl push (w.foldl push (push s x))) (inv x) = s
    rw [fold_und w (push s x) (h.push x)]
    exact push_push h x
theorem red_und (w : List L) : red (w ++ und w) = [] := by
  unfold red
  rw [List.foldl_append]
  exact fold_und w [] Red.nil
theorem mem_push {s : List L} {x y : L} (h : y ∈ push s x) : y ∈ s ∨ y = x := by
  rcases push_cases s x with ⟨s0, rfl, e⟩ | ⟨_, e⟩
  · rw [e] at h; exact .inl (List.mem_append_left _ h)
  · rw [e] at h
    rcases List.mem_append.mp h with h | h
    · exact .inl h
    · exact .inr (List.mem_singleton.mp h)
theorem mem_fold : ∀ {w s : List L} {y : L}, y ∈ w.foldl push s → y ∈ s ∨ y ∈ w
  | [], s, y, h => .inl h
  | x :: w, s, y, h => by
    rcases mem_fold (w := w) h with h | h
    · rcases mem_push h with h | h
      · exact .inl h
      · exact .inr (by rw [h]; exact .head _)
    · exact .inr (.tail _ h)
theorem mem_red {w : List L} {y : L} (h : y ∈ red w) : y ∈ w := by
  rcases mem_fold h with h | h
  · cases h
  · exact h
theorem push_len (s : List L) (x : L) : (push s x).length ≤ s.length + 1 := by
  rcases push_cases s x with ⟨s0, rfl, e⟩ | ⟨_, e⟩
  · rw [e]; simp; omega
  · rw [e]; simp
theorem fold_len : ∀ (w s : List L), (w.foldl push s).length ≤ s.length + w.length
  | [], s => by simp
  | x :: w, s => by
    have h1 := fold_len w (push s x)
    have h2 := push_len s x
    rw [List.foldl_cons, List.length_cons]
    omega
theorem red_len (w : List L) : (red w).length ≤ w.length := by
  have := fold_len w []
  simpa [red] using this
/-! ### values -/
section
variable {n : Nat} {t : Nat → List Nat}
def tv (t : Nat → List Nat) (x : L) : List Nat := if x.2 then t x.1 else bck (t x.1)
def vf (t : Nat → List Nat) (f : List Nat) (w : List L) : List Nat := w.foldl (fun f x => aft f (tv t x)) f
def val (n : Nat) (t : Nat → List Nat) (w : List L) : List Nat := vf t (List.range n) w
theorem tv_pm (ht : ∀ k, Pm n (t k)) (x : L) : Pm n (tv t x) := by
  unfold tv
  split
  · exact ht _
  · exact (ht _).bck
theorem tv_inv (ht : ∀ k, Pm n (t k)) (x : L) : tv t (inv x) = bck (tv t x) := by
  obtain ⟨k, b⟩ := x
  cases b
  · show t k = bck (bck (t k)); exact (bck_bck (ht k)).symm
  · rfl
theorem vf_pm (ht : ∀ k, Pm n (t k)) : ∀ (w : List L) {f : List Nat}, Pm n f → Pm n (vf t f w)
  | [], f, hf => hf
  | x :: w, f, hf => vf_pm ht w (hf.aft (tv_pm ht x))
theorem val_pm (ht : ∀ k, Pm n (t k)) (w : List L) : Pm n (val n t w) := vf_pm ht w (Pm.id n)
theorem vf_mul (ht : ∀ k, Pm n (t k)) : ∀ (w : List L) {f : List Nat}, Pm n f → vf t f w = aft f (val n t w)
  | [], f, hf => (aft_one hf).symm
  | x :: w, f, hf => by
    have hx := tv_pm ht x
    show vf t (aft f (tv t x)) w = aft f (vf t (aft (List.range n) (tv t x)) w)
    rw [vf_mul ht w (hf.aft hx), one_aft hx, vf_mul ht w hx, aft_assoc hf hx]
theorem val_app (ht : ∀ k, Pm n (t k)) (u w : List L) : val n t (u ++ w) = aft (val n t u) (val n t w) := by
  show (u ++ w).foldl _ _ = _
  rw [List.foldl_append]
  exact vf_mul ht w (val_pm ht u)
theorem val_one (ht : ∀ k, Pm n (t k)) (x : L) : val n t [x] = tv t x := one_aft (tv_pm ht x)
theorem val_push (ht : ∀ k, Pm n (t k)) (s : List L) (x : L) : val n t (push s x) = aft (val n t s) (tv t x) := by
  rcases push_cases s x with ⟨s0, rfl, e⟩ | ⟨_, e⟩
  · rw [e, val_app ht, val_one ht, tv_inv ht, aft_assoc (val_pm ht s0) (tv_pm ht x).bck, bck_aft (tv_pm ht x), aft_one (val_pm ht s0)]
  · rw [e, val_app ht, val_one ht]
theorem val_fold (ht : ∀ k, Pm n (t k)) : ∀ (w s : List L), val n t (w.foldl push s) = aft (val n t s) (val n t w)
  | [], s => (aft_one (val_pm ht s)).symm
  | x :: w, s => by
    rw [List.foldl_cons, val_fold ht w, val_push ht, aft_assoc (val_pm ht s) (tv_pm ht x)]
    have := val_app ht [x] w
    rw [val_one ht] at this
    rw [← this]
    rfl
theorem val_red (ht : ∀ k, Pm n (t k)) (w : List L) : val n t (red w) = val n t w := by
  have := val_fold ht w []
  rw [show val n t [] = List.range n from rfl, one_aft (val_pm ht w)] at this
  exact this
theorem val_und (ht : ∀ k, Pm n (t k)) : ∀ w : List L, val n t (und w) = bck (val n t w)
  | [] => (bck_one n).symm
  | x :: w => by
    rw [und_cons, val_app ht, val_und ht w, val_one ht, tv_inv ht, ← bck_mul (tv_pm ht x) (val_pm ht w)]
    have := val_app ht [x] w
    rw [val_one ht] at this
    rw [← this]
    rfl
/-! powers -/
def pw (n : Nat) (u : List Nat) : Nat → List Nat
  | 0 => List.range n
  | k + 1 => aft (pw n u k) u
theorem pw_pm {a : List Nat} (ha : Pm n a) : ∀ k, Pm n (pw n a k)
  | 0 => Pm.id n
  | k + 1 => (pw_pm ha k).aft ha
theorem pw_add {a : List Nat} (ha : Pm n a) (i : Nat) : ∀ j, pw n a (i + j) = aft (pw n a i) (pw n a j)
  | 0 => (aft_one (pw_pm ha i)).symm
  | j + 1 => by
    show aft (pw n a (i + j)) a = aft (pw n a i) (aft (pw n a j) a)
    rw [pw_add ha i j, aft_assoc (pw_pm ha i) (pw_pm ha j)]
theorem pw_one {a : List Nat} (ha : Pm n a) : pw n a 1 = a := one_aft ha
theorem pw_two {a : List Nat} (ha : Pm n a) : ∀ q, pw n (aft a a) q = pw n a (2 * q)
  | 0 => rfl
  | q + 1 => by
    show aft (pw n (aft a a) q) (aft a a) = aft (aft (pw n a (2 * q)) a) a
    rw [pw_two ha q, aft_assoc (pw_pm ha _) ha]
def pwt (a : List Nat) (p : Int) : List Nat := if 0 ≤ p then a else bck a
def rpw (n : Nat) (a : List Nat) (p : Int) : List Nat := pw n (pwt a p) p.natAbs
def reps (w : List L) (k : Nat) : List L := (List.replicate k w).flatten
theorem reps_succ (w : List L) (k : Nat) : reps w (k + 1) = reps w k ++ w := by
  unfold reps
  rw [List.replicate_succ', List.flatten_append]
  simp
theorem val_reps (ht : ∀ k, Pm n (t k)) (w : List L) : ∀ k, val n t (reps w k) = pw n (val n t w) k
  | 0 => rfl
  | k + 1 => by rw [reps_succ, val_app ht, val_reps ht w k]; rfl
def rept (w : List L) (p : Int) : List L := red (if 0 ≤ p then reps w p.natAbs else reps (und w) p.natAbs)
theorem val_rept (ht : ∀ k, Pm n (t k)) (w : List L) (p : Int) : val n t (rept w p) = rpw n (val n t w) p := by
  unfold rept rpw pwt
  rw [val_red ht]
  split
  · exact val_reps ht w _
  · rw [val_reps ht, val_und ht]
def wcr (u w : List L) : List L := red (((und u ++ und w) ++ u) ++ w)
theorem val_wcr (ht : ∀ k, Pm n (t k)) (u w : List L) : val n t (wcr u w) = aft (aft (bck (val n t u)) (bck (val n t w))) (aft (val n t u) (val n t w)) := by
  unfold wcr
  rw [val_red ht, val_app ht, val_app ht, val_app ht, val_und ht, val_und ht, aft_assoc ((val_pm ht u).bck.aft (val_pm ht w).bck) (val_pm ht u)]
end
/-! ### the shortest front -/
def isPer (s : List L) (k : Nat) : Bool := decide (s.length % k = 0) && decide (reps (s.take k) (s.length / k) = s)
def perOf (s : List L) : Nat → Nat → Nat
  | 0, k => k
  | f + 1, k => if isPer s k then k else perOf s f (k + 1)
theorem perOf_ge (s : List L) : ∀ f k, k ≤ perOf s f k
  | 0, k => Nat.le_refl _
  | f + 1, k => by
    unfold perOf
    split
    · exact Nat.le_refl _
    · exact Nat.le_trans (Nat.le_succ k) (perOf_ge s f (k + 1))
theorem perOf_no (s : List L) : ∀ f k j, k ≤ j → j < perOf s f k → isPer s j = false
  | 0, k, j, h1, h2 => absurd h2 (by unfold perOf; omega)
  | f + 1, k, j, h1, h2 => by
    unfold perOf at h2
    split at h2
    · omega
    · rename_i e
      rcases Nat.lt_or_ge k j with h | h
      · exact perOf_no s f (k + 1) j h h2
      · have : j = k := by omega
        subst this
        exact Bool.eq_false_iff.mpr e
theorem isPer_len {s : List L} (h : s ≠ []) : isPer s s.length = true := by
  unfold isPer
  have : 0 < s.length := List.length_pos_iff.mpr h
  rw [Nat.mod_self, Nat.div_self this, List.take_length]
  simp [reps]
theorem perOf_is {s : List L} (h : s ≠ []) : ∀ f k, 1 ≤ k → k ≤ s.length → s.length ≤ k + f → isPer s (perOf s f k) = true ∧ perOf s f k ≤ s.length
  | 0, k, _, h1, h2 => by
    have : k = s.length := by omega
    subst this
    exact ⟨isPer_len h, Nat.le_refl _⟩
  | f + 1, k, h0, h1, h2 => by
    unfold perOf
    split
    · rename_i e; exact ⟨e, h1⟩
    · rename_i e
      rcases Nat.lt_or_ge k s.length with h3 | h3
      · exact perOf_is h f (k + 1) (by omega) h3 (by omega)
      · have : k = s.length := by omega
        subst this
        exact absurd (isPer_len h) e
def per (s : List L) : Nat := perOf s s.length 1
theorem per_is {s : List L} (h : s ≠ []) : isPer s (per s) = true ∧ per s ≤ s.length ∧ 1 ≤ per s := by
  obtain ⟨a, b⟩ := perOf_is h s.length 1 (Nat.le_refl _) (List.length_pos_iff.mpr h) (by omega)
  exact ⟨a, b, perOf_ge s _ 1⟩
theorem reps_add (w : List L) (a : Nat) : ∀ b, reps w (a + b) = reps w a ++ reps w b
  | 0 => (List.append_nil _).symm
  | b + 1 => by rw [← Nat.add_assoc, reps_succ, reps_succ, reps_add w a b, List.append_assoc]
theorem reps_reps (w : List L) (a : Nat) : ∀ b, reps (reps w a) b = reps w (a * b)
  | 0 => rfl
  | b + 1 => by
    rw [reps_succ, reps_reps w a b, Nat.mul_succ, reps_add]
theorem reps_len (w : List L) : ∀ k, (reps w k).length = k * w.length
  | 0 => by simp [reps]
  | k + 1 => by rw [reps_succ, List.length_append, reps_len w k, Nat.succ_mul]
/-- the shortest front has no shorter one -/
theorem per_prim {s : List L} (h : s ≠ []) {k : Nat} (h1 : 1 ≤ k) (h2 : k < per s) : isPer (s.take (per s)) k = false := by
  obtain ⟨a, b, c⟩ := per_is h
  refine Bool.eq_false_iff.mpr fun e => ?_
  have hno := perOf_no s s.length 1 k h1 h2
  refine absurd ?_ (Bool.eq_false_iff.mp hno)
  unfold isPer at a e ⊢
  simp only [Bool.and_eq_true, decide_eq_true_eq] at a e ⊢
  have hl : (s.take (per s)).length = per s := by rw [List.length_take]; omega
  rw [hl] at e
  obtain ⟨a1, a2⟩ := a
  obtain ⟨e1, e2⟩ := e
  have t1 : (s.take (per s)).take k = s.take k := by rw [List.take_take, Nat.min_eq_left (by omega)]
  rw [t1] at e2
  obtain ⟨p, hp⟩ := Nat.dvd_of_mod_eq_zero a1
  obtain ⟨q, hq⟩ := Nat.dvd_of_mod_eq_zero e1
  have d1 : s.length / per s = p := by rw [hp]; exact Nat.mul_div_cancel_left _ (by omega)
  have d2 : per s / k = q := by rw [hq]; exact Nat.mul_div_cancel_left _ (by omega)
  have hs : s.length = k * (q * p) := by rw [hp]; rw [← Nat.mul_assoc, ← hq]
  refine ⟨by rw [hs]; exact Nat.mul_mod_right _ _, ?_⟩
  have d3 : s.length / k = q * p := by rw [hs]; exact Nat.mul_div_cancel_left _ (by omega)
  rw [d3, ← reps_reps]
  rw [d2] at e2
  rw [d1] at a2
  rw [e2, a2]
end
end W16

/-! law_k16_words_and_backs: the defs (printed by pure.py) -/
namespace T16
open PySem PySem.Spec L2 DL PL
abbrev F__law_roll : CF := fRoll
def b_read : CS := (sSeq (sFor (ciEnumS (cCons (cVar 0) cNil)) (gTp 2 (gsCons (gNm 1) (gsCons (gNm 2) gsNil))) (sIf (cTst (cOp fNotInS (cTx0 Txt.lower (cVar 2)) (cC (.str "abcdefgh")))) (sRaiseX 1 (cVar 1)) sNil)) (sRet (cFn (f1 gTuple) (cCons (cLc (ciStr (cVar 0)) (gNm 2) ctYes (cTup (cCons (cIdxS (cC (.str "abcdefgh")) (cTx0 Txt.lower (cVar 2))) (cCons (cIf (cTst (cOp fEq (cTx0 Txt.lower (cVar 2)) (cVar 2))) (cC (.int 1)) (cNeg (cC (.int 1)))) cNil))) [2]) cNil))))
abbrev F_read : CF := cDef 1 3 b_read
def p_read : PS' := (psSeq (psFor (pEnumS (pVar 0)) (pTp 2 (pgCons (pNm 1) (pgCons (pNm 2) pgNil))) (psIf (pTst (pOp gNotInS (pTx0 Txt.lower (pVar 2)) (pC (.str "abcdefgh")))) (psRaiseX 1 (pVar 1)) psNil)) (psRet (pFn hTuple (pLc (pStrI (pVar 0)) (pNm 2) pYes (pTup (pCons (pIdxS (pC (.str "abcdefgh")) (pTx0 Txt.lower (pVar 2))) (pCons (pIf (pTst (pOp gEq (pTx0 Txt.lower (pVar 2)) (pVar 2))) (pC (.int 1)) (p1 nNeg (pC (.int 1)))) pNil))) [2]))))
theorem sp_read : SS b_read p_read := (ss_seq (ss_for (si_enumS se_var) (sg_tp (sgs_cons sg_nm (sgs_cons sg_nm sgs_nil))) (ss_if (st_tst (se_op s2_notInS (se_tx0 se_var) se_c)) (ss_raiseX se_var) ss_nil)) (ss_ret (se_fn s1_tuple (se_lc (si_str se_var) sg_nm st_yes (se_tup (sa_cons (se_idxS se_c (se_tx0 se_var)) (sa_cons (se_if (st_tst (se_op s2_eq (se_tx0 se_var) se_var)) se_c (se_neg se_c)) sa_nil)))))))
def q_read : PFn := pDef 1 3 p_read
theorem sf_read : SF F_read q_read := sf_def sp_read
def b__law_place : CS := (sSeq (sTryX 1 (cCall F_read (cCons (cVar 0) cNil))) (sRet (cC (.str "read"))))
abbrev F__law_place : CF := cDef 1 2 b__law_place
def p__law_place : PS' := (psSeq (psTryX 1 (pCall q_read (pCons (pVar 0) pNil))) (psRet (pC (.str "read"))))
theorem sp__law_place : SS b__law_place p__law_place := (ss_seq (ss_tryX (se_call sf_read (sa_cons se_var sa_nil))) (ss_ret se_c))
def q__law_place : PFn := pDef 1 2 p__law_place
theorem sf__law_place : SF F__law_place q__law_place := sf_def sp__law_place
def b__law_turn : CS := (sSeq (sAsg (cLstR (crg1 (cVar 1))) (gNm 2)) (sSeq (sAsg (cLst cNil) (gNm 3)) (sSeq (sWhile (cTst (cOp fNe (cVar 2) (cLst cNil))) (sExpr (cMt fAppend (cVar 3) (cCons (cMt fPopAt (cVar 2) (cCons (cCall F__law_roll (cCons (cVar 0) (cCons (cFn (f1 gLenA) (cCons (cVar 2) cNil)) cNil))) cNil)) cNil)))) (sRet (cFn (f1 gTuple) (cCons (cVar 3) cNil))))))
abbrev F__law_turn : CF := cDef 2 4 b__law_turn
def p__law_turn : PS' := (psSeq (psSet (pLstR (pC (.int 0)) (pVar 1)) 2) (psSeq (psSet (pLst pNil) 3) (psSeq (psWhile (pTst (pOp gNe (pVar 2) (pLst pNil))) (psExpr (pxMtX mApp 3 (pxMt mPopAt 2 (pCons (pCall qRoll (pCons (pVar 0) (pCons (pFn hLen (pVar 2)) pNil))) pNil))))) (psRet (pFn hTuple (pVar 3))))))
theorem sp__law_turn : SS b__law_turn p__law_turn := (ss_seq (ss_set (se_lstR1 se_var)) (ss_seq (ss_set (se_lst sa_nil)) (ss_seq (ss_while (st_tst (se_op s2_ne se_var (se_lst sa_nil))) (ss_expr (sx_mtX sm_app (sx_mt sm_popAt (sa_cons (se_call sf_roll (sa_cons se_var (sa_cons (se_fn s1_len se_var) sa_nil))) sa_nil))))) (ss_ret (se_fn s1_tuple se_var)))))
def q__law_turn : PFn := pDef 2 4 p__law_turn
theorem sf__law_turn : SF F__law_turn q__law_turn := sf_def sp__law_turn
def b__law_word : CS := (sRet (cFn (f1 gTuple) (cCons (cLc (ciR1 (cCons (cCall F__law_roll (cCons (cVar 0) (cCons (cOp fAdd (cVar 2) (cC (.int 1))) cNil))) cNil)) (gNm 3) ctYes (cTup (cCons (cCall F__law_roll (cCons (cVar 0) (cCons (cVar 1) cNil))) (cCons (cOp fIx (cLst (cCons (cC (.int 1)) (cCons (cOp fSub (cC (.int 0)) (cC (.int 1))) cNil))) (cCall F__law_roll (cCons (cVar 0) (cCons (cC (.int 2)) cNil)))) cNil))) [3]) cNil)))
abbrev F__law_word : CF := cDef 3 4 b__law_word
def p__law_word : PS' := (psRet (pFn hTuple (pLc (pR1 (pCall qRoll (pCons (pVar 0) (pCons (pOp gAdd (pVar 2) (pC (.int 1))) pNil)))) (pNm 3) pYes (pTup (pCons (pCall qRoll (pCons (pVar 0) (pCons (pVar 1) pNil))) (pCons (pOp gIx (pLst (pCons (pC (.int 1)) (pCons (pOp (gI isub) (pC (.int 0)) (pC (.int 1))) pNil))) (pCall qRoll (pCons (pVar 0) (pCons (pC (.int 2)) pNil)))) pNil))) [3])))
theorem sp__law_word : SS b__law_word p__law_word := (ss_ret (se_fn s1_tuple (se_lc (si_r1 (se_call sf_roll (sa_cons se_var (sa_cons (se_op s2_add se_var se_c) sa_nil)))) sg_nm st_yes (se_tup (sa_cons (se_call sf_roll (sa_cons se_var (sa_cons se_var sa_nil))) (sa_cons (se_op s2_ix (se_lst (sa_cons se_c (sa_cons (se_op s2_i se_c se_c) sa_nil))) (se_call sf_roll (sa_cons se_var (sa_cons se_c sa_nil)))) sa_nil))))))
def q__law_word : PFn := pDef 3 4 p__law_word
theorem sf__law_word : SF F__law_word q__law_word := sf_def sp__law_word
def b_after : CS := (sRet (cFn (f1 gTuple) (cCons (cLc (ciSeq (cVar 0)) (gNm 2) ctYes (cOp fIx (cVar 1) (cVar 2)) [2]) cNil)))
abbrev F_after : CF := cDef 2 3 b_after
def p_after : PS' := (psRet (pFn hTuple (pLc (pSeqV 0) (pNm 2) pYes (pOp gIx (pVar 1) (pVar 2)) [2])))
theorem sp_after : SS b_after p_after := (ss_ret (se_fn s1_tuple (se_lc si_var sg_nm st_yes (se_op s2_ix se_var se_var))))
def q_after : PFn := pDef 2 3 p_after
theorem sf_after : SF F_after q_after := sf_def sp_after
def b_back : CS := (sSeq (sAsg (cOp fMul (cLst (cCons (cC (.int 0)) cNil)) (cFn (f1 gLenA) (cCons (cVar 0) cNil))) (gNm 1)) (sSeq (sFor (ciEnum (cCons (cVar 0) cNil)) (gTp 2 (gsCons (gNm 2) (gsCons (gNm 3) gsNil))) (sAsg (cVar 2) (gSb (cVar 1) (cVar 3)))) (sRet (cFn (f1 gTuple) (cCons (cVar 1) cNil)))))
abbrev F_back : CF := cDef 1 4 b_back
def p_back : PS' := (psSeq (psSet (pOp gMul (pLst (pCons (pC (.int 0)) pNil)) (pFn hLen (pVar 0))) 1) (psSeq (psFor (pEnum (pVar 0)) (pTp 2 (pgCons (pNm 2) (pgCons (pNm 3) pgNil))) (psStore (pVar 2) 1 (pVar 3))) (psRet (pFn hTuple (pVar 1)))))
theorem sp_back : SS b_back p_back := (ss_seq (ss_set (se_op s2_mul (se_lst (sa_cons se_c sa_nil)) (se_fn s1_len se_var))) (ss_seq (ss_for (si_enum se_var) (sg_tp (sgs_cons sg_nm (sgs_cons sg_nm sgs_nil))) (ss_store se_var se_var)) (ss_ret (se_fn s1_tuple se_var))))
def q_back : PFn := pDef 1 4 p_back
theorem sf_back : SF F_back q_back := sf_def sp_back
def b_short : CS := (sSeq (sAsg (cLst cNil) (gNm 1)) (sSeq (sFor (ciSeq (cVar 0)) (gTp 2 (gsCons (gNm 2) (gsCons (gNm 3) gsNil))) (sIf (ctAnd (cTst (cOp fNe (cVar 1) (cLst cNil))) (cTst (cOp fEq (cOp fIx (cVar 1) (cNeg (cC (.int 1)))) (cTup (cCons (cVar 2) (cCons (cNeg (cVar 3)) cNil)))))) (sExpr (cMt0 fPop (cVar 1))) (sExpr (cMt fAppend (cVar 1) (cCons (cTup (cCons (cVar 2) (cCons (cVar 3) cNil))) cNil))))) (sRet (cFn (f1 gTuple) (cCons (cVar 1) cNil)))))
abbrev F_short : CF := cDef 1 4 b_short
def p_short : PS' := (psSeq (psSet (pLst pNil) 1) (psSeq (psFor (pSeqV 0) (pTp 2 (pgCons (pNm 2) (pgCons (pNm 3) pgNil))) (psIf (pAndT (pTst (pOp gNe (pVar 1) (pLst pNil))) (pTst (pOp gEq (pOp gIx (pVar 1) (p1 nNeg (pC (.int 1)))) (pTup (pCons (pVar 2) (pCons (p1 nNeg (pVar 3)) pNil)))))) (psExpr (pxMt0 mPop 1)) (psExpr (pxMt mApp 1 (pCons (pTup (pCons (pVar 2) (pCons (pVar 3) pNil))) pNil))))) (psRet (pFn hTuple (pVar 1)))))
theorem sp_short : SS b_short p_short := (ss_seq (ss_set (se_lst sa_nil)) (ss_seq (ss_for si_var (sg_tp (sgs_cons sg_nm (sgs_cons sg_nm sgs_nil))) (ss_if (st_and (st_tst (se_op s2_ne se_var (se_lst sa_nil))) (st_tst (se_op s2_eq (se_op s2_ix se_var (se_neg se_c)) (se_tup (sa_cons se_var (sa_cons (se_neg se_var) sa_nil)))))) (ss_expr (sx_mt0 sm_pop)) (ss_expr (sx_mt sm_app (sa_cons (se_tup (sa_cons se_var (sa_cons se_var sa_nil))) sa_nil))))) (ss_ret (se_fn s1_tuple se_var))))
def q_short : PFn := pDef 1 4 p_short
theorem sf_short : SF F_short q_short := sf_def sp_short
def b_bring_out : CS := (sSeq (sAsg (cCall F_short (cCons (cVar 0) cNil)) (gNm 0)) (sSeq (sIf (cTst (cOp fEq (cVar 0) (cTup cNil))) (sRaise 2) sNil) (sSeq (sFor (ciR2 (cCons (cC (.int 1)) (cCons (cOp fAdd (cFn (f1 gLenA) (cCons (cVar 0) cNil)) (cC (.int 1))) cNil))) (gNm 1) (sIf (ctAnd (cTst (cOp fEq (cOp fMod (cFn (f1 gLenA) (cCons (cVar 0) cNil)) (cVar 1)) (cC (.int 0)))) (cTst (cOp fEq (cOp fRepW (cSl (cVar 0) coN (coS (cVar 1))) (cOp fDiv (cFn (f1 gLenA) (cCons (cVar 0) cNil)) (cVar 1))) (cVar 0)))) (sRet (cTup (cCons (cSl (cVar 0) coN (coS (cVar 1))) (cCons (cOp fDiv (cFn (f1 gLenA) (cCons (cVar 0) cNil)) (cVar 1)) cNil)))) sNil)) (sRet (cTup (cCons (cVar 0) (cCons (cC (.int 1)) cNil)))))))
abbrev F_bring_out : CF := cDef 1 2 b_bring_out
def p_bring_out : PS' := (psSeq (psSet (pCall q_short (pCons (pVar 0) pNil)) 0) (psSeq (psIf (pTst (pOp gEq (pVar 0) (pTup pNil))) (psRaise 2) psNil) (psSeq (psFor (pR2 (pC (.int 1)) (pOp gAdd (pFn hLen (pVar 0)) (pC (.int 1)))) (pNm 1) (psIf (pAndT (pTst (pOp gEq (pOp (gIc modOk imod) (pFn hLen (pVar 0)) (pVar 1)) (pC (.int 0)))) (pTst (pOp gEq (pOp gRepW (pSl (pVar 0) poN (poS (pVar 1))) (pOp (gIc divOk idiv) (pFn hLen (pVar 0)) (pVar 1))) (pVar 0)))) (psRet (pTup (pCons (pSl (pVar 0) poN (poS (pVar 1))) (pCons (pOp (gIc divOk idiv) (pFn hLen (pVar 0)) (pVar 1)) pNil)))) psNil)) (psRet (pTup (pCons (pVar 0) (pCons (pC (.int 1)) pNil)))))))
theorem sp_bring_out : SS b_bring_out p_bring_out := (ss_seq (ss_set (se_call sf_short (sa_cons se_var sa_nil))) (ss_seq (ss_if (st_tst (se_op s2_eq se_var (se_tup sa_nil))) ss_raise ss_nil) (ss_seq (ss_for (si_r2 se_c (se_op s2_add (se_fn s1_len se_var) se_c)) sg_nm (ss_if (st_and (st_tst (se_op s2_eq (se_op s2_ic (se_fn s1_len se_var) se_var) se_c)) (st_tst (se_op s2_eq (se_op s2_repW (se_sl se_var so_n (so_s se_var)) (se_op s2_ic (se_fn s1_len se_var) se_var)) se_var))) (ss_ret (se_tup (sa_cons (se_sl se_var so_n (so_s se_var)) (sa_cons (se_op s2_ic (se_fn s1_len se_var) se_var) sa_nil)))) ss_nil)) (ss_ret (se_tup (sa_cons se_var (sa_cons se_c sa_nil)))))))
def q_bring_out : PFn := pDef 1 2 p_bring_out
theorem sf_bring_out : SF F_bring_out q_bring_out := sf_def sp_bring_out
def b_crossing : CS := (sRet (cCall F_after (cCons (cCall F_after (cCons (cCall F_back (cCons (cVar 0) cNil)) (cCons (cCall F_back (cCons (cVar 1) cNil)) cNil))) (cCons (cCall F_after (cCons (cVar 0) (cCons (cVar 1) cNil))) cNil))))
abbrev F_crossing : CF := cDef 2 2 b_crossing
def p_crossing : PS' := (psRet (pCall q_after (pCons (pCall q_after (pCons (pCall q_back (pCons (pVar 0) pNil)) (pCons (pCall q_back (pCons (pVar 1) pNil)) pNil))) (pCons (pCall q_after (pCons (pVar 0) (pCons (pVar 1) pNil))) pNil))))
theorem sp_crossing : SS b_crossing p_crossing := (ss_ret (se_call sf_after (sa_cons (se_call sf_after (sa_cons (se_call sf_back (sa_cons se_var sa_nil)) (sa_cons (se_call sf_back (sa_cons se_var sa_nil)) sa_nil))) (sa_cons (se_call sf_after (sa_cons se_var (sa_cons se_var sa_nil))) sa_nil))))
def q_crossing : PFn := pDef 2 2 p_crossing
theorem sf_crossing : SF F_crossing q_crossing := sf_def sp_crossing
def b_still : CS := (sRet (cTupR (crg1 (cVar 0))))
abbrev F_still : CF := cDef 1 1 b_still
def p_still : PS' := (psRet (pTupR (pC (.int 0)) (pVar 0)))
theorem sp_still : SS b_still p_still := (ss_ret (se_tupR1 se_var))
def q_still : PFn := pDef 1 1 p_still
theorem sf_still : SF F_still q_still := sf_def sp_still
def b_raised : CS := (sSeq (sIf (cTst (cOp (fB2 ilt) (cVar 1) (cC (.int 0)))) (sPar 0 1 (cCons (cCall F_back (cCons (cVar 0) cNil)) (cCons (cNeg (cVar 1)) cNil))) sNil) (sSeq (sAsg (cCall F_still (cCons (cFn (f1 gLenA) (cCons (cVar 0) cNil)) cNil)) (gNm 2)) (sSeq (sWhile (cTst (cOp (fB2 igt) (cVar 1) (cC (.int 0)))) (sSeq (sIf (cTst (cOp fEq (cOp fMod (cVar 1) (cC (.int 2))) (cC (.int 1)))) (sAsg (cCall F_after (cCons (cVar 2) (cCons (cVar 0) cNil))) (gNm 2)) sNil) (sSeq (sAsg (cCall F_after (cCons (cVar 0) (cCons (cVar 0) cNil))) (gNm 0)) (sAug 1 (fI2c divOk idiv) (cC (.int 2)))))) (sRet (cVar 2)))))
abbrev F_raised : CF := cDef 2 3 b_raised
def p_raised : PS' := (psSeq (psIf (pTst (pOp (gB ilt) (pVar 1) (pC (.int 0)))) (psPar 0 1 (pCall q_back (pCons (pVar 0) pNil)) (p1 nNeg (pVar 1))) psNil) (psSeq (psSet (pCall q_still (pCons (pFn hLen (pVar 0)) pNil)) 2) (psSeq (psWhile (pTst (pOp (gB igt) (pVar 1) (pC (.int 0)))) (psSeq (psIf (pTst (pOp gEq (pOp (gIc modOk imod) (pVar 1) (pC (.int 2))) (pC (.int 1)))) (psSet (pCall q_after (pCons (pVar 2) (pCons (pVar 0) pNil))) 2) psNil) (psSeq (psSet (pCall q_after (pCons (pVar 0) (pCons (pVar 0) pNil))) 0) (psAug 1 (gIc divOk idiv) (pC (.int 2)))))) (psRet (pVar 2)))))
theorem sp_raised : SS b_raised p_raised := (ss_seq (ss_if (st_tst (se_op s2_b se_var se_c)) (ss_par (se_call sf_back (sa_cons se_var sa_nil)) (se_neg se_var)) ss_nil) (ss_seq (ss_set (se_call sf_still (sa_cons (se_fn s1_len se_var) sa_nil))) (ss_seq (ss_while (st_tst (se_op s2_b se_var se_c)) (ss_seq (ss_if (st_tst (se_op s2_eq (se_op s2_ic se_var se_c) se_c)) (ss_set (se_call sf_after (sa_cons se_var (sa_cons se_var sa_nil)))) ss_nil) (ss_seq (ss_set (se_call sf_after (sa_cons se_var (sa_cons se_var sa_nil)))) (ss_aug s2_ic se_c)))) (ss_ret se_var))))
def q_raised : PFn := pDef 2 3 p_raised
theorem sf_raised : SF F_raised q_raised := sf_def sp_raised
def b_undone : CS := (sRet (cFn (f1 gTuple) (cCons (cLc (ciRev (cVar 0)) (gTp 2 (gsCons (gNm 1) (gsCons (gNm 2) gsNil))) ctYes (cTup (cCons (cVar 1) (cCons (cNeg (cVar 2)) cNil))) [1, 2]) cNil)))
abbrev F_undone : CF := cDef 1 3 b_undone
def p_undone : PS' := (psRet (pFn hTuple (pLc (pRevV 0) (pTp 2 (pgCons (pNm 1) (pgCons (pNm 2) pgNil))) pYes (pTup (pCons (pVar 1) (pCons (p1 nNeg (pVar 2)) pNil))) [1, 2])))
theorem sp_undone : SS b_undone p_undone := (ss_ret (se_fn s1_tuple (se_lc si_revV (sg_tp (sgs_cons sg_nm (sgs_cons sg_nm sgs_nil))) st_yes (se_tup (sa_cons se_var (sa_cons (se_neg se_var) sa_nil))))))
def q_undone : PFn := pDef 1 3 p_undone
theorem sf_undone : SF F_undone q_undone := sf_def sp_undone
def b_repeated : CS := (sRet (cCall F_short (cCons (cIf (cTst (cOp (fB2 ige) (cVar 1) (cC (.int 0)))) (cOp fRepW (cVar 0) (cVar 1)) (cOp fRepW (cCall F_undone (cCons (cVar 0) cNil)) (cNeg (cVar 1)))) cNil)))
abbrev F_repeated : CF := cDef 2 2 b_repeated
def p_repeated : PS' := (psRet (pCall q_short (pCons (pIf (pTst (pOp (gB ige) (pVar 1) (pC (.int 0)))) (pOp gRepW (pVar 0) (pVar 1)) (pOp gRepW (pCall q_undone (pCons (pVar 0) pNil)) (p1 nNeg (pVar 1)))) pNil)))
theorem sp_repeated : SS b_repeated p_repeated := (ss_ret (se_call sf_short (sa_cons (se_if (st_tst (se_op s2_b se_var se_c)) (se_op s2_repW se_var se_var) (se_op s2_repW (se_call sf_undone (sa_cons se_var sa_nil)) (se_neg se_var))) sa_nil)))
def q_repeated : PFn := pDef 2 2 p_repeated
theorem sf_repeated : SF F_repeated q_repeated := sf_def sp_repeated
def b_told : CS := (sRet (cJoin (cC (.str "")) (cLc (ciSeq (cVar 0)) (gTp 2 (gsCons (gNm 1) (gsCons (gNm 2) gsNil))) ctYes (cIf (cTst (cOp fEq (cVar 2) (cC (.int 1)))) (cOp fIxS (cC (.str "abcdefgh")) (cVar 1)) (cTx0 Txt.upper (cOp fIxS (cC (.str "abcdefgh")) (cVar 1)))) [1, 2])))
abbrev F_told : CF := cDef 1 3 b_told
def p_told : PS' := (psRet (pJoin (pC (.str "")) (pLc (pSeqV 0) (pTp 2 (pgCons (pNm 1) (pgCons (pNm 2) pgNil))) pYes (pIf (pTst (pOp gEq (pVar 2) (pC (.int 1)))) (pOp gIxS (pC (.str "abcdefgh")) (pVar 1)) (pTx0 Txt.upper (pOp gIxS (pC (.str "abcdefgh")) (pVar 1)))) [1, 2])))
theorem sp_told : SS b_told p_told := (ss_ret (se_join se_c (se_lc si_var (sg_tp (sgs_cons sg_nm (sgs_cons sg_nm sgs_nil))) st_yes (se_if (st_tst (se_op s2_eq se_var se_c)) (se_op s2_ixS se_c se_var) (se_tx0 (se_op s2_ixS se_c se_var))))))
def q_told : PFn := pDef 1 3 p_told
theorem sf_told : SF F_told q_told := sf_def sp_told
def b_value : CS := (sSeq (sAsg (cCall F_still (cCons (cVar 2) cNil)) (gNm 3)) (sSeq (sFor (ciSeq (cVar 0)) (gTp 2 (gsCons (gNm 4) (gsCons (gNm 5) gsNil))) (sAsg (cCall F_after (cCons (cVar 3) (cCons (cIf (cTst (cOp fEq (cVar 5) (cC (.int 1)))) (cOp fIx (cVar 1) (cVar 4)) (cCall F_back (cCons (cOp fIx (cVar 1) (cVar 4)) cNil))) cNil))) (gNm 3))) (sRet (cVar 3))))
abbrev F_value : CF := cDef 3 6 b_value
def p_value : PS' := (psSeq (psSet (pCall q_still (pCons (pVar 2) pNil)) 3) (psSeq (psFor (pSeqV 0) (pTp 2 (pgCons (pNm 4) (pgCons (pNm 5) pgNil))) (psSet (pCall q_after (pCons (pVar 3) (pCons (pIf (pTst (pOp gEq (pVar 5) (pC (.int 1)))) (pOp gIx (pVar 1) (pVar 4)) (pCall q_back (pCons (pOp gIx (pVar 1) (pVar 4)) pNil))) pNil))) 3)) (psRet (pVar 3))))
theorem sp_value : SS b_value p_value := (ss_seq (ss_set (se_call sf_still (sa_cons se_var sa_nil))) (ss_seq (ss_for si_var (sg_tp (sgs_cons sg_nm (sgs_cons sg_nm sgs_nil))) (ss_set (se_call sf_after (sa_cons se_var (sa_cons (se_if (st_tst (se_op s2_eq se_var se_c)) (se_op s2_ix se_var se_var) (se_call sf_back (sa_cons (se_op s2_ix se_var se_var) sa_nil))) sa_nil))))) (ss_ret se_var)))
def q_value : PFn := pDef 3 6 p_value
theorem sf_value : SF F_value q_value := sf_def sp_value
def b_word_crossing : CS := (sRet (cCall F_short (cCons (cOp fAdd (cOp fAdd (cOp fAdd (cCall F_undone (cCons (cVar 0) cNil)) (cCall F_undone (cCons (cVar 1) cNil))) (cVar 0)) (cVar 1)) cNil)))
abbrev F_word_crossing : CF := cDef 2 2 b_word_crossing
def p_word_crossing : PS' := (psRet (pCall q_short (pCons (pOp gAdd (pOp gAdd (pOp gAdd (pCall q_undone (pCons (pVar 0) pNil)) (pCall q_undone (pCons (pVar 1) pNil))) (pVar 0)) (pVar 1)) pNil)))
theorem sp_word_crossing : SS b_word_crossing p_word_crossing := (ss_ret (se_call sf_short (sa_cons (se_op s2_add (se_op s2_add (se_op s2_add (se_call sf_undone (sa_cons se_var sa_nil)) (se_call sf_undone (sa_cons se_var sa_nil))) se_var) se_var) sa_nil)))
def q_word_crossing : PFn := pDef 2 2 p_word_crossing
theorem sf_word_crossing : SF F_word_crossing q_word_crossing := sf_def sp_word_crossing
def s_0 : CS := (sPar3 2 3 4 (cCons (cCall F__law_word (cCons (cVar 1) (cCons (cC (.int 3)) (cCons (cC (.int 8)) cNil)))) (cCons (cCall F__law_word (cCons (cVar 1) (cCons (cC (.int 3)) (cCons (cC (.int 8)) cNil)))) (cCons (cLc (ciR1 (cCons (cC (.int 3)) cNil)) (gNm 14) ctYes (cCall F__law_turn (cCons (cVar 1) (cCons (cC (.int 5)) cNil))) [14]) cNil))))
def t_0 : PS' := (psPar3L 2 3 4 (pCall q__law_word (pCons (pVar 1) (pCons (pC (.int 3)) (pCons (pC (.int 8)) pNil)))) (pCall q__law_word (pCons (pVar 1) (pCons (pC (.int 3)) (pCons (pC (.int 8)) pNil)))) (pLc (pR1 (pC (.int 3))) (pNm 14) pYes (pCall q__law_turn (pCons (pVar 1) (pCons (pC (.int 5)) pNil))) [14]))
theorem st_0 : SS s_0 t_0 := (ss_par3L (se_call sf__law_word (sa_cons se_var (sa_cons se_c (sa_cons se_c sa_nil)))) (se_call sf__law_word (sa_cons se_var (sa_cons se_c (sa_cons se_c sa_nil)))) (se_lc (si_r1 se_c) sg_nm st_yes (se_call sf__law_turn (sa_cons se_var (sa_cons se_c sa_nil)))))
def s_1 : CS := (sPar 5 6 (cCons (cCall F_value (cCons (cVar 2) (cCons (cVar 4) (cCons (cC (.int 5)) cNil)))) (cCons (cCall F_value (cCons (cVar 3) (cCons (cVar 4) (cCons (cC (.int 5)) cNil)))) cNil)))
def t_1 : PS' := (psPar 5 6 (pCall q_value (pCons (pVar 2) (pCons (pVar 4) (pCons (pC (.int 5)) pNil)))) (pCall q_value (pCons (pVar 3) (pCons (pVar 4) (pCons (pC (.int 5)) pNil)))))
theorem st_1 : SS s_1 t_1 := (ss_par (se_call sf_value (sa_cons se_var (sa_cons se_var (sa_cons se_c sa_nil)))) (se_call sf_value (sa_cons se_var (sa_cons se_var (sa_cons se_c sa_nil)))))
def s_2 : CS := (sAsg (cCall F_still (cCons (cC (.int 5)) cNil)) (gNm 7))
def t_2 : PS' := (psSet (pCall q_still (pCons (pC (.int 5)) pNil)) 7)
theorem st_2 : SS s_2 t_2 := (ss_set (se_call sf_still (sa_cons se_c sa_nil)))
def s_3 : CS := (sFor (ciSeq (cVar 2)) (gTp 2 (gsCons (gNm 8) (gsCons (gNm 9) gsNil))) (sAsg (cCall F_after (cCons (cVar 7) (cCons (cIf (cTst (cOp fEq (cVar 9) (cC (.int 1)))) (cOp fIx (cVar 4) (cVar 8)) (cCall F_back (cCons (cOp fIx (cVar 4) (cVar 8)) cNil))) cNil))) (gNm 7)))
def t_3 : PS' := (psFor (pSeqV 2) (pTp 2 (pgCons (pNm 8) (pgCons (pNm 9) pgNil))) (psSet (pCall q_after (pCons (pVar 7) (pCons (pIf (pTst (pOp gEq (pVar 9) (pC (.int 1)))) (pOp gIx (pVar 4) (pVar 8)) (pCall q_back (pCons (pOp gIx (pVar 4) (pVar 8)) pNil))) pNil))) 7))
theorem st_3 : SS s_3 t_3 := (ss_for si_var (sg_tp (sgs_cons sg_nm (sgs_cons sg_nm sgs_nil))) (ss_set (se_call sf_after (sa_cons se_var (sa_cons (se_if (st_tst (se_op s2_eq se_var se_c)) (se_op s2_ix se_var se_var) (se_call sf_back (sa_cons (se_op s2_ix se_var se_var) sa_nil))) sa_nil)))))
def s_4 : CS := (sAsg (cCall F_short (cCons (cVar 2) cNil)) (gNm 10))
def t_4 : PS' := (psSet (pCall q_short (pCons (pVar 2) pNil)) 10)
theorem st_4 : SS s_4 t_4 := (ss_set (se_call sf_short (sa_cons se_var sa_nil)))
def s_5 : CS := (sIf (ctOr (cTst (cOp fNe (cVar 5) (cVar 7))) (cTst (cOp fNe (cCall F_value (cCons (cVar 10) (cCons (cVar 4) (cCons (cC (.int 5)) cNil)))) (cVar 5)))) (sRet (cC (.bl false))) sNil)
def t_5 : PS' := (psIf (pOrT (pTst (pOp gNe (pVar 5) (pVar 7))) (pTst (pOp gNe (pCall q_value (pCons (pVar 10) (pCons (pVar 4) (pCons (pC (.int 5)) pNil)))) (pVar 5)))) (psRet (pC (.bl false))) psNil)
theorem st_5 : SS s_5 t_5 := (ss_if (st_or (st_tst (se_op s2_ne se_var se_var)) (st_tst (se_op s2_ne (se_call sf_value (sa_cons se_var (sa_cons se_var (sa_cons se_c sa_nil)))) se_var))) (ss_ret se_c) ss_nil)
def s_6 : CS := (sIf (cTst (cOp fNe (cLc (ciR2 (cCons (cC (.int 1)) (cCons (cFn (f1 gLenA) (cCons (cVar 10) cNil)) cNil))) (gNm 14) (cTst (cOp fEq (cOp fIx (cVar 10) (cVar 14)) (cTup (cCons (cOp fIx (cOp fIx (cVar 10) (cOp fSub (cVar 14) (cC (.int 1)))) (cC (.int 0))) (cCons (cOp fSub (cC (.int 0)) (cOp fIx (cOp fIx (cVar 10) (cOp fSub (cVar 14) (cC (.int 1)))) (cC (.int 1)))) cNil))))) (cVar 14) [14]) (cLst cNil))) (sRet (cC (.bl false))) sNil)
def t_6 : PS' := (psIf (pTst (pOp gNe (pLc (pR2 (pC (.int 1)) (pFn hLen (pVar 10))) (pNm 14) (pTst (pOp gEq (pOp gIx (pVar 10) (pVar 14)) (pTup (pCons (pOp gIx (pOp gIx (pVar 10) (pOp (gI isub) (pVar 14) (pC (.int 1)))) (pC (.int 0))) (pCons (pOp (gI isub) (pC (.int 0)) (pOp gIx (pOp gIx (pVar 10) (pOp (gI isub) (pVar 14) (pC (.int 1)))) (pC (.int 1)))) pNil))))) (pVar 14) [14]) (pLst pNil))) (psRet (pC (.bl false))) psNil)
theorem st_6 : SS s_6 t_6 := (ss_if (st_tst (se_op s2_ne (se_lc (si_r2 se_c (se_fn s1_len se_var)) sg_nm (st_tst (se_op s2_eq (se_op s2_ix se_var se_var) (se_tup (sa_cons (se_op s2_ix (se_op s2_ix se_var (se_op s2_i se_var se_c)) se_c) (sa_cons (se_op s2_i se_c (se_op s2_ix (se_op s2_ix se_var (se_op s2_i se_var se_c)) se_c)) sa_nil))))) se_var) (se_lst sa_nil))) (ss_ret se_c) ss_nil)
def s_7 : CS := (sIf (ctOr (cTst (cOp fNe (cCall F_value (cCons (cCall F_undone (cCons (cVar 2) cNil)) (cCons (cVar 4) (cCons (cC (.int 5)) cNil)))) (cCall F_back (cCons (cVar 5) cNil)))) (cTst (cOp fNe (cCall F_short (cCons (cOp fAdd (cVar 2) (cCall F_undone (cCons (cVar 2) cNil))) cNil)) (cTup cNil)))) (sRet (cC (.bl false))) sNil)
def t_7 : PS' := (psIf (pOrT (pTst (pOp gNe (pCall q_value (pCons (pCall q_undone (pCons (pVar 2) pNil)) (pCons (pVar 4) (pCons (pC (.int 5)) pNil)))) (pCall q_back (pCons (pVar 5) pNil)))) (pTst (pOp gNe (pCall q_short (pCons (pOp gAdd (pVar 2) (pCall q_undone (pCons (pVar 2) pNil))) pNil)) (pTup pNil)))) (psRet (pC (.bl false))) psNil)
theorem st_7 : SS s_7 t_7 := (ss_if (st_or (st_tst (se_op s2_ne (se_call sf_value (sa_cons (se_call sf_undone (sa_cons se_var sa_nil)) (sa_cons se_var (sa_cons se_c sa_nil)))) (se_call sf_back (sa_cons se_var sa_nil)))) (st_tst (se_op s2_ne (se_call sf_short (sa_cons (se_op s2_add se_var (se_call sf_undone (sa_cons se_var sa_nil))) sa_nil)) (se_tup sa_nil)))) (ss_ret se_c) ss_nil)
def s_8 : CS := (sIf (cTst (cOp fNe (cCall F_value (cCons (cOp fAdd (cVar 2) (cVar 3)) (cCons (cVar 4) (cCons (cC (.int 5)) cNil)))) (cCall F_after (cCons (cVar 5) (cCons (cVar 6) cNil))))) (sRet (cC (.bl false))) sNil)
def t_8 : PS' := (psIf (pTst (pOp gNe (pCall q_value (pCons (pOp gAdd (pVar 2) (pVar 3)) (pCons (pVar 4) (pCons (pC (.int 5)) pNil)))) (pCall q_after (pCons (pVar 5) (pCons (pVar 6) pNil))))) (psRet (pC (.bl false))) psNil)
theorem st_8 : SS s_8 t_8 := (ss_if (st_tst (se_op s2_ne (se_call sf_value (sa_cons (se_op s2_add se_var se_var) (sa_cons se_var (sa_cons se_c sa_nil)))) (se_call sf_after (sa_cons se_var (sa_cons se_var sa_nil))))) (ss_ret se_c) ss_nil)
def s_9 : CS := (sAsg (cOp fSub (cCall fRoll (cCons (cVar 1) (cCons (cC (.int 9)) cNil))) (cC (.int 4))) (gNm 11))
def t_9 : PS' := (psSet (pOp (gI isub) (pCall qRoll (pCons (pVar 1) (pCons (pC (.int 9)) pNil))) (pC (.int 4))) 11)
theorem st_9 : SS s_9 t_9 := (ss_set (se_op s2_i (se_call sf_roll (sa_cons se_var (sa_cons se_c sa_nil))) se_c))
def s_10 : CS := (sIf (cTst (cOp fNe (cCall F_value (cCons (cCall F_repeated (cCons (cVar 2) (cCons (cVar 11) cNil))) (cCons (cVar 4) (cCons (cC (.int 5)) cNil)))) (cCall F_raised (cCons (cVar 5) (cCons (cVar 11) cNil))))) (sRet (cC (.bl false))) sNil)
def t_10 : PS' := (psIf (pTst (pOp gNe (pCall q_value (pCons (pCall q_repeated (pCons (pVar 2) (pCons (pVar 11) pNil))) (pCons (pVar 4) (pCons (pC (.int 5)) pNil)))) (pCall q_raised (pCons (pVar 5) (pCons (pVar 11) pNil))))) (psRet (pC (.bl false))) psNil)
theorem st_10 : SS s_10 t_10 := (ss_if (st_tst (se_op s2_ne (se_call sf_value (sa_cons (se_call sf_repeated (sa_cons se_var (sa_cons se_var sa_nil))) (sa_cons se_var (sa_cons se_c sa_nil)))) (se_call sf_raised (sa_cons se_var (sa_cons se_var sa_nil))))) (ss_ret se_c) ss_nil)
def s_11 : CS := (sIf (cTst (cOp fNe (cCall F_value (cCons (cCall F_word_crossing (cCons (cVar 2) (cCons (cVar 3) cNil))) (cCons (cVar 4) (cCons (cC (.int 5)) cNil)))) (cCall F_crossing (cCons (cVar 5) (cCons (cVar 6) cNil))))) (sRet (cC (.bl false))) sNil)
def t_11 : PS' := (psIf (pTst (pOp gNe (pCall q_value (pCons (pCall q_word_crossing (pCons (pVar 2) (pCons (pVar 3) pNil))) (pCons (pVar 4) (pCons (pC (.int 5)) pNil)))) (pCall q_crossing (pCons (pVar 5) (pCons (pVar 6) pNil))))) (psRet (pC (.bl false))) psNil)
theorem st_11 : SS s_11 t_11 := (ss_if (st_tst (se_op s2_ne (se_call sf_value (sa_cons (se_call sf_word_crossing (sa_cons se_var (sa_cons se_var sa_nil))) (sa_cons se_var (sa_cons se_c sa_nil)))) (se_call sf_crossing (sa_cons se_var (sa_cons se_var sa_nil))))) (ss_ret se_c) ss_nil)
def s_12 : CS := (sIf (ctOr (cTst (cOp fNe (cCall F_read (cCons (cCall F_told (cCons (cVar 2) cNil)) cNil)) (cVar 2))) (ctOr (cTst (cOp fNe (cCall F__law_place (cCons (cOp fAdd (cCall F_told (cCons (cVar 2) cNil)) (cC (.str "1"))) cNil)) (cFn (f1 gLenA) (cCons (cVar 2) cNil)))) (cTst (cOp fNe (cCall F__law_place (cCons (cC (.str "i")) cNil)) (cC (.int 0)))))) (sRet (cC (.bl false))) sNil)
def t_12 : PS' := (psIf (pOrT (pTst (pOp gNe (pCall q_read (pCons (pCall q_told (pCons (pVar 2) pNil)) pNil)) (pVar 2))) (pOrT (pTst (pOp gNe (pCall q__law_place (pCons (pOp gAdd (pCall q_told (pCons (pVar 2) pNil)) (pC (.str "1"))) pNil)) (pFn hLen (pVar 2)))) (pTst (pOp gNe (pCall q__law_place (pCons (pC (.str "i")) pNil)) (pC (.int 0)))))) (psRet (pC (.bl false))) psNil)
theorem st_12 : SS s_12 t_12 := (ss_if (st_or (st_tst (se_op s2_ne (se_call sf_read (sa_cons (se_call sf_told (sa_cons se_var sa_nil)) sa_nil)) se_var)) (st_or (st_tst (se_op s2_ne (se_call sf__law_place (sa_cons (se_op s2_add (se_call sf_told (sa_cons se_var sa_nil)) se_c) sa_nil)) (se_fn s1_len se_var))) (st_tst (se_op s2_ne (se_call sf__law_place (sa_cons se_c sa_nil)) se_c)))) (ss_ret se_c) ss_nil)
def s_13 : CS := (sIf (cTst (cOp fNe (cVar 10) (cTup cNil))) (sSeq (sAsg (cCall F_bring_out (cCons (cVar 2) cNil)) (gTp 2 (gsCons (gNm 12) (gsCons (gNm 13) gsNil)))) (sSeq (sIf (cTst (cOp fNe (cOp fRepW (cVar 12) (cVar 13)) (cVar 10))) (sRet (cC (.bl false))) sNil) (sIf (cTst (cOp fNe (cLc (ciR2 (cCons (cC (.int 1)) (cCons (cFn (f1 gLenA) (cCons (cVar 12) cNil)) cNil))) (gNm 14) (ctAnd (cTst (cOp fEq (cOp fMod (cFn (f1 gLenA) (cCons (cVar 12) cNil)) (cVar 14)) (cC (.int 0)))) (cTst (cOp fEq (cOp fRepW (cSl (cVar 12) coN (coS (cVar 14))) (cOp fDiv (cFn (f1 gLenA) (cCons (cVar 12) cNil)) (cVar 14))) (cVar 12)))) (cVar 14) [14]) (cLst cNil))) (sRet (cC (.bl false))) sNil))) sNil)
def t_13 : PS' := (psIf (pTst (pOp gNe (pVar 10) (pTup pNil))) (psSeq (psAsg (pxOf (pCall q_bring_out (pCons (pVar 2) pNil))) (pTp 2 (pgCons (pNm 12) (pgCons (pNm 13) pgNil)))) (psSeq (psIf (pTst (pOp gNe (pOp gRepW (pVar 12) (pVar 13)) (pVar 10))) (psRet (pC (.bl false))) psNil) (psIf (pTst (pOp gNe (pLc (pR2 (pC (.int 1)) (pFn hLen (pVar 12))) (pNm 14) (pAndT (pTst (pOp gEq (pOp (gIc modOk imod) (pFn hLen (pVar 12)) (pVar 14)) (pC (.int 0)))) (pTst (pOp gEq (pOp gRepW (pSl (pVar 12) poN (poS (pVar 14))) (pOp (gIc divOk idiv) (pFn hLen (pVar 12)) (pVar 14))) (pVar 12)))) (pVar 14) [14]) (pLst pNil))) (psRet (pC (.bl false))) psNil))) psNil)
theorem st_13 : SS s_13 t_13 := (ss_if (st_tst (se_op s2_ne se_var (se_tup sa_nil))) (ss_seq (ss_asg (sx_of (se_call sf_bring_out (sa_cons se_var sa_nil))) (sg_tp (sgs_cons sg_nm (sgs_cons sg_nm sgs_nil)))) (ss_seq (ss_if (st_tst (se_op s2_ne (se_op s2_repW se_var se_var) se_var)) (ss_ret se_c) ss_nil) (ss_if (st_tst (se_op s2_ne (se_lc (si_r2 se_c (se_fn s1_len se_var)) sg_nm (st_and (st_tst (se_op s2_eq (se_op s2_ic (se_fn s1_len se_var) se_var) se_c)) (st_tst (se_op s2_eq (se_op s2_repW (se_sl se_var so_n (so_s se_var)) (se_op s2_ic (se_fn s1_len se_var) se_var)) se_var))) se_var) (se_lst sa_nil))) (ss_ret se_c) ss_nil))) ss_nil)
end T16

/-! law_k16: what the defs give on words -/
namespace T16
open PySem PySem.Spec L2 DL PL TN W16
noncomputable section
def wayD (b : Bool) : D := .int (if b then 1 else -1)
def letD (x : W16.L) : D := .tup [nI x.1, wayD x.2]
def wD (w : List W16.L) : D := .tup (w.map letD)
theorem eqn_way (k : Nat) (a b : Bool) : eqn k (wayD a) (wayD b) = decide (a = b) := by cases a <;> cases b <;> cases k <;> rfl
theorem eqn_let (k : Nat) (x y : W16.L) : eqn (k + 1) (letD x) (letD y) = decide (x = y) := by
  obtain ⟨a, b⟩ := x
  obtain ⟨c, d⟩ := y
  show eqL (eqn k) [nI a, wayD b] [nI c, wayD d] = _
  simp only [eqL, eqn_nI, eqn_way]
  by_cases h1 : a = c <;> by_cases h2 : b = d <;> simp [h1, h2]
theorem eqL_let (k : Nat) : ∀ u v : List W16.L, eqL (eqn (k + 1)) (u.map letD) (v.map letD) = decide (u = v)
  | [], [] => rfl
  | [], _ :: _ => rfl
  | _ :: _, [] => rfl
  | a :: s, b :: t => by
    rw [List.map_cons, List.map_cons]
    simp only [eqL, eqn_let]
    by_cases h : a = b
    · subst h
      rw [decide_eq_true rfl]
      simp only [eqL_let k s t]
      by_cases h2 : s = t
      · subst h2; simp
      · rw [decide_eq_false h2, decide_eq_false (fun z => h2 (List.cons.inj z).2)]
    · rw [decide_eq_false h, decide_eq_false (fun z => h (List.cons.inj z).1)]
theorem pur_let (k : Nat) (x : W16.L) : pur (k + 1) (letD x) = true := by cases k <;> rfl
theorem pur_lets (k : Nat) (u : List W16.L) : (u.map letD).all (pur (k + 1)) = true := by
  rw [List.all_eq_true]
  intro d hd
  obtain ⟨a, _, rfl⟩ := List.mem_map.mp hd
  exact pur_let k a
theorem eqP_let {x y : W16.L} : eqP (.im (letD x)) (.im (letD y)) = some (decide (x = y)) := by
  have h1 : pur 8 (letD x) = true := pur_let 7 x
  have h2 : pur 8 (letD y) = true := pur_let 7 y
  have h3 : eqn 8 (letD x) (letD y) = decide (x = y) := eqn_let 7 x y
  simp only [eqP, h1, h2, h3]
theorem eqP_wD {u v : List W16.L} : eqP (.im (wD u)) (.im (wD v)) = some (decide (u = v)) := by
  have h1 : pur 8 (wD u) = true := pur_lets 6 u
  have h2 : pur 8 (wD v) = true := pur_lets 6 v
  have h3 : eqn 8 (wD u) (wD v) = decide (u = v) := eqL_let 6 u v
  simp only [eqP, h1, h2, h3]
theorem eqP_wL {m m' : Md} {u v : List W16.L} : eqP (.ls m (u.map letD)) (.ls m' (v.map letD)) = some (decide (u = v)) := by
  have h1 : purs 8 (u.map letD) = true := pur_lets 7 u
  have h2 : purs 8 (v.map letD) = true := pur_lets 7 v
  simp only [eqP, h1, h2, eqL_let]
theorem eqP_way {a b : Bool} : eqP (.im (wayD a)) (.im (wayD b)) = some (decide (a = b)) := by
  have h3 : eqn 8 (wayD a) (wayD b) = decide (a = b) := eqn_way 8 a b
  have h1 : pur 8 (wayD a) = true := rfl
  have h2 : pur 8 (wayD b) = true := rfl
  simp only [eqP, h1, h2, h3]
theorem let_inv {w : List W16.L} {k : Nat} {d : D} (h : (w.map letD)[k]? = some d) : ∃ hk : k < w.length, d = letD w[k] := by
  have hk : k < w.length := by
    have := (List.getElem?_eq_some_iff.mp h).1
    rw [List.length_map] at this; exact this
  refine ⟨hk, ?_⟩
  rw [List.getElem?_map, List.getElem?_eq_getElem hk] at h
  exact (Option.some.inj h).symm
theorem take_one {w : List W16.L} {k : Nat} (hk : k < w.length) : w.take (k + 1) = w.take k ++ [w[k]] := by simp
theorem stay {t : PT} {s : PS'} {ρ : PEn} (h : t ρ = .val false) : psIf t s psNil ρ = .val (.nx ρ) := (if_ff h).trans rfl
/-! ### turns -/
section
variable {a b : List Nat} {ρ : PEn} {pa pb : PE}
theorem cAft (ha : Pm 5 a) (hb : Pm 5 b) (h1 : pa ρ = .val (.im (nR a))) (h2 : pb ρ = .val (.im (nR b))) : pCall q_after (pCons pa (pCons pb pNil)) ρ = .val (.im (nR (aft a b))) :=
  (call2 h1 rfl h2 rfl).trans (CH.after_eq (fun k hk => by rw [hb.len]; exact ha.lt k hk) (by rw [ha.len]; omega))
theorem cBck (ha : Pm 5 a) (h1 : pa ρ = .val (.im (nR a))) : pCall q_back (pCons pa pNil) ρ = .val (.im (nR (bck a))) :=
  (call1 h1 rfl).trans (CH.back_eq (fun k hk => by rw [ha.len]; exact ha.lt k hk) (by rw [ha.len]; omega))
theorem cStl (h1 : pa ρ = .val (.im (nI 5))) : pCall q_still (pCons pa pNil) ρ = .val (.im (nR (List.range 5))) := (call1 h1 rfl).trans (CH.still_eq (by omega))
theorem neR {s t : List Nat} (h1 : pa ρ = .val (.im (nR s))) (h2 : pb ρ = .val (.im (nR t))) (e : s = t) : pTst (pOp gNe pa pb) ρ = .val false := by
  refine ne_ff h1 h2 ?_
  rw [eqP_nR, decide_eq_true e]
theorem neW {s t : List W16.L} (h1 : pa ρ = .val (.im (wD s))) (h2 : pb ρ = .val (.im (wD t))) (e : s = t) : pTst (pOp gNe pa pb) ρ = .val false := by
  refine ne_ff h1 h2 ?_
  rw [eqP_wD, decide_eq_true e]
theorem neI {s t : Nat} (h1 : pa ρ = .val (.im (nI s))) (h2 : pb ρ = .val (.im (nI t))) (e : s = t) : pTst (pOp gNe pa pb) ρ = .val false := by
  refine ne_ff h1 h2 ?_
  rw [eqP_nI, decide_eq_true e]
end
/-! ### short -/
theorem ix_last {m : Md} {s : List W16.L} {y : W16.L} : gIx (.ls m ((s ++ [y]).map letD)) (.im (.int (.negSucc 0))) = some (.im (letD y)) := by
  have : atD ((s ++ [y]).map letD) (.negSucc 0) = some (letD y) := by
    have e : Nat.ble (0 + 1) ((s ++ [y]).map letD).length = true := Nat.ble_eq_true_of_le (by simp)
    show (match Nat.ble (0 + 1) ((s ++ [y]).map letD).length with
    | true => ((s ++ [y]).map letD)[((s ++ [y]).map letD).length - (0 + 1)]?
    | false => none) = _
    rw [e]
    simp
  show (match atD ((s ++ [y]).map letD) (.negSucc 0) with | some d => some (PV.im d) | none => none) = _
  rw [this]
abbrev shBody : PS' := psIf (pAndT (pTst (pOp gNe (pVar 1) (pLst pNil))) (pTst (pOp gEq (pOp gIx (pVar 1) (p1 nNeg (pC (.int 1)))) (pTup (pCons (pVar 2) (pCons (p1 nNeg (pVar 3)) pNil)))))) (psExpr (pxMt0 mPop 1)) (psExpr (pxMt mApp 1 (pCons (pTup (pCons (pVar 2) (pCons (pVar 3) pNil))) pNil)))
theorem short_step {z : Option PV} {S : List W16.L} (x : W16.L) (hl : S.length < 1000) : shBody [z, some (.ls .ow (S.map letD)), some (.im (nI x.1)), some (.im (wayD x.2))] = .val (.nx [z, some (.ls .ow ((push S x).map letD)), some (.im (nI x.1)), some (.im (wayD x.2))]) := by
  have hA : pTst (pOp gNe (pVar 1) (pLst pNil)) [z, some (.ls .ow (S.map letD)), some (.im (nI x.1)), some (.im (wayD x.2))] = .val (!decide (S = [])) := tst_val (op_val (x := .ls .ow (S.map letD)) (y := .ls .fr (([] : List W16.L).map letD)) rfl rfl (gNe_of eqP_wL))
  have ht : pTup (pCons (pVar 2) (pCons (p1 nNeg (pVar 3)) pNil)) [z, some (.ls .ow (S.map letD)), some (.im (nI x.1)), some (.im (wayD x.2))] = .val (.im (letD (inv x))) := by
    obtain ⟨l, b⟩ := x
    cases b <;> rfl
  have hB : ∀ s0 y, S = s0 ++ [y] → pTst (pOp gEq (pOp gIx (pVar 1) (p1 nNeg (pC (.int 1)))) (pTup (pCons (pVar 2) (pCons (p1 nNeg (pVar 3)) pNil)))) [z, some (.ls .ow (S.map letD)), some (.im (nI x.1)), some (.im (wayD x.2))] = .val (decide (y = inv x)) := fun s0 y e => by
    subst e
    exact tst_val (op_val (x := .im (letD y)) (y := .im (letD (inv x))) (op_val (x := .ls .ow ((s0 ++ [y]).map letD)) (y := .im (.int (.negSucc 0))) rfl rfl ix_last) ht (gEq_of eqP_let))
  have happ : psExpr (pxMt mApp 1 (pCons (pTup (pCons (pVar 2) (pCons (pVar 3) pNil))) pNil)) [z, some (.ls .ow (S.map letD)), some (.im (nI x.1)), some (.im (wayD x.2))] = .val (.nx [z, some (.ls .ow ((S ++ [x]).map letD)), some (.im (nI x.1)), some (.im (wayD x.2))]) := by
    rw [app_val (d := letD x) (l := S.map letD) rfl rfl (by rw [List.length_map]; unfold line; omega), List.map_append]
    rfl
  rcases push_cases S x with ⟨s0, e, ep⟩ | ⟨hn, ep⟩
  · rw [ep]
    have hA' := hA
    rw [decide_eq_false (by rw [e]; simp)] at hA'
    have hB' := hB s0 _ e
    rw [decide_eq_true rfl] at hB'
    refine (if_tt ((and_tt hA').trans hB')).trans ?_
    subst e
    have em : mPop ((s0 ++ [inv x]).map letD) [] = some (letD (inv x), s0.map letD) := by
      have e1 : ((s0 ++ [inv x]).map letD)[((s0 ++ [inv x]).map letD).length - 1]? = some (letD (inv x)) := by simp
      have e2 : ((s0 ++ [inv x]).map letD).dropLast = s0.map letD := by simp
      simp only [mPop, e1, e2]
    show (((match mPop ((s0 ++ [inv x]).map letD) [] with
      | some (d, l') => PL.Rs.val (d, ([z, some (.ls .ow ((s0 ++ [inv x]).map letD)), some (.im (nI x.1)), some (.im (wayD x.2))] : PEn).set 1 (some (.ls .ow l')))
      | none => .bad) : PL.Rs (D × PEn)).bind _) = _
    rw [em]
    rfl
  · rw [ep]
    rcases List.eq_nil_or_concat S with e | ⟨s0, y, e⟩
    · rw [decide_eq_true e] at hA
      exact (if_ff (and_ff hA)).trans happ
    · rw [List.concat_eq_append] at e
      rw [decide_eq_false (by rw [e]; simp)] at hA
      have hB' := hB s0 y e
      rw [decide_eq_false (fun z => hn s0 (by rw [e, z]))] at hB'
      exact (if_ff ((and_tt hA).trans hB')).trans happ
theorem short_eq {w : List W16.L} (hl : w.length ≤ 900) : q_short [.im (wD w)] = .val (.im (wD (red w))) := by
  have e1 : psSet (pLst pNil) 1 [some (.im (wD w)), none, none, none] = .val (.nx [some (.im (wD w)), some (.ls .ow (([] : List W16.L).map letD)), none, none]) := rfl
  refine def_rt rfl ((seq_nx e1).trans ?_)
  obtain ⟨ρ', h1, j2, j3, h2⟩ := for_val (ρ0 := [some (.im (wD w)), some (.ls .ow (([] : List W16.L).map letD)), none, none]) (pi := pSeqV 0) (pg := pTp 2 (pgCons (pNm 2) (pgCons (pNm 3) pgNil))) (ps := shBody) (l := w.map letD)
    (fun k ρ => ∃ j2 j3 : Option D, ρ = [some (.im (wD w)), some (.ls .ow (((w.take k).foldl push []).map letD)), j2.map .im, j3.map .im]) rfl ⟨none, none, rfl⟩ fun k d ρ hd hI => by
      obtain ⟨hk, rfl⟩ := let_inv hd
      obtain ⟨j2, j3, rfl⟩ := hI
      generalize hx : w[k] = x
      refine ⟨[some (.im (wD w)), some (.ls .ow (((w.take (k + 1)).foldl push []).map letD)), some (.im (nI x.1)), some (.im (wayD x.2))], ?_, some _, some _, rfl⟩
      have eg : nox (pTp 2 (pgCons (pNm 2) (pgCons (pNm 3) pgNil)) (letD x) [some (.im (wD w)), some (.ls .ow (((w.take k).foldl push []).map letD)), j2.map .im, j3.map .im]) = .val [some (.im (wD w)), some (.ls .ow (((w.take k).foldl push []).map letD)), some (.im (nI x.1)), some (.im (wayD x.2))] := by
        cases j2 <;> cases j3 <;> rfl
      rw [eg, bind_val, take_one hk, List.foldl_append, hx]
      exact short_step x (by have := fold_len (w.take k) []; rw [List.length_take] at this; simp at this; omega)
  rw [List.length_map, List.take_length] at h2
  subst h2
  exact (seq_nx h1).trans (ret_im (tup_ls (m := .ow) rfl))
/-! ### undone -/
theorem undone_eq {w : List W16.L} (hl : w.length ≤ 900) : q_undone [.im (wD w)] = .val (.im (wD (und w))) := by
  refine def_rt rfl (ret_im (tup_ls (m := .fr) ?_))
  refine lc_val (l := w.reverse.map letD) (o := none) ?_ rfl (by rw [List.length_map, List.length_reverse]; unfold line1; omega) ?_
  · show PL.Rs.val ((w.map letD).reverse, none) = _
    rw [List.map_reverse]
  · have e : (und w).map letD = w.reverse.map fun x => letD (inv x) := by unfold und; rw [List.map_map]; rfl
    rw [e]
    refine plc_map fun x _ => ⟨[some (.im (wD w)), some (.im (nI x.1)), some (.im (wayD x.2))], rfl, ?_⟩
    obtain ⟨l, b⟩ := x
    cases b <;> rfl
/-! ### value -/
abbrev tsD (T : Nat → List Nat) : List D := [nR (T 0), nR (T 1), nR (T 2)]
def W3 (w : List W16.L) : Prop := ∀ x ∈ w, x.1 < 3
theorem ix_ts {T : Nat → List Nat} {m : Md} {k : Nat} (h : k < 3) : gIx (.ls m (tsD T)) (.im (nI k)) = some (.im (nR (T k))) := by
  match k, h with
  | 0, _ => rfl
  | 1, _ => rfl
  | 2, _ => rfl
theorem val_step {T : Nat → List Nat} (ht : ∀ k, Pm 5 (T k)) {ρ : PEn} {i j l m : Nat} {md : Md} {f : List Nat} (hf : Pm 5 f) {x : W16.L} (hx : x.1 < 3) (hi : pVar i ρ = .val (.ls md (tsD T))) (hj : pVar j ρ = .val (.im (nR f))) (hl : pVar l ρ = .val (.im (nI x.1))) (hm : pVar m ρ = .val (.im (wayD x.2))) :
    pCall q_after (pCons (pVar j) (pCons (pIf (pTst (pOp gEq (pVar m) (pC (.int 1)))) (pOp gIx (pVar i) (pVar l)) (pCall q_back (pCons (pOp gIx (pVar i) (pVar l)) pNil))) pNil)) ρ = .val (.im (nR (aft f (tv T x)))) := by
  refine cAft hf (tv_pm ht x) hj ?_
  have hix : pOp gIx (pVar i) (pVar l) ρ = .val (.im (nR (T x.1))) := op_val hi hl (ix_ts hx)
  have hq : pTst (pOp gEq (pVar m) (pC (.int 1))) ρ = .val (decide (x.2 = true)) := tst_val (op_val hm (show pC (.int 1) ρ = .val (.im (wayD true)) from rfl) (gEq_of eqP_way))
  unfold tv
  by_cases h : x.2 = true
  · rw [decide_eq_true h] at hq
    rw [if_pos h]
    exact (eif_tt hq).trans hix
  · rw [decide_eq_false h] at hq
    rw [if_neg h]
    exact (eif_ff hq).trans (cBck (ht _) hix)
theorem value_eq {T : Nat → List Nat} (ht : ∀ k, Pm 5 (T k)) {md : Md} (hmd : md = .ke ∨ md = .lo) {w : List W16.L} (hw : W3 w) : q_value [.im (wD w), .ls md (tsD T), .im (nI 5)] = .val (.im (nR (W16.val 5 T w))) := by
  have e1 : psSet (pCall q_still (pCons (pVar 2) pNil)) 3 [some (.im (wD w)), some (.ls md (tsD T)), some (.im (nI 5)), none, none, none] = .val (.nx [some (.im (wD w)), some (.ls md (tsD T)), some (.im (nI 5)), some (.im (nR (List.range 5))), none, none]) := set_im (cStl rfl)
  refine def_rt rfl ((seq_nx e1).trans ?_)
  obtain ⟨ρ', h1, j2, j3, h2⟩ := for_val (ρ0 := [some (.im (wD w)), some (.ls md (tsD T)), some (.im (nI 5)), some (.im (nR (List.range 5))), none, none]) (pi := pSeqV 0) (pg := pTp 2 (pgCons (pNm 4) (pgCons (pNm 5) pgNil))) (ps := psSet (pCall q_after (pCons (pVar 3) (pCons (pIf (pTst (pOp gEq (pVar 5) (pC (.int 1)))) (pOp gIx (pVar 1) (pVar 4)) (pCall q_back (pCons (pOp gIx (pVar 1) (pVar 4)) pNil))) pNil))) 3) (l := w.map letD)
    (fun k ρ => ∃ j2 j3 : Option D, ρ = [some (.im (wD w)), some (.ls md (tsD T)), some (.im (nI 5)), some (.im (nR (W16.val 5 T (w.take k)))), j2.map .im, j3.map .im]) rfl ⟨none, none, rfl⟩ fun k d ρ hd hI => by
      obtain ⟨hk, rfl⟩ := let_inv hd
      obtain ⟨j2, j3, rfl⟩ := hI
      have hx3 := hw _ (List.getElem_mem hk)
      generalize hx : w[k] = x at hx3
      refine ⟨[some (.im (wD w)), some (.ls md (tsD T)), some (.im (nI 5)), some (.im (nR (W16.val 5 T (w.take (k + 1))))), some (.im (nI x.1)), some (.im (wayD x.2))], ?_, some _, some _, rfl⟩
      have eg : nox (pTp 2 (pgCons (pNm 4) (pgCons (pNm 5) pgNil)) (letD x) [some (.im (wD w)), some (.ls md (tsD T)), some (.im (nI 5)), some (.im (nR (W16.val 5 T (w.take k)))), j2.map .im, j3.map .im]) = .val [some (.im (wD w)), some (.ls md (tsD T)), some (.im (nI 5)), some (.im (nR (W16.val 5 T (w.take k)))), some (.im (nI x.1)), some (.im (wayD x.2))] := by
        cases j2 <;> cases j3 <;> rfl
      rw [eg, bind_val, take_one hk, val_app ht, val_one ht, hx]
      refine set_im (val_step ht (md := md) (val_pm ht _) hx3 ?_ rfl rfl rfl)
      rcases hmd with rfl | rfl <;> rfl
  rw [List.length_map, List.take_length] at h2
  subst h2
  exact (seq_nx h1).trans (ret_im rfl)
end
end T16

/-! law_k16: texts, powers -/
namespace T16
open PySem PySem.Spec L2 DL PL TN W16
noncomputable section
/-! ### powers -/
theorem mod_nI {a b : Nat} (hb : 0 < b) : gIc modOk imod (.im (nI a)) (.im (nI b)) = some (.im (nI (a % b))) := by
  have e : modOk (Int.ofNat a) (Int.ofNat b) = true := by
    cases b with
    | zero => omega
    | succ b => rfl
  show (match modOk (Int.ofNat a) (Int.ofNat b) with | true => some (PV.im (.int (imod (Int.ofNat a) (Int.ofNat b)))) | false => none) = _
  rw [e]
  rfl
theorem div_nI {a b : Nat} (hb : 0 < b) (h2 : b ≤ 1000000000) : gIc divOk idiv (.im (nI a)) (.im (nI b)) = some (.im (nI (a / b))) := by
  have e : divOk (Int.ofNat a) (Int.ofNat b) = true := by
    cases b with
    | zero => omega
    | succ b => exact Nat.ble_eq_true_of_le (Nat.le_of_succ_le h2)
  show (match divOk (Int.ofNat a) (Int.ofNat b) with | true => some (PV.im (.int (idiv (Int.ofNat a) (Int.ofNat b)))) | false => none) = _
  rw [e]
  rfl
theorem gt_nI {x y : Nat} : gB igt (.im (nI x)) (.im (nI y)) = some (.im (.bl (decide (y < x)))) := by
  show some (PV.im (.bl (igt (Int.ofNat x) (Int.ofNat y)))) = _
  have : igt (Int.ofNat x) (Int.ofNat y) = decide (y < x) := by
    show decide (Int.ofNat y < Int.ofNat x) = _
    by_cases h : y < x
    · rw [decide_eq_true h, decide_eq_true (show Int.ofNat y < Int.ofNat x from Int.ofNat_lt.mpr h)]
    · rw [decide_eq_false h, decide_eq_false (show ¬ Int.ofNat y < Int.ofNat x from fun z => h (Int.ofNat_lt.mp z))]
  rw [this]
theorem raised_eq {a : List Nat} {p : Int} (ha : Pm 5 a) (hp : p.natAbs ≤ 100) : q_raised [.im (nR a), .im (.int p)] = .val (.im (nR (rpw 5 a p))) := by
  obtain ⟨T, hT, e1, e2⟩ : ∃ T, Pm 5 T ∧ psIf (pTst (pOp (gB ilt) (pVar 1) (pC (.int 0)))) (psPar 0 1 (pCall q_back (pCons (pVar 0) pNil)) (p1 nNeg (pVar 1))) psNil [some (.im (nR a)), some (.im (.int p)), none] = .val (.nx [some (.im (nR T)), some (.im (nI p.natAbs)), none]) ∧ pw 5 T p.natAbs = rpw 5 a p := by
    have et : pTst (pOp (gB ilt) (pVar 1) (pC (.int 0))) [some (.im (nR a)), some (.im (.int p)), none] = .val (decide (p < 0)) := tst_val (op_val rfl rfl rfl)
    cases p with
    | ofNat k =>
      rw [decide_eq_false (by show ¬ ((k : Int) < 0); omega)] at et
      exact ⟨a, ha, stay et, rfl⟩
    | negSucc k =>
      rw [decide_eq_true (Int.negSucc_lt_zero k)] at et
      exact ⟨bck a, ha.bck, (if_tt et).trans (par_val (v := .im (nR (bck a))) (w := .im (nI (k + 1))) (cBck ha rfl) rfl rfl rfl), rfl⟩
  have e3 : psSet (pCall q_still (pCons (pFn hLen (pVar 0)) pNil)) 2 [some (.im (nR T)), some (.im (nI p.natAbs)), none] = .val (.nx [some (.im (nR T)), some (.im (nI p.natAbs)), some (.im (nR (List.range 5)))]) :=
    set_im (cStl ((len_tup (l := T.map nI) rfl).trans (by rw [List.length_map, hT.len])))
  obtain ⟨ρ', h1, h2⟩ := wh_val (t := pTst (pOp (gB igt) (pVar 1) (pC (.int 0)))) (s := psSeq (psIf (pTst (pOp gEq (pOp (gIc modOk imod) (pVar 1) (pC (.int 2))) (pC (.int 1)))) (psSet (pCall q_after (pCons (pVar 2) (pCons (pVar 0) pNil))) 2) psNil) (psSeq (psSet (pCall q_after (pCons (pVar 0) (pCons (pVar 0) pNil))) 0) (psAug 1 (gIc divOk idiv) (pC (.int 2)))))
    (fun ρ => ∃ (T D : List Nat) (m : Nat), ρ = [some (.im (nR T)), some (.im (nI m)), some (.im (nR D))] ∧ Pm 5 T ∧ Pm 5 D ∧ aft D (pw 5 T m) = rpw 5 a p ∧ m ≤ 100) (fun ρ => ∃ x y : Option PV, ρ = [x, y, some (.im (nR (rpw 5 a p)))])
    (fun ρ => match ρ with | [_, some (.im (.int (.ofNat y))), _] => y | _ => 0) (fun ρ hI => by
      obtain ⟨T, D, m, rfl, hT, hD, he, hm⟩ := hI
      have ht : pTst (pOp (gB igt) (pVar 1) (pC (.int 0))) [some (.im (nR T)), some (.im (nI m)), some (.im (nR D))] = .val (decide (0 < m)) := tst_val (op_val rfl (show pC (.int 0) _ = .val (.im (nI 0)) from rfl) gt_nI)
      by_cases h0 : 0 < m
      · rw [decide_eq_true h0] at ht
        refine .inr ⟨ht, ?_⟩
        have eo : pTst (pOp gEq (pOp (gIc modOk imod) (pVar 1) (pC (.int 2))) (pC (.int 1))) [some (.im (nR T)), some (.im (nI m)), some (.im (nR D))] = .val (decide (m % 2 = 1)) :=
          tst_val (op_val (op_val rfl (show pC (.int 2) _ = .val (.im (nI 2)) from rfl) (mod_nI (by decide))) (show pC (.int 1) _ = .val (.im (nI 1)) from rfl) (gEq_of eqP_nI))
        have fin : ∀ D', Pm 5 D' → psSeq (psSet (pCall q_after (pCons (pVar 0) (pCons (pVar 0) pNil))) 0) (psAug 1 (gIc divOk idiv) (pC (.int 2))) [some (.im (nR T)), some (.im (nI m)), some (.im (nR D'))] = .val (.nx [some (.im (nR (aft T T))), some (.im (nI (m / 2))), some (.im (nR D'))]) := fun D' hD' =>
          (seq_nx (set_im (cAft hT hT rfl rfl))).trans (aug_val (y := .im (nI 2)) rfl rfl (div_nI (by decide) (by decide)))
        by_cases ho : m % 2 = 1
        · rw [decide_eq_true ho] at eo
          refine ⟨_, (seq_nx ((if_tt eo).trans (set_im (cAft hD hT rfl rfl)))).trans (fin _ (hD.aft hT)), ⟨_, _, _, rfl, hT.aft hT, hD.aft hT, ?_, by omega⟩, show m / 2 < m by omega⟩
          rw [pw_two hT, aft_assoc hD hT, ← he]
          have := pw_add hT 1 (2 * (m / 2))
          rw [pw_one hT] at this
          rw [← this, show 1 + 2 * (m / 2) = m by omega]
        · rw [decide_eq_false ho] at eo
          refine ⟨_, (seq_nx (stay eo)).trans (fin _ hD), ⟨_, _, _, rfl, hT.aft hT, hD, ?_, by omega⟩, show m / 2 < m by omega⟩
          rw [pw_two hT, show 2 * (m / 2) = m by omega]
          exact he
      · rw [decide_eq_false h0] at ht
        refine .inl ⟨ht, some (.im (nR T)), some (.im (nI m)), ?_⟩
        have : m = 0 := by omega
        subst this
        rw [← he]
        show _ = [_, _, some (PV.im (nR (aft D (List.range 5))))]
        rw [aft_one hD]) [some (.im (nR T)), some (.im (nI p.natAbs)), some (.im (nR (List.range 5)))] ⟨T, List.range 5, p.natAbs, rfl, hT, Pm.id 5, by rw [one_aft (pw_pm hT _)]; exact e2, hp⟩ (by show p.natAbs < 1000000; omega)
  obtain ⟨x, y, rfl⟩ := h2
  exact def_rt rfl ((seq_nx e1).trans ((seq_nx e3).trans ((seq_nx h1).trans (ret_im rfl))))
theorem crossing_eq {a b : List Nat} (ha : Pm 5 a) (hb : Pm 5 b) : q_crossing [.im (nR a), .im (nR b)] = .val (.im (nR (aft (aft (bck a) (bck b)) (aft a b)))) :=
  def_rt rfl (ret_im (cAft (ha.bck.aft hb.bck) (ha.aft hb) (cAft ha.bck hb.bck (cBck ha rfl) (cBck hb rfl)) (cAft ha hb rfl rfl)))
/-! ### so many times -/
theorem repW_wD {u : List W16.L} {k : Nat} (hu : u.length ≤ 900) (hk : k ≤ 900) : gRepW (.im (wD u)) (.im (nI k)) = some (.im (wD (reps u k))) := by
  have hb : Nat.ble k 1000 = true := Nat.ble_eq_true_of_le (by omega)
  cases u with
  | nil =>
    have e : reps ([] : List W16.L) k = [] := by unfold reps; simp
    rw [e]
    show (match Nat.ble k 1000 with | true => some (PV.im (.tup [])) | false => none) = _
    rw [hb]
    rfl
  | cons a u =>
    have hb2 : Nat.ble ((u.map letD).length + 1) 1000 = true := Nat.ble_eq_true_of_le (by rw [List.length_map]; simp at hu; omega)
    show (match Nat.ble k 1000, Nat.ble ((u.map letD).length + 1) 1000 with
      | true, true => some (PV.im (.tup (List.replicate k (letD a :: u.map letD)).flatten))
      | _, _ => none) = _
    rw [hb, hb2]
    show some (PV.im (.tup (List.replicate k ((a :: u).map letD)).flatten)) = some (.im (.tup ((reps (a :: u) k).map letD)))
    unfold reps
    rw [List.map_flatten, List.map_replicate]
theorem repeated_eq {w : List W16.L} {p : Int} (hw : w.length ≤ 8) (hp : p.natAbs ≤ 8) : q_repeated [.im (wD w), .im (.int p)] = .val (.im (wD (rept w p))) := by
  refine def_rt rfl (ret_im ?_)
  have et : pTst (pOp (gB ige) (pVar 1) (pC (.int 0))) [some (.im (wD w)), some (.im (.int p))] = .val (decide (0 ≤ p)) := by
    refine tst_val (op_val rfl rfl ?_)
    rfl
  have hl : ∀ u : List W16.L, u.length ≤ 8 → (reps u p.natAbs).length ≤ 900 := fun u hu => by
    rw [reps_len]
    have := Nat.mul_le_mul hp hu
    omega
  unfold rept
  by_cases h : 0 ≤ p
  · rw [decide_eq_true h] at et
    rw [if_pos h]
    refine (call1 (x := .im (wD (reps w p.natAbs))) ((eif_tt et).trans (op_val (x := .im (wD w)) (y := .im (nI p.natAbs)) rfl ?_ (repW_wD (by omega) (by omega)))) rfl).trans (short_eq (hl w hw))
    show PL.Rs.val (PV.im (.int p)) = .val (.im (.int (Int.ofNat p.natAbs)))
    rw [show (Int.ofNat p.natAbs) = p from Int.natAbs_of_nonneg h]
  · rw [decide_eq_false h] at et
    rw [if_neg h]
    refine (call1 (x := .im (wD (reps (und w) p.natAbs))) ((eif_ff et).trans (op_val (x := .im (wD (und w))) (y := .im (nI p.natAbs)) ((call1 rfl rfl).trans (undone_eq (by omega))) ?_ (repW_wD (by rw [und_len]; omega) (by omega)))) rfl).trans (short_eq (hl (und w) (by rw [und_len]; exact hw)))
    show PL.Rs.val (PV.im (.int (Int.neg p))) = .val (.im (.int (Int.ofNat p.natAbs)))
    rw [show (Int.ofNat p.natAbs) = Int.neg p from Int.ofNat_natAbs_of_nonpos (by omega)]
theorem add_wD {u v : List W16.L} (h : u.length + v.length ≤ 900) : gAdd (.im (wD u)) (.im (wD v)) = some (.im (wD (u ++ v))) := by
  have e : Nat.ble ((u.map letD).length + (v.map letD).length) line = true := Nat.ble_eq_true_of_le (by rw [List.length_map, List.length_map]; unfold line; omega)
  show (match Nat.ble ((u.map letD).length + (v.map letD).length) line with | true => some (PV.im (.tup (u.map letD ++ v.map letD))) | false => none) = _
  rw [e, ← List.map_append]
  rfl
theorem wcr_eq {u w : List W16.L} (hu : u.length ≤ 8) (hw : w.length ≤ 8) : q_word_crossing [.im (wD u), .im (wD w)] = .val (.im (wD (wcr u w))) := by
  refine def_rt rfl (ret_im ((call1 (x := .im (wD (((und u ++ und w) ++ u) ++ w))) ?_ rfl).trans (short_eq (by simp [und_len]; omega))))
  refine op_val (x := .im (wD ((und u ++ und w) ++ u))) (y := .im (wD w)) ?_ rfl (add_wD (by simp [und_len]; omega))
  refine op_val (x := .im (wD (und u ++ und w))) (y := .im (wD u)) ?_ rfl (add_wD (by simp [und_len]; omega))
  exact op_val (x := .im (wD (und u))) (y := .im (wD (und w))) ((call1 rfl rfl).trans (undone_eq (by omega))) ((call1 rfl rfl).trans (undone_eq (by omega))) (add_wD (by simp [und_len]; omega))
/-! ### texts -/
def chr (x : W16.L) : Nat := if x.2 then 97 + x.1 else 65 + x.1
def txt (w : List W16.L) : Str := ⟨(w.map chr).toArray⟩
def sig (x : W16.L) : D := sgn (chr x)
theorem lt3 {P : W16.L → Prop} (h : ∀ k, k = 0 ∨ k = 1 ∨ k = 2 → ∀ b, P (k, b)) {x : W16.L} (hx : x.1 < 3) : P x := by
  obtain ⟨k, b⟩ := x
  exact h k (by simp at hx; omega) b
theorem up0 : Txt.upper ⟨#[97]⟩ = ⟨#[65]⟩ := by decide +kernel
theorem up1 : Txt.upper ⟨#[98]⟩ = ⟨#[66]⟩ := by decide +kernel
theorem up2 : Txt.upper ⟨#[99]⟩ = ⟨#[67]⟩ := by decide +kernel
theorem ixs_eq {k : Nat} (h : k = 0 ∨ k = 1 ∨ k = 2) : gIxS (.im (.str "abcdefgh")) (.im (nI k)) = some (.im (.str ⟨#[97 + k]⟩)) := by
  rcases h with rfl | rfl | rfl <;> rfl
theorem strs_map : ∀ w : List W16.L, strsOf (w.map sig) = some (w.map fun x => (⟨#[chr x]⟩ : Str))
  | [] => rfl
  | x :: w => by
    show (match strsOf (w.map sig) with | some l => some ((⟨#[chr x]⟩ : Str) :: l) | none => none) = _
    rw [strs_map w]
    rfl
theorem glue_fold : ∀ (w : List W16.L) (a : Array Nat), ((w.map fun x => (⟨#[chr x]⟩ : Str)).foldl (fun acc p => acc ++ (Str.mk #[]).cps ++ p.cps) a) = a ++ (w.map chr).toArray
  | [], a => by simp
  | x :: w, a => by
    rw [List.map_cons, List.foldl_cons, glue_fold w]
    simp
theorem join_txt (w : List W16.L) : Txt.join (⟨#[]⟩ : Str) (w.map fun x => (⟨#[chr x]⟩ : Str)) = txt w := by
  cases w with
  | nil => rfl
  | cons x w =>
    show (⟨(w.map fun x => (⟨#[chr x]⟩ : Str)).foldl (fun acc p => acc ++ (Str.mk #[]).cps ++ p.cps) #[chr x]⟩ : Str) = _
    rw [glue_fold]
    unfold txt
    simp
theorem told_eq {w : List W16.L} (h : W3 w) (hl : w.length ≤ 100) : q_told [.im (wD w)] = .val (.im (.str (txt w))) := by
  refine def_rt rfl (ret_im ?_)
  have e : pLc (pSeqV 0) (pTp 2 (pgCons (pNm 1) (pgCons (pNm 2) pgNil))) pYes (pIf (pTst (pOp gEq (pVar 2) (pC (.int 1)))) (pOp gIxS (pC (.str "abcdefgh")) (pVar 1)) (pTx0 Txt.upper (pOp gIxS (pC (.str "abcdefgh")) (pVar 1)))) [1, 2] [some (.im (wD w)), none, none] = .val (.ls .fr (w.map sig)) := by
    refine lc_val (l := w.map letD) (o := none) rfl rfl (by rw [List.length_map]; unfold line1; omega) ?_
    refine plc_map fun x hx => ⟨[some (.im (wD w)), some (.im (nI x.1)), some (.im (wayD x.2))], rfl, ?_⟩
    have hx3 := h x hx
    clear hx
    generalize some (PV.im (wD w)) = z
    revert hx3
    refine fun hx3 => lt3 (P := fun x => pIf (pTst (pOp gEq (pVar 2) (pC (.int 1)))) (pOp gIxS (pC (.str "abcdefgh")) (pVar 1)) (pTx0 Txt.upper (pOp gIxS (pC (.str "abcdefgh")) (pVar 1))) [z, some (.im (nI x.1)), some (.im (wayD x.2))] = .val (.im (sig x))) (fun k hk b => ?_) hx3
    have hq : pTst (pOp gEq (pVar 2) (pC (.int 1))) [z, some (.im (nI k)), some (.im (wayD b))] = .val (decide (b = true)) := tst_val (op_val (x := .im (wayD b)) (y := .im (wayD true)) rfl rfl (gEq_of eqP_way))
    have hix : pOp gIxS (pC (.str "abcdefgh")) (pVar 1) [z, some (.im (nI k)), some (.im (wayD b))] = .val (.im (.str ⟨#[97 + k]⟩)) := op_val rfl rfl (ixs_eq hk)
    cases b with
    | true => exact (eif_tt hq).trans hix
    | false =>
      refine (eif_ff hq).trans ?_
      unfold pTx0
      rw [hix, bind_val]
      rcases hk with rfl | rfl | rfl
      · show PL.Rs.val (PV.im (.str (Txt.upper ⟨#[97]⟩))) = _; rw [up0]; rfl
      · show PL.Rs.val (PV.im (.str (Txt.upper ⟨#[98]⟩))) = _; rw [up1]; rfl
      · show PL.Rs.val (PV.im (.str (Txt.upper ⟨#[99]⟩))) = _; rw [up2]; rfl
  unfold pJoin
  show ((pLc _ _ _ _ _ [some (.im (wD w)), none, none]).bind _) = _
  rw [e, bind_val]
  show (match strsOf (w.map sig) with
      | some ys => (match Nat.ble ((ys.map (fun s : Str => s.length)).sum + ys.length * (Str.mk #[]).length) 16777216 with
        | true => PL.Rs.val (PV.im (.str (Txt.join (⟨#[]⟩ : Str) ys)))
        | false => .bad)
      | none => .bad) = _
  rw [strs_map]
  have hs : ((w.map fun x => (⟨#[chr x]⟩ : Str)).map (fun s : Str => s.length)).sum = w.length := by
    rw [List.map_map]
    have : ((fun s : Str => s.length) ∘ fun x : W16.L => (⟨#[chr x]⟩ : Str)) = fun _ => 1 := by funext x; rfl
    rw [this]
    clear e h hl this
    induction w with
    | nil => rfl
    | cons x w ih => rw [List.map_cons, List.sum_cons, ih, List.length_cons]; omega
  have hb : Nat.ble (((w.map fun x => (⟨#[chr x]⟩ : Str)).map (fun s : Str => s.length)).sum + (w.map fun x => (⟨#[chr x]⟩ : Str)).length * (Str.mk #[]).length) 16777216 = true := Nat.ble_eq_true_of_le (by
    rw [hs]
    show _ + _ * 0 ≤ _
    omega)
  show (match Nat.ble (((w.map fun x => (⟨#[chr x]⟩ : Str)).map (fun s : Str => s.length)).sum + (w.map fun x => (⟨#[chr x]⟩ : Str)).length * (Str.mk #[]).length) 16777216 with
        | true => PL.Rs.val (PV.im (.str (Txt.join (⟨#[]⟩ : Str) (w.map fun x => (⟨#[chr x]⟩ : Str)))))
        | false => .bad) = _
  rw [hb, join_txt]
end
end T16

/-! law_k16: reading, bringing out -/
namespace T16
open PySem PySem.Spec L2 DL PL TN W16
noncomputable section
theorem for_pre {pg : PG'} {ps : PS'} {l1 l2 : List D} (I : Nat → PEn → Prop) (hs : ∀ k d ρ, l1[k]? = some d → I k ρ → ∃ ρ', (nox (pg d ρ)).bind ps = .val (.nx ρ') ∧ I (k + 1) ρ') : ∀ (r : List D) (k : Nat) (ρ : PEn), l1.drop k = r → I k ρ → ∃ ρ', pforD pg ps (r ++ l2) ρ = pforD pg ps l2 ρ' ∧ I (k + r.length) ρ'
  | [], k, ρ, _, h => ⟨ρ, rfl, h⟩
  | d :: r, k, ρ, e, h => by
    have hd : l1[k]? = some d := by
      have : (l1.drop k)[0]? = some d := by rw [e]; rfl
      rw [List.getElem?_drop] at this; exact this
    have hr : l1.drop (k + 1) = r := by
      have : (l1.drop k).drop 1 = r := by rw [e]; rfl
      rw [List.drop_drop] at this; exact this
    obtain ⟨ρ1, h1, h2⟩ := hs k d ρ hd h
    obtain ⟨ρ2, h3, h4⟩ := for_pre I hs r (k + 1) ρ1 hr h2
    refine ⟨ρ2, ?_, by rw [List.length_cons]; rw [show k + (r.length + 1) = k + 1 + r.length by omega]; exact h4⟩
    rw [List.cons_append, pforD]
    cases eg : nox (pg d ρ) with
    | val ρ0 =>
      rw [eg, bind_val] at h1
      rw [bind_val, h1, bind_val]
      exact h3
    | exc x => rw [eg] at h1; cases h1
    | bad => rw [eg] at h1; cases h1
    | all S f => rw [eg] at h1; cases h1
/-- a for that goes n steps, then is left or goes on as it will -/
theorem for_to {pi : PI'} {pg : PG'} {ps : PS'} {l : List D} {n : Nat} {d0 : D} {ρ0 : PEn} (I : Nat → PEn → Prop) (h1 : pi ρ0 = .val (l, none)) (hn : l[n]? = some d0) (h0 : I 0 ρ0) (hs : ∀ k d ρ, k < n → l[k]? = some d → I k ρ → ∃ ρ', (nox (pg d ρ)).bind ps = .val (.nx ρ') ∧ I (k + 1) ρ') :
    ∃ ρ', psFor pi pg ps ρ0 = pforD pg ps (d0 :: l.drop (n + 1)) ρ' ∧ I n ρ' := by
  have hlt : n < l.length := (List.getElem?_eq_some_iff.mp hn).1
  obtain ⟨ρ', e, h⟩ := for_pre (l1 := l.take n) (l2 := l.drop n) (pg := pg) (ps := ps) I (fun k d ρ hk hI => by
    have hkn : k < n := by
      have := (List.getElem?_eq_some_iff.mp hk).1
      rw [List.length_take] at this
      omega
    rw [List.getElem?_take_of_lt hkn] at hk
    exact hs k d ρ hkn hk hI) (l.take n) 0 ρ0 rfl h0
  refine ⟨ρ', ?_, by rw [List.length_take, Nat.zero_add, Nat.min_eq_left (by omega)] at h; exact h⟩
  unfold psFor
  rw [h1]
  show pforD pg ps l ρ0 = _
  rw [List.take_append_drop] at e
  rw [e, List.drop_eq_getElem_cons hlt]
  rw [List.getElem?_eq_getElem hlt] at hn
  rw [Option.some.inj hn]
/-! ### read -/
theorem low_eq {x : W16.L} (hx : x.1 < 3) : Txt.lower ⟨#[chr x]⟩ = ⟨#[97 + x.1]⟩ := by
  refine lt3 (P := fun x => Txt.lower ⟨#[chr x]⟩ = ⟨#[97 + x.1]⟩) (fun k hk b => ?_) hx
  rcases hk with rfl | rfl | rfl <;> cases b <;> decide +kernel
theorem notin_let {k : Nat} (h : k < 3) : gNotInS (.im (.str ⟨#[97 + k]⟩)) (.im (.str "abcdefgh")) = some (.im (.bl false)) := by
  match k, h with
  | 0, _ => rfl
  | 1, _ => rfl
  | 2, _ => rfl
abbrev rdBody : PS' := psIf (pTst (pOp gNotInS (pTx0 Txt.lower (pVar 2)) (pC (.str "abcdefgh")))) (psRaiseX 1 (pVar 1)) psNil
theorem low_at {ρ : PEn} {s : Str} (h : pVar 2 ρ = .val (.im (.str s))) (hl : s.length ≤ 100000) : pTx0 Txt.lower (pVar 2) ρ = .val (.im (.str (Txt.lower s))) := by
  unfold pTx0
  rw [h, bind_val]
  show (match Nat.ble s.length 100000 with | true => PL.Rs.val (PV.im (.str (Txt.lower s))) | false => .bad) = _
  rw [Nat.ble_eq_true_of_le hl]
theorem txt_get {t : Str} {w : List W16.L} {r : List Nat} (ht : t.cps.toList = w.map chr ++ r) {k : Nat} (hk : k < w.length) : (enumD 0 (sgnsD t))[k]? = some (.tup [nI k, sig w[k]]) := by
  have := enumD_get 0 (sgnsD t) k (sig w[k]) (by
    unfold sgnsD
    rw [ht, List.map_append, List.getElem?_append_left (by simp; exact hk), List.getElem?_map, List.getElem?_map, List.getElem?_eq_getElem hk]
    rfl)
  rw [Nat.zero_add] at this
  exact this
theorem rd_step {t : Str} {w : List W16.L} {r : List Nat} (ht : t.cps.toList = w.map chr ++ r) (hw : W3 w) (k : Nat) (d : D) (ρ : PEn) (hk : k < w.length) (hd : (enumD 0 (sgnsD t))[k]? = some d) (hI : ∃ j1 j2 : Option D, ρ = [some (.im (.str t)), j1.map .im, j2.map .im]) :
    ∃ ρ', (nox (pTp 2 (pgCons (pNm 1) (pgCons (pNm 2) pgNil)) d ρ)).bind rdBody = .val (.nx ρ') ∧ ∃ j1 j2 : Option D, ρ' = [some (.im (.str t)), j1.map .im, j2.map .im] := by
  rw [txt_get ht hk] at hd
  cases hd
  obtain ⟨j1, j2, rfl⟩ := hI
  have hx := hw _ (List.getElem_mem hk)
  generalize w[k] = x at hx
  have eg : nox (pTp 2 (pgCons (pNm 1) (pgCons (pNm 2) pgNil)) (.tup [nI k, sig x]) [some (.im (.str t)), j1.map .im, j2.map .im]) = .val [some (.im (.str t)), some (.im (nI k)), some (.im (sig x))] := by
    cases j1 <;> cases j2 <;> rfl
  rw [eg, bind_val]
  refine ⟨_, stay (tst_val (op_val (x := .im (.str ⟨#[97 + x.1]⟩)) (low_at (s := ⟨#[chr x]⟩) rfl (by show 1 ≤ _; omega) |>.trans (by rw [low_eq hx])) rfl (notin_let hx))), some _, some _, rfl⟩
theorem read_bad {t : Str} {w : List W16.L} {c : Nat} (ht : t.cps.toList = w.map chr ++ [c]) (hw : W3 w) (hc : gNotInS (.im (.str (Txt.lower ⟨#[c]⟩))) (.im (.str "abcdefgh")) = some (.im (.bl true))) : q_read [.im (.str t)] = .exc ⟨1, some (nI w.length)⟩ := by
  have hn : (enumD 0 (sgnsD t))[w.length]? = some (.tup [nI w.length, sgn c]) := by
    have := enumD_get 0 (sgnsD t) w.length (sgn c) (by
      unfold sgnsD
      rw [ht, List.map_append, List.getElem?_append_right (by simp)]
      simp)
    rw [Nat.zero_add] at this
    exact this
  obtain ⟨ρ', e, j1, j2, rfl⟩ := for_to (pi := pEnumS (pVar 0)) (pg := pTp 2 (pgCons (pNm 1) (pgCons (pNm 2) pgNil))) (ps := rdBody) (ρ0 := [some (.im (.str t)), none, none]) (fun _ ρ => ∃ j1 j2 : Option D, ρ = [some (.im (.str t)), j1.map .im, j2.map .im]) rfl hn ⟨none, none, rfl⟩ (fun k d ρ hk hd hI => rd_step ht hw k d ρ hk hd hI)
  have e2 : pforD (pTp 2 (pgCons (pNm 1) (pgCons (pNm 2) pgNil))) rdBody (.tup [nI w.length, sgn c] :: (enumD 0 (sgnsD t)).drop (w.length + 1)) [some (.im (.str t)), j1.map .im, j2.map .im] = .exc ⟨1, some (nI w.length)⟩ := by
    rw [pforD]
    have eg : nox (pTp 2 (pgCons (pNm 1) (pgCons (pNm 2) pgNil)) (.tup [nI w.length, sgn c]) [some (.im (.str t)), j1.map .im, j2.map .im]) = .val [some (.im (.str t)), some (.im (nI w.length)), some (.im (sgn c))] := by
      cases j1 <;> cases j2 <;> rfl
    rw [eg, bind_val]
    have : rdBody [some (.im (.str t)), some (.im (nI w.length)), some (.im (sgn c))] = .exc ⟨1, some (nI w.length)⟩ :=
      (if_tt (tst_val (op_val (x := .im (.str (Txt.lower ⟨#[c]⟩))) (low_at (s := ⟨#[c]⟩) rfl (by show 1 ≤ _; omega)) rfl hc))).trans rfl
    rw [this]
    rfl
  have e3 : p_read [some (.im (.str t)), none, none] = .exc ⟨1, some (nI w.length)⟩ := by
    show psSeq (psFor _ _ _) _ _ = _
    unfold psSeq
    rw [e.trans e2]
    rfl
  show ((p_read [some (.im (.str t)), none, none]).bind _) = _
  rw [e3]
  rfl
theorem place_eq {t : Str} {w : List W16.L} {c : Nat} (ht : t.cps.toList = w.map chr ++ [c]) (hw : W3 w) (hc : gNotInS (.im (.str (Txt.lower ⟨#[c]⟩))) (.im (.str "abcdefgh")) = some (.im (.bl true))) : q__law_place [.im (.str t)] = .val (.im (nI w.length)) := by
  refine def_rt rfl (seq_rt ?_)
  show catchX 1 _ (pCall q_read (pCons (pVar 0) pNil) [some (.im (.str t)), none]) = _
  rw [(call1 (f := q_read) (ρ := [some (.im (.str t)), none]) (x := .im (.str t)) rfl rfl).trans (read_bad ht hw hc)]
  rfl
theorem idx_let {k : Nat} (h : k < 3) : Txt.index0 "abcdefgh" ⟨#[97 + k]⟩ = some k := by
  match k, h with
  | 0, _ => decide +kernel
  | 1, _ => decide +kernel
  | 2, _ => decide +kernel
theorem eq_let {x : W16.L} (hx : x.1 < 3) : eqP (.im (.str ⟨#[97 + x.1]⟩)) (.im (.str ⟨#[chr x]⟩)) = some x.2 := by
  refine lt3 (P := fun x => eqP (.im (.str ⟨#[97 + x.1]⟩)) (.im (.str ⟨#[chr x]⟩)) = some x.2) (fun k hk b => ?_) hx
  have h : PyData.strOk ⟨#[97 + k]⟩ = true ∧ PyData.strOk ⟨#[chr (k, b)]⟩ = true ∧ ((⟨#[97 + k]⟩ : Str) == ⟨#[chr (k, b)]⟩) = b := by
    rcases hk with rfl | rfl | rfl <;> cases b <;> decide +kernel
  have h1 : pur 8 (.str ⟨#[97 + k]⟩) = true := h.1
  have h2 : pur 8 (.str ⟨#[chr (k, b)]⟩) = true := h.2.1
  have h3 : eqn 8 (.str ⟨#[97 + k]⟩) (.str ⟨#[chr (k, b)]⟩) = b := h.2.2
  show eqP (.im (.str ⟨#[97 + k]⟩)) (.im (.str ⟨#[chr (k, b)]⟩)) = some b
  simp only [eqP, h1, h2, h3]
theorem read_eq {w : List W16.L} (hw : W3 w) (hl : w.length ≤ 100) : q_read [.im (.str (txt w))] = .val (.im (wD w)) := by
  have ht : (txt w).cps.toList = w.map chr ++ [] := by unfold txt; simp
  have hsg : sgnsD (txt w) = w.map sig := by unfold sgnsD; rw [ht, List.append_nil, List.map_map]; rfl
  obtain ⟨ρ', h1, j1, j2, rfl⟩ := for_val (pi := pEnumS (pVar 0)) (pg := pTp 2 (pgCons (pNm 1) (pgCons (pNm 2) pgNil))) (ps := rdBody) (l := enumD 0 (sgnsD (txt w))) (ρ0 := [some (.im (.str (txt w))), none, none]) (fun _ ρ => ∃ j1 j2 : Option D, ρ = [some (.im (.str (txt w))), j1.map .im, j2.map .im]) rfl ⟨none, none, rfl⟩ (fun k d ρ hd hI => by
    have hk : k < w.length := by
      have := (List.getElem?_eq_some_iff.mp hd).1
      rw [enumD_len, hsg, List.length_map] at this; exact this
    exact rd_step ht hw k d ρ hk hd hI)
  refine def_rt rfl ((seq_nx h1).trans (ret_im (tup_ls (m := .fr) ?_)))
  refine lc_val (l := w.map sig) (o := none) ?_ (by cases j2 <;> rfl) (by rw [List.length_map]; unfold line1; omega) ?_
  · show PL.Rs.val (sgnsD (txt w), none) = _
    rw [hsg]
  · refine plc_map fun x hx => ⟨[some (.im (.str (txt w))), j1.map .im, some (.im (sig x))], by cases j1 <;> cases j2 <;> rfl, ?_⟩
    have hx3 := hw x hx
    generalize some (PV.im (.str (txt w))) = z
    have hlo : pTx0 Txt.lower (pVar 2) [z, j1.map .im, some (.im (sig x))] = .val (.im (.str ⟨#[97 + x.1]⟩)) := (low_at (s := ⟨#[chr x]⟩) rfl (by show 1 ≤ _; omega)).trans (by rw [low_eq hx3])
    have hix : pIdxS (pC (.str "abcdefgh")) (pTx0 Txt.lower (pVar 2)) [z, j1.map .im, some (.im (sig x))] = .val (.im (nI x.1)) := by
      unfold pIdxS
      rw [show pC (.str "abcdefgh") [z, j1.map .im, some (.im (sig x))] = PL.Rs.val (.im (.str "abcdefgh")) from rfl, bind_val]
      show ((pTx0 Txt.lower (pVar 2) [z, j1.map .im, some (.im (sig x))]).bind _) = _
      rw [hlo, bind_val]
      show (match Txt.index0 "abcdefgh" ⟨#[97 + x.1]⟩ with
      | some k => PL.Rs.val (PV.im (.int (Int.ofNat k)))
      | none => .bad) = _
      rw [idx_let hx3]
    have hway : pIf (pTst (pOp gEq (pTx0 Txt.lower (pVar 2)) (pVar 2))) (pC (.int 1)) (p1 nNeg (pC (.int 1))) [z, j1.map .im, some (.im (sig x))] = .val (.im (wayD x.2)) := by
      have hq : pTst (pOp gEq (pTx0 Txt.lower (pVar 2)) (pVar 2)) [z, j1.map .im, some (.im (sig x))] = .val x.2 := tst_val (op_val hlo rfl (gEq_of (eq_let hx3)))
      cases hb : x.2 with
      | true => rw [hb] at hq; exact (eif_tt hq).trans rfl
      | false => rw [hb] at hq; exact (eif_ff hq).trans rfl
    unfold pTup pCons pNil
    rw [hix, bind_val, hway]
    rfl
/-! ### bring_out -/
theorem cutD_to {l : List D} {k : Nat} : cutD l none (some (Int.ofNat k)) = l.take k := by
  unfold cutD
  have e1 : HT.sIx l.length l.length (some (Int.ofNat k)) = min k l.length := HT.sIx_nat _ _ _
  have e2 : HT.sIx l.length 0 none = 0 := rfl
  rw [e1, e2, List.drop_zero, Nat.sub_zero]
  by_cases h : k ≤ l.length
  · rw [Nat.min_eq_left h]
  · rw [Nat.min_eq_right (by omega), List.take_length, List.take_of_length_le (by omega)]
section
variable {ρ : PEn} {i j k : Nat} {s : List W16.L}
theorem sl_eq (h1 : pVar i ρ = .val (.im (wD s))) (h2 : pVar j ρ = .val (.im (nI k))) : pSl (pVar i) poN (poS (pVar j)) ρ = .val (.im (wD (s.take k))) := by
  unfold pSl poN poS
  rw [h1, bind_val, bind_val, h2]
  show PL.Rs.val (PV.im (.tup (cutD (s.map letD) none (some (Int.ofNat k))))) = _
  rw [cutD_to, ← List.map_take]
  rfl
theorem len_w (h1 : pVar i ρ = .val (.im (wD s))) : pFn hLen (pVar i) ρ = .val (.im (nI s.length)) := (len_tup h1).trans (by rw [List.length_map])
theorem perT (h1 : pVar i ρ = .val (.im (wD s))) (h2 : pVar j ρ = .val (.im (nI k))) (hk : 1 ≤ k) (hk2 : k ≤ 900) (hl : s.length ≤ 900) :
    pAndT (pTst (pOp gEq (pOp (gIc modOk imod) (pFn hLen (pVar i)) (pVar j)) (pC (.int 0)))) (pTst (pOp gEq (pOp gRepW (pSl (pVar i) poN (poS (pVar j))) (pOp (gIc divOk idiv) (pFn hLen (pVar i)) (pVar j))) (pVar i))) ρ = .val (isPer s k) := by
  have hA : pTst (pOp gEq (pOp (gIc modOk imod) (pFn hLen (pVar i)) (pVar j)) (pC (.int 0))) ρ = .val (decide (s.length % k = 0)) := tst_val (op_val (x := .im (nI (s.length % k))) (y := .im (nI 0)) (op_val (len_w h1) h2 (mod_nI (by omega))) rfl (gEq_of eqP_nI))
  have hB : pTst (pOp gEq (pOp gRepW (pSl (pVar i) poN (poS (pVar j))) (pOp (gIc divOk idiv) (pFn hLen (pVar i)) (pVar j))) (pVar i)) ρ = .val (decide (reps (s.take k) (s.length / k) = s)) :=
    tst_val (op_val (x := .im (wD (reps (s.take k) (s.length / k)))) (y := .im (wD s)) (op_val (sl_eq h1 h2) (op_val (len_w h1) h2 (div_nI (by omega) (by omega))) (repW_wD (by rw [List.length_take]; omega) (by have := Nat.div_le_self s.length k; omega))) h1 (gEq_of eqP_wD))
  unfold isPer
  by_cases h : s.length % k = 0
  · rw [decide_eq_true h] at hA ⊢
    rw [Bool.true_and]
    exact (and_tt hA).trans hB
  · rw [decide_eq_false h] at hA ⊢
    rw [Bool.false_and]
    exact and_ff hA
end
theorem bring_eq {w : List W16.L} (hl : w.length ≤ 8) (hr : red w ≠ []) : q_bring_out [.im (wD w)] = .val (.im (.tup [wD ((red w).take (per (red w))), nI ((red w).length / per (red w))])) := by
  have hlr := red_len w
  generalize hs : red w = s at hr hlr
  obtain ⟨p1, p2, p3⟩ := per_is hr
  have e1 : psSet (pCall q_short (pCons (pVar 0) pNil)) 0 [some (.im (wD w)), none] = .val (.nx [some (.im (wD s)), none]) := set_im ((call1 rfl rfl).trans ((short_eq (by omega)).trans (by rw [hs])))
  have e2 : psIf (pTst (pOp gEq (pVar 0) (pTup pNil))) (psRaise 2) psNil [some (.im (wD s)), none] = .val (.nx [some (.im (wD s)), none]) := by
    refine stay (tst_val (op_val (x := .im (wD s)) (y := .im (wD [])) rfl rfl (gEq_of ?_)))
    rw [eqP_wD, decide_eq_false hr]
  have hpi : pR2 (pC (.int 1)) (pOp gAdd (pFn hLen (pVar 0)) (pC (.int 1))) [some (.im (wD s)), none] = .val ((List.range' 1 s.length).map nI, none) := by
    have h2 : pOp gAdd (pFn hLen (pVar 0)) (pC (.int 1)) [some (.im (wD s)), none] = .val (.im (nI (s.length + 1))) := op_val (x := .im (nI s.length)) (y := .im (nI 1)) (len_w rfl) rfl rfl
    unfold pR2
    rw [show pC (.int 1) [some (PV.im (wD s)), none] = .val (.im (.int 1)) from rfl, bind_val, h2, bind_val]
    show (match rOk 1, rOk (Int.ofNat (s.length + 1)) with | true, true => PL.Rs.val (rangeD (Int.ofNat (s.length + 1) - 1).toNat 1, none) | _, _ => .bad) = _
    rw [show rOk (Int.ofNat (s.length + 1)) = true from Nat.ble_eq_true_of_le (by show s.length + 1 ≤ _; omega), show (Int.ofNat (s.length + 1) - 1).toNat = s.length by show (((s.length + 1 : Nat) : Int) - 1).toNat = _; omega, show (1 : Int) = Int.ofNat 1 from rfl, range_nI]
    rfl
  have hget : ∀ k, k < s.length → ((List.range' 1 s.length).map nI)[k]? = some (nI (k + 1)) := fun k hk => by
    rw [List.getElem?_map, List.getElem?_range' hk]
    show some (nI (1 + 1 * k)) = _
    rw [Nat.one_mul, Nat.add_comm]
  obtain ⟨ρ', e3, j, rfl⟩ := for_to (pi := pR2 (pC (.int 1)) (pOp gAdd (pFn hLen (pVar 0)) (pC (.int 1)))) (pg := pNm 1)
    (ps := psIf (pAndT (pTst (pOp gEq (pOp (gIc modOk imod) (pFn hLen (pVar 0)) (pVar 1)) (pC (.int 0)))) (pTst (pOp gEq (pOp gRepW (pSl (pVar 0) poN (poS (pVar 1))) (pOp (gIc divOk idiv) (pFn hLen (pVar 0)) (pVar 1))) (pVar 0)))) (psRet (pTup (pCons (pSl (pVar 0) poN (poS (pVar 1))) (pCons (pOp (gIc divOk idiv) (pFn hLen (pVar 0)) (pVar 1)) pNil)))) psNil)
    (ρ0 := [some (.im (wD s)), none]) (fun _ ρ => ∃ j : Option D, ρ = [some (.im (wD s)), j.map .im]) hpi (hget (per s - 1) (by omega)) ⟨none, rfl⟩ (fun k d ρ hk hd hI => by
      rw [hget k (by omega)] at hd
      cases hd
      obtain ⟨j, rfl⟩ := hI
      have eg : nox (pNm 1 (nI (k + 1)) [some (.im (wD s)), j.map .im]) = .val [some (.im (wD s)), some (.im (nI (k + 1)))] := by cases j <;> rfl
      rw [eg, bind_val]
      refine ⟨_, stay ?_, some _, rfl⟩
      rw [perT (s := s) (k := k + 1) rfl rfl (by omega) (by omega) (by omega), perOf_no s s.length 1 (k + 1) (by omega) (by show k + 1 < per s; omega)])
  have e4 : pforD (pNm 1) (psIf (pAndT (pTst (pOp gEq (pOp (gIc modOk imod) (pFn hLen (pVar 0)) (pVar 1)) (pC (.int 0)))) (pTst (pOp gEq (pOp gRepW (pSl (pVar 0) poN (poS (pVar 1))) (pOp (gIc divOk idiv) (pFn hLen (pVar 0)) (pVar 1))) (pVar 0)))) (psRet (pTup (pCons (pSl (pVar 0) poN (poS (pVar 1))) (pCons (pOp (gIc divOk idiv) (pFn hLen (pVar 0)) (pVar 1)) pNil)))) psNil)
      (nI (per s - 1 + 1) :: ((List.range' 1 s.length).map nI).drop (per s - 1 + 1)) [some (.im (wD s)), j.map .im] = .val (.rt (.im (.tup [wD (s.take (per s)), nI (s.length / per s)]))) := by
    rw [show per s - 1 + 1 = per s by omega, pforD]
    have eg : nox (pNm 1 (nI (per s)) [some (.im (wD s)), j.map .im]) = .val [some (.im (wD s)), some (.im (nI (per s)))] := by cases j <;> rfl
    rw [eg, bind_val]
    have et : psIf (pAndT (pTst (pOp gEq (pOp (gIc modOk imod) (pFn hLen (pVar 0)) (pVar 1)) (pC (.int 0)))) (pTst (pOp gEq (pOp gRepW (pSl (pVar 0) poN (poS (pVar 1))) (pOp (gIc divOk idiv) (pFn hLen (pVar 0)) (pVar 1))) (pVar 0)))) (psRet (pTup (pCons (pSl (pVar 0) poN (poS (pVar 1))) (pCons (pOp (gIc divOk idiv) (pFn hLen (pVar 0)) (pVar 1)) pNil)))) psNil [some (.im (wD s)), some (.im (nI (per s)))] = .val (.rt (.im (.tup [wD (s.take (per s)), nI (s.length / per s)]))) := by
      refine (if_tt (by rw [perT (s := s) (k := per s) rfl rfl p3 (by omega) (by omega), p1])).trans (ret_im ?_)
      have a1 : pSl (pVar 0) poN (poS (pVar 1)) [some (.im (wD s)), some (.im (nI (per s)))] = .val (.im (wD (s.take (per s)))) := sl_eq rfl rfl
      have a2 : pOp (gIc divOk idiv) (pFn hLen (pVar 0)) (pVar 1) [some (.im (wD s)), some (.im (nI (per s)))] = .val (.im (nI (s.length / per s))) := op_val (len_w (s := s) rfl) rfl (div_nI (by omega) (by omega))
      unfold pTup pCons pNil
      rw [a1, bind_val, a2]
      rfl
    rw [et]
    rfl
  exact def_rt rfl ((seq_nx e1).trans ((seq_nx e2).trans (seq_rt (e3.trans e4))))
end
end T16

/-! law_k16: the law's statements -/
namespace T16
open PySem PySem.Spec L2 DL PL TN W16
noncomputable section
/-! ### rolls -/
theorem roll_any {ρ : PEn} {i : Nat} {A : PE} {m : Nat} (h1 : pVar i ρ = .val (.cl .dice)) (h2 : A ρ = .val (.im (nI m))) (h0 : 0 < m) (h9 : m ≤ 1000) {Q : PV → Prop} {E : Xc → Prop} (h : ∀ v, v < m → Q (.im (nI v))) : (pCall qRoll (pCons (pVar i) (pCons A pNil)) ρ).ok Q E := by
  obtain ⟨m, rfl⟩ : ∃ k, m = k + 1 := ⟨m - 1, by omega⟩
  have hb : Nat.ble m 1000000000 = true := Nat.ble_eq_true_of_le (by omega)
  have e1 : pCall qRoll (pCons (pVar i) (pCons A pNil)) ρ = PL.Rs.all (below (m + 1)) fun d => PL.Rs.val (PV.im d) := by
    refine (call2 (x := .cl .dice) (y := .cl .dice) h1 rfl h2 rfl).trans ?_
    show (match Nat.ble m 1000000000 with | true => PL.Rs.all (below (m + 1)) fun d => PL.Rs.val (PV.im d) | false => PL.Rs.bad) = _
    rw [hb]
  rw [e1]
  rintro d ⟨v, hv, rfl⟩
  exact h v hv
theorem val_ok {α : Type} {r : PL.Rs α} {a : α} (h : r = .val a) {Q : α → Prop} {E : Xc → Prop} (hq : Q a) : r.ok Q E := by rw [h]; exact hq
/-- a list of a rolled number of rolled things -/
theorem lc_roll {pe : PE} {ρ : PEn} {a : PE} {i M : Nat} {P : D → Prop} (ha : ∀ (Q : PV → Prop) (E : Xc → Prop), (∀ n, n < M → Q (.im (nI n))) → (a ρ).ok Q E) (hM : M ≤ 1000) (hw : wipOk [i] ρ = true) (hs : ∀ d, ∃ ρ1, pNm i d (wipP [i] ρ) = .val ρ1 ∧ ∀ (Q : PV → Prop) (E : Xc → Prop), (∀ x, P x → Q (.im x)) → (pe ρ1).ok Q E) {Q : PV → Prop} {E : Xc → Prop}
    (h : ∀ ys : List D, ys.length < M → (∀ y ∈ ys, P y) → Q (.ls .fr ys)) : (pLc (pR1 a) (pNm i) pYes pe [i] ρ).ok Q E := by
  refine Rs.ok_bind (Rs.ok_bind (ha _ _ fun n hn => ?_))
  have e : pR1 (pC (nI n)) ρ = .val ((List.range n).map nI, none) := pR1_val rfl (by omega)
  refine val_ok e ?_
  show (match wipOk [i] ρ, Nat.ble ((List.range n).map nI).length line1 with
    | true, true => (nox (plc (pNm i) pYes pe (wipP [i] ρ) ((List.range n).map nI))).bind fun ys => PL.Rs.val (PV.ls .fr ys)
    | _, _ => .bad).ok Q E
  rw [hw, Nat.ble_eq_true_of_le (show ((List.range n).map nI).length ≤ line1 by rw [List.length_map, List.length_range]; unfold line1; omega)]
  refine Rs.ok_bind (LT.ok_nox (LT.plc_any _ (fun d _ => hs d) _ _ fun ys hl hys => ?_))
  rw [List.length_map, List.length_range] at hl
  exact h ys (by omega) hys
theorem lets_of : ∀ {ys : List D}, (∀ y ∈ ys, ∃ x : W16.L, x.1 < 3 ∧ y = letD x) → ∃ w : List W16.L, ys = w.map letD ∧ W3 w
  | [], _ => ⟨[], rfl, fun _ h => nomatch h⟩
  | y :: ys, h => by
    obtain ⟨x, hx, rfl⟩ := h y (.head _)
    obtain ⟨w, rfl, hw⟩ := lets_of fun z hz => h z (.tail _ hz)
    refine ⟨x :: w, rfl, fun z hz => ?_⟩
    rcases List.mem_cons.mp hz with rfl | hz
    · exact hx
    · exact hw z hz
theorem word_ok {Q : PV → Prop} {E : Xc → Prop} (h : ∀ w, W3 w → w.length ≤ 8 → Q (.im (wD w))) : (q__law_word [.cl .dice, .im (nI 3), .im (nI 8)]).ok Q E := by
  show ((psRet (pFn hTuple (pLc (pR1 (pCall qRoll (pCons (pVar 0) (pCons (pOp gAdd (pVar 2) (pC (.int 1))) pNil)))) (pNm 3) pYes (pTup (pCons (pCall qRoll (pCons (pVar 0) (pCons (pVar 1) pNil))) (pCons (pOp gIx (pLst (pCons (pC (.int 1)) (pCons (pOp (gI isub) (pC (.int 0)) (pC (.int 1))) pNil))) (pCall qRoll (pCons (pVar 0) (pCons (pC (.int 2)) pNil)))) pNil))) [3])) [some (.cl .dice), some (.im (nI 3)), some (.im (nI 8)), none]).bind _).ok Q E
  refine Rs.ok_bind (Rs.ok_bind (LT.tup_ok (lc_roll (M := 9) (P := fun y => ∃ x : W16.L, x.1 < 3 ∧ y = letD x) (fun Q E hQ => roll_any (m := 9) rfl rfl (by omega) (by omega) hQ) (by omega) rfl (fun d => ⟨[some (.cl .dice), some (.im (nI 3)), some (.im (nI 8)), some (.im d)], rfl, fun Q E hQ => ?_⟩) fun ys hl hys => ?_)))
  · refine LT.tup2_ok (roll_any (m := 3) rfl rfl (by omega) (by omega) fun v hv => ⟨nI v, rfl, LT.op_ok ?_⟩)
    show (PL.Rs.val (PV.ls .fr [.int 1, .int (isub 0 1)])).ok _ E
    refine roll_any (m := 2) rfl rfl (by omega) (by omega) fun u hu => ?_
    have : u = 0 ∨ u = 1 := by omega
    rcases this with rfl | rfl
    · exact ⟨.im (wayD true), rfl, wayD true, rfl, hQ _ ⟨(v, true), hv, rfl⟩⟩
    · exact ⟨.im (wayD false), rfl, wayD false, rfl, hQ _ ⟨(v, false), hv, rfl⟩⟩
  · obtain ⟨w, rfl, hw⟩ := lets_of hys
    rw [List.length_map] at hl
    exact ⟨.fr, w.map letD, rfl, h w hw (by omega)⟩
def T3 (a b c : List Nat) : Nat → List Nat
  | 0 => a
  | 1 => b
  | _ => c
structure Ck (one two : List W16.L) (T : Nat → List Nat) : Prop where
  o3 : W3 one
  t3 : W3 two
  ol : one.length ≤ 8
  tl : two.length ≤ 8
  pm : ∀ k, Pm 5 (T k)
abbrev E0 : PEn := [none, some (.cl .dice), none, none, none, none, none, none, none, none, none, none, none, none, none]
abbrev EE (one two : List W16.L) (T : Nat → List Nat) (a b h s8 s9 tt p f o k : Option PV) : PEn := [none, some (.cl .dice), some (.im (wD one)), some (.im (wD two)), some (.ls .ow (tsD T)), a, b, h, s8, s9, tt, p, f, o, k]
theorem t0_ok {Q : Ou → Prop} {E : Xc → Prop} (h : ∀ one two T, Ck one two T → Q (.nx (EE one two T none none none none none none none none none none))) : (t_0 E0).ok Q E := by
  have ew : pCall q__law_word (pCons (pVar 1) (pCons (pC (.int 3)) (pCons (pC (.int 8)) pNil))) E0 = q__law_word [.cl .dice, .im (nI 3), .im (nI 8)] := call3 rfl rfl rfl rfl rfl rfl
  refine Rs.ok_bind ?_
  rw [ew]
  refine word_ok fun one o3 ol => Rs.ok_bind ?_
  refine word_ok fun two t3 tl => Rs.ok_bind ?_
  refine LT.lc_any (n := 3) (P := fun d => ∃ t, Pm 5 t ∧ d = nR t) rfl (by omega) rfl (fun d => ⟨[none, some (.cl .dice), none, none, none, none, none, none, none, none, none, none, none, none, some (.im d)], rfl, fun Q E hQ => ?_⟩) fun ys hl hys => ?_
  · have : pCall q__law_turn (pCons (pVar 1) (pCons (pC (.int 5)) pNil)) [none, some (.cl .dice), none, none, none, none, none, none, none, none, none, none, none, none, some (.im d)] = LT.q__law_turn [.cl .dice, .im (nI 5)] := call2 rfl rfl rfl rfl
    rw [this]
    exact LT.turn_ok (by omega) fun t ht => hQ _ ⟨t, ht, rfl⟩
  · match ys, hl with
    | [y0, y1, y2], _ =>
      obtain ⟨a, ha, rfl⟩ := hys y0 (.head _)
      obtain ⟨b, hb, rfl⟩ := hys y1 (.tail _ (.head _))
      obtain ⟨c, hc, rfl⟩ := hys y2 (.tail _ (.tail _ (.head _)))
      exact h one two (T3 a b c) ⟨o3, t3, ol, tl, fun k => match k with | 0 => ha | 1 => hb | _ + 2 => hc⟩
section
variable {one two : List W16.L} {T : Nat → List Nat} {a b h s8 s9 tt p f o k : Option PV} {ρ : PEn}
theorem cVal {pe : PE} {w : List W16.L} (ht : ∀ k, Pm 5 (T k)) (h1 : pe ρ = .val (.im (wD w))) (h4 : pVar 4 ρ = .val (.ls .ow (tsD T))) (hw : W3 w) : pCall q_value (pCons pe (pCons (pVar 4) (pCons (pC (.int 5)) pNil))) ρ = .val (.im (nR (W16.val 5 T w))) :=
  (call3 h1 rfl h4 rfl rfl rfl).trans (value_eq ht (.inl rfl) hw)
abbrev vR (T : Nat → List Nat) (w : List W16.L) : Option PV := some (.im (nR (W16.val 5 T w)))
theorem t1_eq (C : Ck one two T) : t_1 (EE one two T a b h s8 s9 tt p f o k) = .val (.nx (EE one two T (vR T one) (vR T two) h s8 s9 tt p f o k)) :=
  par_val (cVal C.pm rfl rfl C.o3) (cVal C.pm rfl rfl C.t3) rfl rfl
theorem t2_eq : t_2 (EE one two T a b h s8 s9 tt p f o k) = .val (.nx (EE one two T a b (some (.im (nR (List.range 5)))) s8 s9 tt p f o k)) := set_im (cStl rfl)
theorem t3_eq (C : Ck one two T) : ∃ j8 j9 : Option D, t_3 (EE one two T a b (some (.im (nR (List.range 5)))) none none tt p f o k) = .val (.nx (EE one two T a b (vR T one) (j8.map .im) (j9.map .im) tt p f o k)) := by
  obtain ⟨ρ', h1, j2, j3, h2⟩ := for_val (ρ0 := EE one two T a b (some (.im (nR (List.range 5)))) none none tt p f o k) (pi := pSeqV 2) (pg := pTp 2 (pgCons (pNm 8) (pgCons (pNm 9) pgNil))) (ps := psSet (pCall q_after (pCons (pVar 7) (pCons (pIf (pTst (pOp gEq (pVar 9) (pC (.int 1)))) (pOp gIx (pVar 4) (pVar 8)) (pCall q_back (pCons (pOp gIx (pVar 4) (pVar 8)) pNil))) pNil))) 7) (l := one.map letD)
    (fun n ρ => ∃ j2 j3 : Option D, ρ = EE one two T a b (vR T (one.take n)) (j2.map .im) (j3.map .im) tt p f o k) rfl ⟨none, none, rfl⟩ fun n d ρ hd hI => by
      obtain ⟨hk, rfl⟩ := let_inv hd
      obtain ⟨j2, j3, rfl⟩ := hI
      have hx3 := C.o3 _ (List.getElem_mem hk)
      generalize hx : one[n] = x at hx3
      refine ⟨EE one two T a b (vR T (one.take (n + 1))) (some (.im (nI x.1))) (some (.im (wayD x.2))) tt p f o k, ?_, some _, some _, rfl⟩
      have eg : nox (pTp 2 (pgCons (pNm 8) (pgCons (pNm 9) pgNil)) (letD x) (EE one two T a b (vR T (one.take n)) (j2.map .im) (j3.map .im) tt p f o k)) = .val (EE one two T a b (vR T (one.take n)) (some (.im (nI x.1))) (some (.im (wayD x.2))) tt p f o k) := by
        cases j2 <;> cases j3 <;> rfl
      rw [eg, bind_val]
      refine (set_im (val_step C.pm (md := .ow) (val_pm C.pm (one.take n)) hx3 rfl rfl rfl rfl)).trans ?_
      rw [take_one hk, hx]
      unfold vR
      rw [val_app C.pm, val_one C.pm]
      rfl
  rw [List.length_map, List.take_length] at h2
  subst h2
  exact ⟨j2, j3, h1⟩
theorem t4_eq (C : Ck one two T) : t_4 (EE one two T a b h s8 s9 tt p f o k) = .val (.nx (EE one two T a b h s8 s9 (some (.im (wD (red one)))) p f o k)) := set_im ((call1 rfl rfl).trans (short_eq (by have := C.ol; omega)))
theorem red3 {w : List W16.L} (h : W3 w) : W3 (red w) := fun x hx => h x (mem_red hx)
theorem und3 {w : List W16.L} (h : W3 w) : W3 (und w) := fun x hx => by
  obtain ⟨y, hy, rfl⟩ := mem_und hx
  exact h y hy
theorem app3 {u w : List W16.L} (hu : W3 u) (hw : W3 w) : W3 (u ++ w) := fun x hx => (List.mem_append.mp hx).elim (hu x) (hw x)
theorem reps3 {u : List W16.L} (hu : W3 u) : ∀ k, W3 (reps u k)
  | 0 => fun _ h => nomatch h
  | k + 1 => by rw [reps_succ]; exact app3 (reps3 hu k) hu
theorem t5_eq (C : Ck one two T) : t_5 (EE one two T (vR T one) b (vR T one) s8 s9 (some (.im (wD (red one)))) p f o k) = .val (.nx (EE one two T (vR T one) b (vR T one) s8 s9 (some (.im (wD (red one)))) p f o k)) :=
  stay ((or_ff (neR rfl rfl rfl)).trans (neR (cVal C.pm rfl rfl (red3 C.o3)) rfl (val_red C.pm one)))
theorem lcR_none {pe : PE} {pt : PT} {i n : Nat} (h : pFn hLen (pVar i) ρ = .val (.im (nI n))) (hn : n ≤ 900) (hw : wipOk [14] ρ = true) (hs : ∀ k, 1 ≤ k → k < n → ∃ ρ1, pNm 14 (nI k) (wipP [14] ρ) = .val ρ1 ∧ pt ρ1 = .val false) : pLc (pR2 (pC (.int 1)) (pFn hLen (pVar i))) (pNm 14) pt pe [14] ρ = .val (.ls .fr (([] : List W16.L).map letD)) := by
  have e : pR2 (pC (.int 1)) (pFn hLen (pVar i)) ρ = .val ((List.range' 1 (n - 1)).map nI, none) := by
    unfold pR2
    rw [show pC (.int 1) ρ = .val (.im (.int 1)) from rfl, bind_val, h, bind_val]
    show (match rOk 1, rOk (Int.ofNat n) with | true, true => PL.Rs.val (rangeD (Int.ofNat n - 1).toNat 1, none) | _, _ => .bad) = _
    rw [show rOk (Int.ofNat n) = true from Nat.ble_eq_true_of_le (by show n ≤ _; omega), show (Int.ofNat n - 1).toNat = n - 1 by show ((n : Int) - 1).toNat = _; omega, show (1 : Int) = Int.ofNat 1 from rfl, range_nI]
    rfl
  refine lc_val (o := none) e hw (by rw [List.length_map, List.length_range']; unfold line1; omega) ?_
  refine (plc_filt (f := nI) (g := fun _ => D.non) (b := fun _ => false) fun k hk => ?_).trans ?_
  · obtain ⟨i, hi, e⟩ := List.mem_range'.mp hk
    obtain ⟨ρ1, h1, h2⟩ := hs k (by omega) (by omega)
    exact ⟨ρ1, h1, h2, fun z => nomatch z⟩
  · simp
theorem red_adj {s : List W16.L} (h : Red s) {n : Nat} (h1 : 1 ≤ n) (hn : n < s.length) : s[n] ≠ inv s[n - 1] := fun e => by
  refine h (s.take (n - 1)) s[n - 1] (s.drop (n + 1)) ?_
  have a1 : s = s.take (n - 1) ++ s.drop (n - 1) := (List.take_append_drop _ _).symm
  have a2 : s.drop (n - 1) = s[n - 1] :: s.drop n := by
    rw [List.drop_eq_getElem_cons (show n - 1 < s.length by omega), show n - 1 + 1 = n by omega]
  have a3 : s.drop n = s[n] :: s.drop (n + 1) := List.drop_eq_getElem_cons hn
  rw [a3, e] at a2
  rw [a2] at a1
  exact a1
theorem ix_w {s : List W16.L} {n : Nat} (hn : n < s.length) : gIx (.im (wD s)) (.im (nI n)) = some (.im (letD s[n])) := by
  show (match (s.map letD)[n]? with | some d => some (PV.im d) | none => none) = _
  rw [List.getElem?_map, List.getElem?_eq_getElem hn]
  rfl
theorem t6_eq (hr : (red one).length ≤ 900) : t_6 (EE one two T a b h s8 s9 (some (.im (wD (red one)))) p f o none) = .val (.nx (EE one two T a b h s8 s9 (some (.im (wD (red one)))) p f o none)) := by
  have R := red_red one
  generalize red one = s at R hr
  refine stay (ne_ff (lcR_none (n := s.length) (len_w rfl) hr rfl fun n h1 hn => ⟨EE one two T a b h s8 s9 (some (.im (wD s))) p f o (some (.im (nI n))), rfl, ?_⟩) (y := .ls .fr (([] : List W16.L).map letD)) rfl ?_)
  · have hk : pOp (gI isub) (pVar 14) (pC (.int 1)) (EE one two T a b h s8 s9 (some (.im (wD s))) p f o (some (.im (nI n)))) = .val (.im (nI (n - 1))) := by
      refine op_val (x := .im (nI n)) (y := .im (nI 1)) rfl rfl ?_
      show some (PV.im (.int ((n : Int) - ((1 : Nat) : Int)))) = some (PV.im (.int ((n - 1 : Nat) : Int)))
      rw [Int.ofNat_sub h1]
    have hl : n - 1 < s.length := by omega
    have hx : pOp gIx (pVar 10) (pOp (gI isub) (pVar 14) (pC (.int 1))) (EE one two T a b h s8 s9 (some (.im (wD s))) p f o (some (.im (nI n)))) = .val (.im (letD s[n - 1])) := op_val rfl hk (ix_w hl)
    have ht : pTup (pCons (pOp gIx (pOp gIx (pVar 10) (pOp (gI isub) (pVar 14) (pC (.int 1)))) (pC (.int 0))) (pCons (pOp (gI isub) (pC (.int 0)) (pOp gIx (pOp gIx (pVar 10) (pOp (gI isub) (pVar 14) (pC (.int 1)))) (pC (.int 1)))) pNil)) (EE one two T a b h s8 s9 (some (.im (wD s))) p f o (some (.im (nI n)))) = .val (.im (letD (inv s[n - 1]))) := by
      have b1 : pOp gIx (pOp gIx (pVar 10) (pOp (gI isub) (pVar 14) (pC (.int 1)))) (pC (.int 0)) (EE one two T a b h s8 s9 (some (.im (wD s))) p f o (some (.im (nI n)))) = .val (.im (nI s[n - 1].1)) := op_val hx rfl rfl
      have b2 : pOp (gI isub) (pC (.int 0)) (pOp gIx (pOp gIx (pVar 10) (pOp (gI isub) (pVar 14) (pC (.int 1)))) (pC (.int 1))) (EE one two T a b h s8 s9 (some (.im (wD s))) p f o (some (.im (nI n)))) = .val (.im (wayD (!s[n - 1].2))) := by
        refine op_val (x := .im (.int 0)) (y := .im (wayD s[n - 1].2)) rfl (op_val hx rfl rfl) ?_
        cases s[n - 1].2 <;> rfl
      unfold pTup pCons pNil
      rw [b1, bind_val, b2]
      rfl
    refine tst_val (op_val (x := .im (letD s[n])) (y := .im (letD (inv s[n - 1]))) (op_val rfl rfl (ix_w hn)) ht (gEq_of ?_))
    rw [eqP_let, decide_eq_false (red_adj R h1 hn)]
  · rw [eqP_wL, decide_eq_true rfl]
theorem cUnd {pe : PE} {w : List W16.L} (h1 : pe ρ = .val (.im (wD w))) (hl : w.length ≤ 900) : pCall q_undone (pCons pe pNil) ρ = .val (.im (wD (und w))) := (call1 h1 rfl).trans (undone_eq hl)
theorem t7_eq (C : Ck one two T) : t_7 (EE one two T (vR T one) b h s8 s9 tt p f o k) = .val (.nx (EE one two T (vR T one) b h s8 s9 tt p f o k)) := by
  have hl : one.length ≤ 900 := by have := C.ol; omega
  refine stay ((or_ff (neR (cVal C.pm (cUnd rfl hl) rfl (und3 C.o3)) (cBck (val_pm C.pm one) rfl) (val_und C.pm one))).trans (neW (t := []) ((call1 (x := .im (wD (one ++ und one))) (op_val (x := .im (wD one)) (y := .im (wD (und one))) rfl (cUnd rfl hl) (add_wD (by rw [und_len]; have := C.ol; omega))) rfl).trans (short_eq (by rw [List.length_append, und_len]; have := C.ol; omega))) rfl (red_und one)))
theorem t8_eq (C : Ck one two T) : t_8 (EE one two T (vR T one) (vR T two) h s8 s9 tt p f o k) = .val (.nx (EE one two T (vR T one) (vR T two) h s8 s9 tt p f o k)) :=
  stay (neR (cVal (w := one ++ two) C.pm (op_val (x := .im (wD one)) (y := .im (wD two)) rfl rfl (add_wD (by have := C.ol; have := C.tl; omega))) rfl (app3 C.o3 C.t3)) (cAft (val_pm C.pm one) (val_pm C.pm two) rfl rfl) (val_app C.pm one two))
theorem t9_ok {Q : Ou → Prop} {E : Xc → Prop} (hq : ∀ q : Int, q.natAbs ≤ 8 → Q (.nx (EE one two T a b h s8 s9 tt (some (.im (.int q))) f o k))) : (t_9 (EE one two T a b h s8 s9 tt p f o k)).ok Q E := by
  refine Rs.ok_bind (LT.op_ok (roll_any (m := 9) rfl rfl (by omega) (by omega) fun v hv => ?_))
  show (PL.Rs.val (PV.im (.int 4))).ok _ E
  exact ⟨.im (.int ((v : Int) - 4)), rfl, hq _ (by omega)⟩
theorem rept3 {w : List W16.L} (hw : W3 w) (q : Int) : W3 (rept w q) := by
  unfold rept
  split
  · exact red3 (reps3 hw _)
  · exact red3 (reps3 (und3 hw) _)
theorem t10_eq (C : Ck one two T) {q : Int} (hq : q.natAbs ≤ 8) : t_10 (EE one two T (vR T one) b h s8 s9 tt (some (.im (.int q))) f o k) = .val (.nx (EE one two T (vR T one) b h s8 s9 tt (some (.im (.int q))) f o k)) :=
  stay (neR (cVal C.pm ((call2 rfl rfl rfl rfl).trans (repeated_eq C.ol hq)) rfl (rept3 C.o3 q)) ((call2 rfl rfl rfl rfl).trans (raised_eq (val_pm C.pm one) (by omega))) (val_rept C.pm one q))
theorem wcr3 {u w : List W16.L} (hu : W3 u) (hw : W3 w) : W3 (wcr u w) := red3 (app3 (app3 (app3 (und3 hu) (und3 hw)) hu) hw)
theorem t11_eq (C : Ck one two T) : t_11 (EE one two T (vR T one) (vR T two) h s8 s9 tt p f o k) = .val (.nx (EE one two T (vR T one) (vR T two) h s8 s9 tt p f o k)) :=
  stay (neR (cVal C.pm ((call2 rfl rfl rfl rfl).trans (wcr_eq C.ol C.tl)) rfl (wcr3 C.o3 C.t3)) ((call2 rfl rfl rfl rfl).trans (crossing_eq (val_pm C.pm one) (val_pm C.pm two))) (val_wcr C.pm one two))
theorem cTold {pe : PE} (C : Ck one two T) (h1 : pe ρ = .val (.im (wD one))) : pCall q_told (pCons pe pNil) ρ = .val (.im (.str (txt one))) := (call1 h1 rfl).trans (told_eq C.o3 (by have := C.ol; omega))
theorem add_str {x y : Str} (hl : x.length + y.length ≤ 1000) : gAdd (.im (.str x)) (.im (.str y)) = some (.im (.str (x ++ y))) := by
  show (match Nat.ble (x.length + y.length) line with | true => some (PV.im (.str (x ++ y))) | false => none) = _
  rw [Nat.ble_eq_true_of_le (by unfold line; omega)]
theorem txt_len (w : List W16.L) : (txt w).length = w.length := by
  show ((w.map chr).toArray).size = _
  simp
theorem one_bad : gNotInS (.im (.str (Txt.lower ⟨#[49]⟩))) (.im (.str "abcdefgh")) = some (.im (.bl true)) := by
  rw [show Txt.lower ⟨#[49]⟩ = ⟨#[49]⟩ by decide +kernel]
  rfl
theorem i_bad : gNotInS (.im (.str (Txt.lower ⟨#[105]⟩))) (.im (.str "abcdefgh")) = some (.im (.bl true)) := by
  rw [show Txt.lower ⟨#[105]⟩ = ⟨#[105]⟩ by decide +kernel]
  rfl
theorem t12_eq (C : Ck one two T) : t_12 (EE one two T a b h s8 s9 tt p f o k) = .val (.nx (EE one two T a b h s8 s9 tt p f o k)) := by
  refine stay ((or_ff (neW ((call1 (cTold C rfl) rfl).trans (read_eq C.o3 (by have := C.ol; omega))) rfl rfl)).trans ((or_ff ?_).trans ?_))
  · refine neI ((call1 (x := .im (.str (txt one ++ ("1" : Str)))) (op_val (x := .im (.str (txt one))) (y := .im (.str "1")) (cTold C rfl) rfl (add_str (by rw [txt_len]; show _ + 1 ≤ _; have := C.ol; omega))) rfl).trans (place_eq (w := one) (c := 49) ?_ C.o3 one_bad)) (len_w rfl) rfl
    show ((one.map chr).toArray ++ (#[49] : Array Nat)).toList = _
    simp
  · exact neI (t := 0) ((call1 (x := .im (.str "i")) rfl rfl).trans (place_eq (w := []) (c := 105) rfl (fun _ h => nomatch h) i_bad)) rfl rfl
theorem asg_of {pe : PE} {pg : PG'} {d : D} {ρ1 : PEn} (h1 : pe ρ = .val (.im d)) (h2 : nox (pg d ρ) = .val ρ1) : psAsg (pxOf pe) pg ρ = .val (.nx ρ1) := by
  unfold psAsg pxOf
  rw [h1]
  show (nox (pg d ρ)).bind _ = _
  rw [h2]
  rfl
theorem t13_ok (C : Ck one two T) : ∃ ρ', ρ'.length = 15 ∧ t_13 (EE one two T a b h s8 s9 (some (.im (wD (red one)))) p none none none) = .val (.nx ρ') := by
  have hne : pTst (pOp gNe (pVar 10) (pTup pNil)) (EE one two T a b h s8 s9 (some (.im (wD (red one)))) p none none none) = .val (!decide (red one = [])) := tst_val (op_val (x := .im (wD (red one))) (y := .im (wD [])) rfl rfl (gNe_of eqP_wD))
  by_cases hr : red one = []
  · rw [decide_eq_true hr] at hne
    exact ⟨EE one two T a b h s8 s9 (some (.im (wD (red one)))) p none none none, rfl, stay hne⟩
  · rw [decide_eq_false hr] at hne
    obtain ⟨p1, p2, p3⟩ := per_is hr
    have hlr : (red one).length ≤ 8 := by have := red_len one; have := C.ol; omega
    have hpr := @per_prim (red one) hr
    have hb := bring_eq C.ol hr
    generalize red one = s at *
    refine ⟨EE one two T a b h s8 s9 (some (.im (wD s))) p (some (.im (wD (s.take (per s))))) (some (.im (nI (s.length / per s)))) none, rfl, (if_tt hne).trans ((seq_nx (asg_of ((call1 rfl rfl).trans hb) rfl)).trans ?_)⟩
    have hlt : (s.take (per s)).length = per s := by rw [List.length_take]; omega
    refine (seq_nx (stay (neW (op_val (x := .im (wD (s.take (per s)))) (y := .im (nI (s.length / per s))) rfl rfl (repW_wD (by omega) (by have := Nat.div_le_self s.length (per s); omega))) rfl ?_))).trans ?_
    · unfold isPer at p1
      simp only [Bool.and_eq_true, decide_eq_true_eq] at p1
      exact p1.2
    · refine stay (ne_ff (lcR_none (n := per s) ((len_w rfl).trans (by rw [hlt])) (by omega) rfl fun n h1 hn => ⟨EE one two T a b h s8 s9 (some (.im (wD s))) p (some (.im (wD (s.take (per s))))) (some (.im (nI (s.length / per s)))) (some (.im (nI n))), rfl, ?_⟩) (y := .ls .fr (([] : List W16.L).map letD)) rfl ?_)
      · rw [perT (s := s.take (per s)) (k := n) rfl rfl h1 (by omega) (by omega), hpr h1 hn]
      · rw [eqP_wL, decide_eq_true rfl]
end
/-! ### the law -/
def sAll : CS := sSeq s_0 (sSeq s_1 (sSeq s_2 (sSeq s_3 (sSeq s_4 (sSeq s_5 (sSeq s_6 (sSeq s_7 (sSeq s_8 (sSeq s_9 (sSeq s_10 (sSeq s_11 (sSeq s_12 s_13))))))))))))
def tAll : PS' := psSeq t_0 (psSeq t_1 (psSeq t_2 (psSeq t_3 (psSeq t_4 (psSeq t_5 (psSeq t_6 (psSeq t_7 (psSeq t_8 (psSeq t_9 (psSeq t_10 (psSeq t_11 (psSeq t_12 t_13))))))))))))
theorem stAll : SS sAll tAll := ss_seq st_0 (ss_seq st_1 (ss_seq st_2 (ss_seq st_3 (ss_seq st_4 (ss_seq st_5 (ss_seq st_6 (ss_seq st_7 (ss_seq st_8 (ss_seq st_9 (ss_seq st_10 (ss_seq st_11 (ss_seq st_12 st_13))))))))))))
theorem seq_ok' {A B : PS'} {ρ : PEn} {Q : Ou → Prop} {E : Xc → Prop} (h : (A ρ).ok (fun o => ∃ ρ1, o = .nx ρ1 ∧ (B ρ1).ok Q E) E) : (psSeq A B ρ).ok Q E :=
  Rs.ok_bind (Rs.imp h (fun o ho => by
    obtain ⟨ρ1, rfl, h⟩ := ho
    exact h) (fun _ h => h))
theorem seq_eq' {A B : PS'} {ρ ρ1 : PEn} {Q : Ou → Prop} {E : Xc → Prop} (h : A ρ = .val (.nx ρ1)) (h2 : (B ρ1).ok Q E) : (psSeq A B ρ).ok Q E := by
  rw [seq_nx h]; exact h2
theorem eq_ok' {A : PS'} {ρ ρ1 : PEn} {Q : Ou → Prop} {E : Xc → Prop} (h : A ρ = .val (.nx ρ1)) (h2 : Q (.nx ρ1)) : (A ρ).ok Q E := by
  rw [h]; exact h2
theorem chain {T0 T1 T2 T3 T4 T5 T6 T7 T8 T9 T10 T11 T12 T13 : PS'} {Q : Ou → Prop} {E : Xc → Prop} (x0 : T0 = t_0) (x1 : T1 = t_1) (x2 : T2 = t_2) (x3 : T3 = t_3) (x4 : T4 = t_4) (x5 : T5 = t_5) (x6 : T6 = t_6) (x7 : T7 = t_7) (x8 : T8 = t_8) (x9 : T9 = t_9) (x10 : T10 = t_10) (x11 : T11 = t_11) (x12 : T12 = t_12) (x13 : T13 = t_13)
    (hQ : ∀ ρ : PEn, ρ.length = 15 → Q (.nx ρ)) : ((psSeq T0 (psSeq T1 (psSeq T2 (psSeq T3 (psSeq T4 (psSeq T5 (psSeq T6 (psSeq T7 (psSeq T8 (psSeq T9 (psSeq T10 (psSeq T11 (psSeq T12 T13))))))))))))) E0).ok Q E := by
  have e0 : ∀ (Q : Ou → Prop) (E : Xc → Prop), (∀ one two T, Ck one two T → Q (.nx (EE one two T none none none none none none none none none none))) → (T0 E0).ok Q E := fun Q E h => by rw [x0]; exact t0_ok h
  have e9 : ∀ (one two : List W16.L) (T : Nat → List Nat) (a b h s8 s9 tt : Option PV) (Q : Ou → Prop) (E : Xc → Prop), (∀ q : Int, q.natAbs ≤ 8 → Q (.nx (EE one two T a b h s8 s9 tt (some (.im (.int q))) none none none))) → (T9 (EE one two T a b h s8 s9 tt none none none none)).ok Q E := fun _ _ _ _ _ _ _ _ _ Q E h => by rw [x9]; exact t9_ok h
  refine seq_ok' (e0 _ _ fun one two T C => ⟨_, rfl, ?_⟩)
  refine seq_eq' (by rw [x1]; exact t1_eq C) (seq_eq' (by rw [x2]; exact t2_eq) ?_)
  obtain ⟨j8, j9, e3⟩ := t3_eq (a := vR T one) (b := vR T two) (tt := none) (p := none) (f := none) (o := none) (k := none) C
  refine seq_eq' (by rw [x3]; exact e3) (seq_eq' (by rw [x4]; exact t4_eq C) (seq_eq' (by rw [x5]; exact t5_eq C) (seq_eq' (by rw [x6]; exact t6_eq (by have := red_len one; have := C.ol; omega)) (seq_eq' (by rw [x7]; exact t7_eq C) (seq_eq' (by rw [x8]; exact t8_eq C) (seq_ok' (e9 _ _ _ _ _ _ _ _ _ _ _ fun q hq => ⟨_, rfl, ?_⟩)))))))
  refine seq_eq' (by rw [x10]; exact t10_eq C hq) (seq_eq' (by rw [x11]; exact t11_eq C) (seq_eq' (by rw [x12]; exact t12_eq C) ?_))
  obtain ⟨ρ', hl, e13⟩ := t13_ok (a := vR T one) (b := vR T two) (h := vR T one) (s8 := j8.map .im) (s9 := j9.map .im) (p := some (.im (.int q))) C
  exact eq_ok' (by rw [x13]; exact e13) (hQ _ hl)
theorem all_ok {Q : Ou → Prop} {E : Xc → Prop} (hQ : ∀ ρ : PEn, ρ.length = 15 → Q (.nx ρ)) : (tAll E0).ok Q E := chain rfl rfl rfl rfl rfl rfl rfl rfl rfl rfl rfl rfl rfl rfl hQ
theorem law_ok : sAll ((List.replicate 15 none).set 1 (some (.ref 0))) ⟨1, [(0, .dice)]⟩ (kT 15) = true := by
  have R : Rep (fun _ => False) 1 E0 ((List.replicate 15 none).set 1 (some (.ref 0))) ⟨1, [(0, .dice)]⟩ := by
    have only : ∀ (i : Nat) (v : PV), E0[i]? = some (some v) → i = 1 ∧ v = .cl .dice := fun i v h => by
      match i, h with
      | 0, h => cases h
      | 1, h => cases h; exact ⟨rfl, rfl⟩
      | 2, h => cases h
      | 3, h => cases h
      | 4, h => cases h
      | 5, h => cases h
      | 6, h => cases h
      | 7, h => cases h
      | 8, h => cases h
      | 9, h => cases h
      | 10, h => cases h
      | 11, h => cases h
      | 12, h => cases h
      | 13, h => cases h
      | 14, h => cases h
      | i + 15, h => cases h
    refine ⟨fun _ h => h.elim, Nat.le_refl _, rfl, fun i v h => ?_, fun i v h ho => ?_, fun i l h => ?_, fun i t l h => ?_, fun i j v w d hij h1 ho h2 hw hs => ?_⟩
    · obtain ⟨rfl, rfl⟩ := only i v h
      exact ⟨.ref 0, rfl, 0, rfl, Nat.zero_lt_one, rfl, rfl⟩
    · obtain ⟨rfl, rfl⟩ := only i v h; cases ho
    · obtain ⟨rfl, z⟩ := only i _ h; cases z
    · obtain ⟨rfl, z⟩ := only i _ h; cases z
    · obtain ⟨rfl, rfl⟩ := only i v h1; cases ho
  refine stAll R (all_ok fun ρ hρ σ' η' R' _ => ?_)
  show Nat.beq σ'.length 15 = true
  rw [R'.len, hρ]
  rfl
end
end T16


set_option Elab.async false
set_option linter.all false
set_option maxRecDepth 100000
set_option maxHeartbeats 4000000
namespace L16
open PySem PySem.Spec L2 DL
def topS (i : Nat) : Stmt := PySem.Challenge.pw_grouphall_k16_words_and_backs.main.body.getD i (.Pass ⟨0, 0, 0, 0⟩)
abbrev s_law : Stmt := topS 27
theorem sc_law : FnScope ["script", "dice", "one", "two", "turns_there", "a", "b", "here", "letter", "way", "tight", "power", "front", "often", "k"] ["script"] (defScope s_law) := ⟨rfl, rfl, rfl, by decide +kernel, rfl, by decide +kernel, by decide +kernel⟩
abbrev s__law_rounds : Stmt := topS 23
theorem sc__law_rounds : FnScope ["script", "most", "cells", "cell"] ["script", "most"] (defScope s__law_rounds) := ⟨rfl, rfl, rfl, by decide +kernel, rfl, by decide +kernel, by decide +kernel⟩
abbrev s__law_dice : Stmt := topS 21
theorem sc__law_dice : FnScope ["cell"] ["cell"] (defScope s__law_dice) := ⟨rfl, rfl, rfl, by decide +kernel, rfl, by decide +kernel, by decide +kernel⟩
abbrev s__law_roll : Stmt := topS 22
theorem sc__law_roll : FnScope ["dice", "many", "found"] ["dice", "many"] (defScope s__law_roll) := ⟨rfl, rfl, rfl, by decide +kernel, rfl, by decide +kernel, by decide +kernel⟩
abbrev s__law_place : Stmt := topS 26
theorem sc__law_place : FnScope ["text", "e"] ["text"] (defScope s__law_place) := ⟨rfl, rfl, rfl, by decide +kernel, rfl, by decide +kernel, by decide +kernel⟩
abbrev s__law_turn : Stmt := topS 24
theorem sc__law_turn : FnScope ["dice", "many", "row", "found"] ["dice", "many"] (defScope s__law_turn) := ⟨rfl, rfl, rfl, by decide +kernel, rfl, by decide +kernel, by decide +kernel⟩
abbrev s__law_word : Stmt := topS 25
theorem sc__law_word : FnScope ["dice", "many", "most", "k"] ["dice", "many", "most"] (defScope s__law_word) := ⟨rfl, rfl, rfl, by decide +kernel, rfl, by decide +kernel, by decide +kernel⟩
abbrev s_after : Stmt := topS 6
theorem sc_after : FnScope ["one", "other", "place"] ["one", "other"] (defScope s_after) := ⟨rfl, rfl, rfl, by decide +kernel, rfl, by decide +kernel, by decide +kernel⟩
abbrev s_back : Stmt := topS 7
theorem sc_back : FnScope ["one", "found", "place", "goal"] ["one"] (defScope s_back) := ⟨rfl, rfl, rfl, by decide +kernel, rfl, by decide +kernel, by decide +kernel⟩
abbrev s_bring_out : Stmt := topS 19
theorem sc_bring_out : FnScope ["word", "size"] ["word"] (defScope s_bring_out) := ⟨rfl, rfl, rfl, by decide +kernel, rfl, by decide +kernel, by decide +kernel⟩
abbrev s_crossing : Stmt := topS 9
theorem sc_crossing : FnScope ["one", "other"] ["one", "other"] (defScope s_crossing) := ⟨rfl, rfl, rfl, by decide +kernel, rfl, by decide +kernel, by decide +kernel⟩
abbrev s_raised : Stmt := topS 8
theorem sc_raised : FnScope ["one", "many", "found"] ["one", "many"] (defScope s_raised) := ⟨rfl, rfl, rfl, by decide +kernel, rfl, by decide +kernel, by decide +kernel⟩
abbrev s_read : Stmt := topS 12
theorem sc_read : FnScope ["text", "k", "sign"] ["text"] (defScope s_read) := ⟨rfl, rfl, rfl, by decide +kernel, rfl, by decide +kernel, by decide +kernel⟩
abbrev s_repeated : Stmt := topS 16
theorem sc_repeated : FnScope ["word", "many"] ["word", "many"] (defScope s_repeated) := ⟨rfl, rfl, rfl, by decide +kernel, rfl, by decide +kernel, by decide +kernel⟩
abbrev s_short : Stmt := topS 14
theorem sc_short : FnScope ["word", "found", "letter", "way"] ["word"] (defScope s_short) := ⟨rfl, rfl, rfl, by decide +kernel, rfl, by decide +kernel, by decide +kernel⟩
abbrev s_still : Stmt := topS 5
theorem sc_still : FnScope ["many"] ["many"] (defScope s_still) := ⟨rfl, rfl, rfl, by decide +kernel, rfl, by decide +kernel, by decide +kernel⟩
abbrev s_told : Stmt := topS 13
theorem sc_told : FnScope ["word", "letter", "way"] ["word"] (defScope s_told) := ⟨rfl, rfl, rfl, by decide +kernel, rfl, by decide +kernel, by decide +kernel⟩
abbrev s_undone : Stmt := topS 15
theorem sc_undone : FnScope ["word", "letter", "way"] ["word"] (defScope s_undone) := ⟨rfl, rfl, rfl, by decide +kernel, rfl, by decide +kernel, by decide +kernel⟩
abbrev s_value : Stmt := topS 18
theorem sc_value : FnScope ["word", "turns", "many", "found", "letter", "way"] ["word", "turns", "many"] (defScope s_value) := ⟨rfl, rfl, rfl, by decide +kernel, rfl, by decide +kernel, by decide +kernel⟩
abbrev s_word_crossing : Stmt := topS 17
theorem sc_word_crossing : FnScope ["one", "other"] ["one", "other"] (defScope s_word_crossing) := ⟨rfl, rfl, rfl, by decide +kernel, rfl, by decide +kernel, by decide +kernel⟩
def FL : List Str := []
structure Hy (P : Program) (K : PySem.W.Frag) (mg : Str → Option Value) where
  c_BadWord : Addr
  g_BadWord : mg "BadWord" = some (.ref c_BadWord)
  X_BadWord : OwnX P K mg c_BadWord "place"
  c_NoWay : Addr
  g_NoWay : mg "NoWay" = some (.ref c_NoWay)
  x_NoWay : PySem.W.excIn K c_NoWay [.type "ValueError", .type "Exception", .type "BaseException", .type "object"] "ValueError.__new__" = true
  k_NoWay : PySem.W.keepIn K (.ref c_NoWay) = true
  s_NoWay : PySem.W.subIn K (.ref c_NoWay) (.type "BaseException") = some true
  t_NoWay : PySem.W.typeIn K (.ref c_NoWay) = some (.type "type")
  f__law_rounds : Addr
  fd__law_rounds : FuncData
  F__law_rounds : Fun K "_law_rounds" "_law_rounds" s__law_rounds f__law_rounds fd__law_rounds
  b__law_rounds : Binds K fd__law_rounds ["script", "most"] []
  m__law_rounds : mg "_law_rounds" = some (.ref f__law_rounds)
  f__law_dice : Addr
  fd__law_dice : FuncData
  F__law_dice : Fun K "_law_dice" "_law_dice" s__law_dice f__law_dice fd__law_dice
  b__law_dice : Binds K fd__law_dice ["cell"] []
  m__law_dice : mg "_law_dice" = some (.ref f__law_dice)
  f__law_roll : Addr
  fd__law_roll : FuncData
  F__law_roll : Fun K "_law_roll" "_law_roll" s__law_roll f__law_roll fd__law_roll
  b__law_roll : Binds K fd__law_roll ["dice", "many"] []
  m__law_roll : mg "_law_roll" = some (.ref f__law_roll)
  f__law_place : Addr
  fd__law_place : FuncData
  F__law_place : Fun K "_law_place" "_law_place" s__law_place f__law_place fd__law_place
  b__law_place : Binds K fd__law_place ["text"] []
  m__law_place : mg "_law_place" = some (.ref f__law_place)
  f__law_turn : Addr
  fd__law_turn : FuncData
  F__law_turn : Fun K "_law_turn" "_law_turn" s__law_turn f__law_turn fd__law_turn
  b__law_turn : Binds K fd__law_turn ["dice", "many"] []
  m__law_turn : mg "_law_turn" = some (.ref f__law_turn)
  f__law_word : Addr
  fd__law_word : FuncData
  F__law_word : Fun K "_law_word" "_law_word" s__law_word f__law_word fd__law_word
  b__law_word : Binds K fd__law_word ["dice", "many", "most"] []
  m__law_word : mg "_law_word" = some (.ref f__law_word)
  f_after : Addr
  fd_after : FuncData
  F_after : Fun K "after" "after" s_after f_after fd_after
  b_after : Binds K fd_after ["one", "other"] []
  m_after : mg "after" = some (.ref f_after)
  f_back : Addr
  fd_back : FuncData
  F_back : Fun K "back" "back" s_back f_back fd_back
  b_back : Binds K fd_back ["one"] []
  m_back : mg "back" = some (.ref f_back)
  f_bring_out : Addr
  fd_bring_out : FuncData
  F_bring_out : Fun K "bring_out" "bring_out" s_bring_out f_bring_out fd_bring_out
  b_bring_out : Binds K fd_bring_out ["word"] []
  m_bring_out : mg "bring_out" = some (.ref f_bring_out)
  f_crossing : Addr
  fd_crossing : FuncData
  F_crossing : Fun K "crossing" "crossing" s_crossing f_crossing fd_crossing
  b_crossing : Binds K fd_crossing ["one", "other"] []
  m_crossing : mg "crossing" = some (.ref f_crossing)
  f_raised : Addr
  fd_raised : FuncData
  F_raised : Fun K "raised" "raised" s_raised f_raised fd_raised
  b_raised : Binds K fd_raised ["one", "many"] []
  m_raised : mg "raised" = some (.ref f_raised)
  f_read : Addr
  fd_read : FuncData
  F_read : Fun K "read" "read" s_read f_read fd_read
  b_read : Binds K fd_read ["text"] []
  m_read : mg "read" = some (.ref f_read)
  f_repeated : Addr
  fd_repeated : FuncData
  F_repeated : Fun K "repeated" "repeated" s_repeated f_repeated fd_repeated
  b_repeated : Binds K fd_repeated ["word", "many"] []
  m_repeated : mg "repeated" = some (.ref f_repeated)
  f_short : Addr
  fd_short : FuncData
  F_short : Fun K "short" "short" s_short f_short fd_short
  b_short : Binds K fd_short ["word"] []
  m_short : mg "short" = some (.ref f_short)
  f_still : Addr
  fd_still : FuncData
  F_still : Fun K "still" "still" s_still f_still fd_still
  b_still : Binds K fd_still ["many"] []
  m_still : mg "still" = some (.ref f_still)
  f_told : Addr
  fd_told : FuncData
  F_told : Fun K "told" "told" s_told f_told fd_told
  b_told : Binds K fd_told ["word"] []
  m_told : mg "told" = some (.ref f_told)
  f_undone : Addr
  fd_undone : FuncData
  F_undone : Fun K "undone" "undone" s_undone f_undone fd_undone
  b_undone : Binds K fd_undone ["word"] []
  m_undone : mg "undone" = some (.ref f_undone)
  f_value : Addr
  fd_value : FuncData
  F_value : Fun K "value" "value" s_value f_value fd_value
  b_value : Binds K fd_value ["word", "turns", "many"] []
  m_value : mg "value" = some (.ref f_value)
  f_word_crossing : Addr
  fd_word_crossing : FuncData
  F_word_crossing : Fun K "word_crossing" "word_crossing" s_word_crossing f_word_crossing fd_word_crossing
  b_word_crossing : Binds K fd_word_crossing ["one", "other"] []
  m_word_crossing : mg "word_crossing" = some (.ref f_word_crossing)
  S_LETTERS : ∃ t, mg "LETTERS" = some (.str "abcdefgh" t)
  e_BadWord_BadWord : PySem.W.exmOne K (.ref c_BadWord) (.ref c_BadWord) = some true
  z_abs : mg "abs" = none
  z_enumerate : mg "enumerate" = none
  z_int : mg "int" = none
  z_len : mg "len" = none
  z_list : mg "list" = none
  z_range : mg "range" = none
  z_reversed : mg "reversed" = none
  z_tuple : mg "tuple" = none
  nd : ([] : List Addr).Nodup
section
variable {P : Program} {w : World} {K : PySem.W.Frag} {mg : Str → Option Value} {base : Heap}
def nm (hy : Hy P K mg) : Nm := { fld := fun j => FL.getD j "?", cls := fun j => match j with | 1 => hy.c_BadWord | 2 => hy.c_NoWay | _ => 0, tabs := [], xf := fun j => match j with | 1 => "place" | _ => "" }
theorem fi (hy : Hy P K mg) (k : Nat) (h : k < FL.length) : ∀ j, (nm hy).fld j = FL.getD k "?" → j = k := fld_inj (by decide) (by decide) h
theorem fo (hy : Hy P K mg) (m : Str) (h : m ∉ FL) (hq : m ≠ "?") : ∀ j, (nm hy).fld j ≠ m := fld_no h hq
structure Tbs (hy : Hy P K mg) (base : Heap) : Prop where
  x_x : True
def b_told : CS := (sRet (cJoin (cC (.str "")) (cLc (ciSeq (cVar 0)) (gTp 2 (gsCons (gNm 1) (gsCons (gNm 2) gsNil))) ctYes (cIf (cTst (cOp fEq (cVar 2) (cC (.int 1)))) (cOp fIxS (cC (.str "abcdefgh")) (cVar 1)) (cTx0 Txt.upper (cOp fIxS (cC (.str "abcdefgh")) (cVar 1)))) [1, 2])))
theorem g0_told (hy : Hy P K mg) (tb : Tbs hy base) : JF P w K mg base 1 hy.f_told hy.fd_told ["word"] (nm hy) (cDef 1 3 b_told) :=
   jf_def (k := 0) hy.F_told sc_told fun cdv A outer s H E hr => (jb_one (js_ret (je_join je_str (je_lc (E' := E0) (own := [("letter", 1), ("way", 2)]) rfl sc_told.nd (ji_seq (je_var 0 (pv 0))) (blkOk_by (N := ["word", "letter", "way"]) (sc := defScope s_told) (own := [("letter", 1), ("way", 2)]) (by decide +kernel)) (fun _ _ _ _ _ => (jgw_tup rfl (jgsw_cons (jgw_name (pg_name (i := 1) sc_told.nd rfl (by first | exact .inl rfl | exact .inr rfl))) (jgsw_cons (jgw_name (pg_name (i := 2) sc_told.nd rfl (by first | exact .inl rfl | exact .inr rfl))) jgsw_nil)))) (fun _ _ _ _ _ => jts_nil) (fun _ _ _ _ _ => (je_if (jt_cmp (opd_eq hr.units) (je_var 2 (pv 2)) je_int (by rfl)) (je_ixS (je_gstr (by rfl) hy.S_LETTERS) (je_var 1 (pv 1)) (fun _ _ => rfl)) (je_upper (je_ixS (je_gstr (by rfl) hy.S_LETTERS) (je_var 1 (pv 1)) (fun _ _ => rfl)))))))))
abbrev F_told : CF := (cDef 1 3 b_told)
theorem g_told (hy : Hy P K mg) (tb : Tbs hy base) : JF P w K mg base 1 hy.f_told hy.fd_told ["word"] (nm hy) F_told := g0_told hy tb
def b_back : CS := (sSeq (sAsg (cOp fMul (cLst (cCons (cC (.int 0)) cNil)) (cFn (f1 gLenA) (cCons (cVar 0) cNil))) (gNm 1)) (sSeq (sFor (ciEnum (cCons (cVar 0) cNil)) (gTp 2 (gsCons (gNm 2) (gsCons (gNm 3) gsNil))) (sAsg (cVar 2) (gSb (cVar 1) (cVar 3)))) (sRet (cFn (f1 gTuple) (cCons (cVar 1) cNil)))))
theorem g0_back (hy : Hy P K mg) (tb : Tbs hy base) : JF P w K mg base 1 hy.f_back hy.fd_back ["one"] (nm hy) (cDef 1 4 b_back) :=
   jf_def (k := 0) hy.F_back sc_back fun cdv A outer s H E hr => (jb_cons (js_set (i := 1) sc_back.nd rfl (by first | exact .inl rfl | exact .inr rfl) (je_op opd_mul (je_lst (ja_cons je_int ja_nil)) (je_blt blt_lenA (by rfl) hy.z_len (by rfl) (ja_cons (je_var 0 (pv 0)) ja_nil)))) (jb_cons (js_for (passes_of rfl) rfl (ji_enum (by rfl) hy.z_enumerate (ja_cons (je_var 0 (pv 0)) ja_nil)) (jg_tup rfl (jgs_cons (jg_name (pg_name (i := 2) sc_back.nd rfl (by first | exact .inl rfl | exact .inr rfl))) (jgs_cons (jg_name (pg_name (i := 3) sc_back.nd rfl (by first | exact .inl rfl | exact .inr rfl))) jgs_nil))) (jb_one (js_asg (je_var 2 (pv 2)) (jg_sub (hu_of hr) (je_var 1 (pv 1)) (je_var 3 (pv 3)))))) (jb_one (js_ret (je_ty ty_tuple (by rfl) hy.z_tuple (by rfl) (ja_cons (je_var 1 (pv 1)) ja_nil))))))
abbrev F_back : CF := (cDef 1 4 b_back)
theorem g_back (hy : Hy P K mg) (tb : Tbs hy base) : JF P w K mg base 1 hy.f_back hy.fd_back ["one"] (nm hy) F_back := g0_back hy tb
def b_after : CS := (sRet (cFn (f1 gTuple) (cCons (cLc (ciSeq (cVar 0)) (gNm 2) ctYes (cOp fIx (cVar 1) (cVar 2)) [2]) cNil)))
theorem g0_after (hy : Hy P K mg) (tb : Tbs hy base) : JF P w K mg base 1 hy.f_after hy.fd_after ["one", "other"] (nm hy) (cDef 2 3 b_after) :=
   jf_def (k := 0) hy.F_after sc_after fun cdv A outer s H E hr => (jb_one (js_ret (je_ty ty_tuple (by rfl) hy.z_tuple (by rfl) (ja_cons (je_lc (E' := E0) (own := [("place", 2)]) rfl sc_after.nd (ji_seq (je_var 0 (pv 0))) (blkOk_by (N := ["one", "other", "place"]) (sc := defScope s_after) (own := [("place", 2)]) (by decide +kernel)) (fun _ _ _ _ _ => (jgw_name (pg_name (i := 2) sc_after.nd rfl (by first | exact .inl rfl | exact .inr rfl)))) (fun _ _ _ _ _ => jts_nil) (fun _ _ _ _ _ => (je_ix (hu_of hr) (je_var 1 (pv 1)) (je_var 2 (pv 2)) (fun _ _ => rfl)))) ja_nil))))
abbrev F_after : CF := (cDef 2 3 b_after)
theorem g_after (hy : Hy P K mg) (tb : Tbs hy base) : JF P w K mg base 1 hy.f_after hy.fd_after ["one", "other"] (nm hy) F_after := g0_after hy tb
def b_crossing : CS := (sRet (cCall F_after (cCons (cCall F_after (cCons (cCall F_back (cCons (cVar 0) cNil)) (cCons (cCall F_back (cCons (cVar 1) cNil)) cNil))) (cCons (cCall F_after (cCons (cVar 0) (cCons (cVar 1) cNil))) cNil))))
theorem g0_crossing (hy : Hy P K mg) (tb : Tbs hy base) : JF P w K mg base 2 hy.f_crossing hy.fd_crossing ["one", "other"] (nm hy) (cDef 2 2 b_crossing) :=
  have g_after := g_after (P := P) (w := w) (base := base) hy tb; have g_back := g_back (P := P) (w := w) (base := base) hy tb; jf_def (k := 1) hy.F_crossing sc_crossing fun cdv A outer s H E hr => (jb_one (js_ret (je_call g_after (hr.mono (by decide)) (by rfl) hy.m_after hy.F_after.kp hy.b_after (passes_call (takes_of rfl rfl rfl rfl) (fun _ _ _ _ h => h)) (ja_cons (je_call g_after (hr.mono (by decide)) (by rfl) hy.m_after hy.F_after.kp hy.b_after (passes_call (takes_of rfl rfl rfl rfl) (fun _ _ _ _ h => h)) (ja_cons (je_call g_back (hr.mono (by decide)) (by rfl) hy.m_back hy.F_back.kp hy.b_back (passes_call (takes_of rfl rfl rfl rfl) (fun _ _ _ _ h => h)) (ja_cons (je_var 0 (pv 0)) ja_nil)) (ja_cons (je_call g_back (hr.mono (by decide)) (by rfl) hy.m_back hy.F_back.kp hy.b_back (passes_call (takes_of rfl rfl rfl rfl) (fun _ _ _ _ h => h)) (ja_cons (je_var 1 (pv 1)) ja_nil)) ja_nil))) (ja_cons (je_call g_after (hr.mono (by decide)) (by rfl) hy.m_after hy.F_after.kp hy.b_after (passes_call (takes_of rfl rfl rfl rfl) (fun _ _ _ _ h => h)) (ja_cons (je_var 0 (pv 0)) (ja_cons (je_var 1 (pv 1)) ja_nil))) ja_nil)))))
abbrev F_crossing : CF := (cDef 2 2 b_crossing)
theorem g_crossing (hy : Hy P K mg) (tb : Tbs hy base) : JF P w K mg base 2 hy.f_crossing hy.fd_crossing ["one", "other"] (nm hy) F_crossing := g0_crossing hy tb
theorem g0__law_roll (hy : Hy P K mg) (tb : Tbs hy base) : JF P w K mg base 1 hy.f__law_roll hy.fd__law_roll ["dice", "many"] (nm hy) (cDef 2 3 b_roll) :=
   jf_def (k := 0) hy.F__law_roll sc__law_roll fun cdv A outer s H E hr => (jb_cons (js_if (jt_of (jw_or (jt_cmp (opd_eq hr.units) (je_ix (hu_of hr) (je_var 0 (pv 0)) je_int (fun _ _ => rfl)) je_int (by rfl)) (jw_or1 (jt_of (jw_and (jt_cmp (opd_eq hr.units) (je_ix (hu_of hr) (je_var 0 (pv 0)) je_int (fun _ _ => rfl)) je_int (by rfl)) (jw_and1 (jt_cmp opd_gt (je_ix (hu_of hr) (je_var 0 (pv 0)) je_int (fun _ _ => rfl)) je_int (by rfl)))))))) (jb_cons (js_set (i := 2) sc__law_roll.nd rfl (by first | exact .inl rfl | exact .inr rfl) (je_op opd_mod (je_ty ty_int (by rfl) hy.z_int (by rfl) (ja_cons (je_ix (hu_of hr) (je_var 0 (pv 0)) je_int (fun _ _ => rfl)) ja_nil)) (je_var 1 (pv 1)))) (jb_cons (js_asg (je_op opd_div (je_ix (hu_of hr) (je_var 0 (pv 0)) je_int (fun _ _ => rfl)) (je_var 1 (pv 1))) (jg_sub (hu_of hr) (je_var 0 (pv 0)) je_int)) (jb_one (js_ret (je_var 2 (pv 2)))))) jb_nil) (jb_cons (js_asg je_int (jg_sub (hu_of hr) (je_var 0 (pv 0)) je_int)) (jb_cons (js_asg (je_op opd_mod (je_ty ty_int (by rfl) hy.z_int (by rfl) (ja_cons (je_op opd_add (je_op opd_add (je_op opd_mul (je_ix (hu_of hr) (je_var 0 (pv 0)) je_int (fun _ _ => rfl)) je_int) (je_op opd_mul (je_ix (hu_of hr) (je_var 0 (pv 0)) je_int (fun _ _ => rfl)) je_int)) je_int) ja_nil)) je_int) (jg_sub (hu_of hr) (je_var 0 (pv 0)) je_int)) (jb_cons (js_asg (je_op opd_add (je_ix (hu_of hr) (je_var 0 (pv 0)) je_int (fun _ _ => rfl)) je_int) (jg_sub (hu_of hr) (je_var 0 (pv 0)) je_int)) (jb_one (js_ret (je_op opd_mod (je_ty ty_int (by rfl) hy.z_int (by rfl) (ja_cons (je_op opd_add (je_op opd_div (je_ix (hu_of hr) (je_var 0 (pv 0)) je_int (fun _ _ => rfl)) je_int) (je_ix (hu_of hr) (je_var 0 (pv 0)) je_int (fun _ _ => rfl))) ja_nil)) (je_var 1 (pv 1)))))))))
abbrev F__law_roll : CF := fRoll
theorem g__law_roll (hy : Hy P K mg) (tb : Tbs hy base) : JF P w K mg base 1 hy.f__law_roll hy.fd__law_roll ["dice", "many"] (nm hy) F__law_roll := jf_roll (g0__law_roll hy tb) roll_ok
def b_read : CS := (sSeq (sFor (ciEnumS (cCons (cVar 0) cNil)) (gTp 2 (gsCons (gNm 1) (gsCons (gNm 2) gsNil))) (sIf (cTst (cOp fNotInS (cTx0 Txt.lower (cVar 2)) (cC (.str "abcdefgh")))) (sRaiseX 1 (cVar 1)) sNil)) (sRet (cFn (f1 gTuple) (cCons (cLc (ciStr (cVar 0)) (gNm 2) ctYes (cTup (cCons (cIdxS (cC (.str "abcdefgh")) (cTx0 Txt.lower (cVar 2))) (cCons (cIf (cTst (cOp fEq (cTx0 Txt.lower (cVar 2)) (cVar 2))) (cC (.int 1)) (cNeg (cC (.int 1)))) cNil))) [2]) cNil))))
theorem g0_read (hy : Hy P K mg) (tb : Tbs hy base) : JF P w K mg base 3 hy.f_read hy.fd_read ["text"] (nm hy) (cDef 1 3 b_read) :=
   jf_def (k := 2) hy.F_read sc_read fun cdv A outer s H E hr => (jb_cons (js_for (passes_of rfl) rfl (ji_enumS (by rfl) hy.z_enumerate (ja_cons (je_var 0 (pv 0)) ja_nil)) (jg_tup rfl (jgs_cons (jg_name (pg_name (i := 1) sc_read.nd rfl (by first | exact .inl rfl | exact .inr rfl))) (jgs_cons (jg_name (pg_name (i := 2) sc_read.nd rfl (by first | exact .inl rfl | exact .inr rfl))) jgs_nil))) (jb_one (js_if (jt_cmp opd_notInS (je_lower (je_var 2 (pv 2))) (je_gstr (by rfl) hy.S_LETTERS) (by rfl)) (jb_one (js_raiseU rfl (takes_of rfl rfl rfl rfl) hy.X_BadWord (hr.mono (by decide)) (by rfl) hy.g_BadWord (je_var 1 (pv 1)) rfl rfl)) jb_nil))) (jb_one (js_ret (je_ty ty_tuple (by rfl) hy.z_tuple (by rfl) (ja_cons (je_lc (E' := E0) (own := [("sign", 2)]) rfl sc_read.nd (ji_str (je_var 0 (pv 0))) (blkOk_by (N := ["text", "k", "sign"]) (sc := defScope s_read) (own := [("sign", 2)]) (by decide +kernel)) (fun _ _ _ _ _ => (jgw_name (pg_name (i := 2) sc_read.nd rfl (by first | exact .inl rfl | exact .inr rfl)))) (fun _ _ _ _ _ => jts_nil) (fun _ _ _ _ _ => (je_tup (ja_cons (je_idxS rfl takes_never (je_gstr (by rfl) hy.S_LETTERS) (je_lower (je_var 2 (pv 2)))) (ja_cons (je_if (jt_cmp (opd_eq hr.units) (je_lower (je_var 2 (pv 2))) (je_var 2 (pv 2)) (by rfl)) je_int (je_neg je_int)) ja_nil))))) ja_nil)))))
abbrev F_read : CF := (cDef 1 3 b_read)
theorem g_read (hy : Hy P K mg) (tb : Tbs hy base) : JF P w K mg base 3 hy.f_read hy.fd_read ["text"] (nm hy) F_read := g0_read hy tb
def b__law_place : CS := (sSeq (sTryX 1 (cCall F_read (cCons (cVar 0) cNil))) (sRet (cC (.str "read"))))
theorem g0__law_place (hy : Hy P K mg) (tb : Tbs hy base) : JF P w K mg base 4 hy.f__law_place hy.fd__law_place ["text"] (nm hy) (cDef 1 2 b__law_place) :=
  have g_read := g_read (P := P) (w := w) (base := base) hy tb; jf_def (k := 3) hy.F__law_place sc__law_place fun cdv A outer s H E hr => (jb_cons (js_tryX (i := 1) rfl rfl sc__law_place.nd rfl rfl ⟨rfl, by decide, Or.inl hy.g_BadWord⟩ hy.e_BadWord_BadWord hy.X_BadWord.xf hy.X_BadWord.own rfl rfl takes_never (fun W9 pn9 xe9 E9 tk9 hW9 => (je_call g_read (hr.mono (by decide)) (by rfl) hy.m_read hy.F_read.kp hy.b_read (passes_len tk9 hW9) (ja_cons (je_var 0 (pv 0)) ja_nil)))) (jb_one (js_ret je_str)))
abbrev F__law_place : CF := (cDef 1 2 b__law_place)
theorem g__law_place (hy : Hy P K mg) (tb : Tbs hy base) : JF P w K mg base 4 hy.f__law_place hy.fd__law_place ["text"] (nm hy) F__law_place := g0__law_place hy tb
def b_still : CS := (sRet (cTupR (crg1 (cVar 0))))
theorem g0_still (hy : Hy P K mg) (tb : Tbs hy base) : JF P w K mg base 1 hy.f_still hy.fd_still ["many"] (nm hy) (cDef 1 1 b_still) :=
   jf_def (k := 0) hy.F_still sc_still fun cdv A outer s H E hr => (jb_one (js_ret (je_tupR rfl (by rfl) hy.z_tuple (jr_1 (by rfl) hy.z_range (je_var 0 (pv 0))))))
abbrev F_still : CF := (cDef 1 1 b_still)
theorem g_still (hy : Hy P K mg) (tb : Tbs hy base) : JF P w K mg base 1 hy.f_still hy.fd_still ["many"] (nm hy) F_still := g0_still hy tb
def b_raised : CS := (sSeq (sIf (cTst (cOp (fB2 ilt) (cVar 1) (cC (.int 0)))) (sPar 0 1 (cCons (cCall F_back (cCons (cVar 0) cNil)) (cCons (cNeg (cVar 1)) cNil))) sNil) (sSeq (sAsg (cCall F_still (cCons (cFn (f1 gLenA) (cCons (cVar 0) cNil)) cNil)) (gNm 2)) (sSeq (sWhile (cTst (cOp (fB2 igt) (cVar 1) (cC (.int 0)))) (sSeq (sIf (cTst (cOp fEq (cOp fMod (cVar 1) (cC (.int 2))) (cC (.int 1)))) (sAsg (cCall F_after (cCons (cVar 2) (cCons (cVar 0) cNil))) (gNm 2)) sNil) (sSeq (sAsg (cCall F_after (cCons (cVar 0) (cCons (cVar 0) cNil))) (gNm 0)) (sAug 1 (fI2c divOk idiv) (cC (.int 2)))))) (sRet (cVar 2)))))
theorem g0_raised (hy : Hy P K mg) (tb : Tbs hy base) : JF P w K mg base 2 hy.f_raised hy.fd_raised ["one", "many"] (nm hy) (cDef 2 3 b_raised) :=
  have g_after := g_after (P := P) (w := w) (base := base) hy tb; have g_back := g_back (P := P) (w := w) (base := base) hy tb; have g_still := g_still (P := P) (w := w) (base := base) hy tb; jf_def (k := 1) hy.F_raised sc_raised fun cdv A outer s H E hr => (jb_cons (js_if (jt_cmp opd_lt (je_var 1 (pv 1)) je_int (by rfl)) (jb_one (js_par (i := 0) (j := 1) rfl sc_raised.nd rfl rfl (by decide) rfl rfl (ja_cons (je_call g_back (hr.mono (by decide)) (by rfl) hy.m_back hy.F_back.kp hy.b_back (passes_call (takes_of rfl rfl rfl rfl) (fun _ _ _ _ h => h)) (ja_cons (je_var 0 (pv 0)) ja_nil)) (ja_cons (je_neg (je_var 1 (pv 1))) ja_nil)) (by first | rfl | decide +kernel | with_unfolding_all rfl))) jb_nil) (jb_cons (js_set (i := 2) sc_raised.nd rfl (by first | exact .inl rfl | exact .inr rfl) (je_call g_still (hr.mono (by decide)) (by rfl) hy.m_still hy.F_still.kp hy.b_still (passes_call (takes_of rfl rfl rfl rfl) (fun _ _ _ _ h => h)) (ja_cons (je_blt blt_lenA (by rfl) hy.z_len (by rfl) (ja_cons (je_var 0 (pv 0)) ja_nil)) ja_nil))) (jb_cons (js_while (passes_of rfl) (jt_cmp opd_gt (je_var 1 (pv 1)) je_int (by rfl)) (jb_cons (js_if (jt_cmp (opd_eq hr.units) (je_op opd_mod (je_var 1 (pv 1)) je_int) je_int (by rfl)) (jb_one (js_set (i := 2) sc_raised.nd rfl (by first | exact .inl rfl | exact .inr rfl) (je_call g_after (hr.mono (by decide)) (by rfl) hy.m_after hy.F_after.kp hy.b_after (passes_call (takes_of rfl rfl rfl rfl) (fun _ _ _ _ h => h)) (ja_cons (je_var 2 (pv 2)) (ja_cons (je_var 0 (pv 0)) ja_nil))))) jb_nil) (jb_cons (js_set (i := 0) sc_raised.nd rfl (by first | exact .inl rfl | exact .inr rfl) (je_call g_after (hr.mono (by decide)) (by rfl) hy.m_after hy.F_after.kp hy.b_after (passes_call (takes_of rfl rfl rfl rfl) (fun _ _ _ _ h => h)) (ja_cons (je_var 0 (pv 0)) (ja_cons (je_var 0 (pv 0)) ja_nil)))) (jb_one (js_aug (i := 1) sc_raised.nd rfl (by first | exact .inl rfl | exact .inr rfl) je_int opd_idiv))))) (jb_one (js_ret (je_var 2 (pv 2)))))))
abbrev F_raised : CF := (cDef 2 3 b_raised)
theorem g_raised (hy : Hy P K mg) (tb : Tbs hy base) : JF P w K mg base 2 hy.f_raised hy.fd_raised ["one", "many"] (nm hy) F_raised := g0_raised hy tb
def b_value : CS := (sSeq (sAsg (cCall F_still (cCons (cVar 2) cNil)) (gNm 3)) (sSeq (sFor (ciSeq (cVar 0)) (gTp 2 (gsCons (gNm 4) (gsCons (gNm 5) gsNil))) (sAsg (cCall F_after (cCons (cVar 3) (cCons (cIf (cTst (cOp fEq (cVar 5) (cC (.int 1)))) (cOp fIx (cVar 1) (cVar 4)) (cCall F_back (cCons (cOp fIx (cVar 1) (cVar 4)) cNil))) cNil))) (gNm 3))) (sRet (cVar 3))))
theorem g0_value (hy : Hy P K mg) (tb : Tbs hy base) : JF P w K mg base 2 hy.f_value hy.fd_value ["word", "turns", "many"] (nm hy) (cDef 3 6 b_value) :=
  have g_after := g_after (P := P) (w := w) (base := base) hy tb; have g_back := g_back (P := P) (w := w) (base := base) hy tb; have g_still := g_still (P := P) (w := w) (base := base) hy tb; jf_def (k := 1) hy.F_value sc_value fun cdv A outer s H E hr => (jb_cons (js_set (i := 3) sc_value.nd rfl (by first | exact .inl rfl | exact .inr rfl) (je_call g_still (hr.mono (by decide)) (by rfl) hy.m_still hy.F_still.kp hy.b_still (passes_call (takes_of rfl rfl rfl rfl) (fun _ _ _ _ h => h)) (ja_cons (je_var 2 (pv 2)) ja_nil))) (jb_cons (js_for (passes_of rfl) rfl (ji_seq (je_var 0 (pv 0))) (jg_tup rfl (jgs_cons (jg_name (pg_name (i := 4) sc_value.nd rfl (by first | exact .inl rfl | exact .inr rfl))) (jgs_cons (jg_name (pg_name (i := 5) sc_value.nd rfl (by first | exact .inl rfl | exact .inr rfl))) jgs_nil))) (jb_one (js_set (i := 3) sc_value.nd rfl (by first | exact .inl rfl | exact .inr rfl) (je_call g_after (hr.mono (by decide)) (by rfl) hy.m_after hy.F_after.kp hy.b_after (passes_call (takes_of rfl rfl rfl rfl) (fun _ _ _ _ h => h)) (ja_cons (je_var 3 (pv 3)) (ja_cons (je_if (jt_cmp (opd_eq hr.units) (je_var 5 (pv 5)) je_int (by rfl)) (je_ix (hu_of hr) (je_var 1 (pv 1)) (je_var 4 (pv 4)) (fun _ _ => rfl)) (je_call g_back (hr.mono (by decide)) (by rfl) hy.m_back hy.F_back.kp hy.b_back (passes_call (takes_of rfl rfl rfl rfl) (fun _ _ _ _ h => h)) (ja_cons (je_ix (hu_of hr) (je_var 1 (pv 1)) (je_var 4 (pv 4)) (fun _ _ => rfl)) ja_nil))) ja_nil)))))) (jb_one (js_ret (je_var 3 (pv 3))))))
abbrev F_value : CF := (cDef 3 6 b_value)
theorem g_value (hy : Hy P K mg) (tb : Tbs hy base) : JF P w K mg base 2 hy.f_value hy.fd_value ["word", "turns", "many"] (nm hy) F_value := g0_value hy tb
theorem g0__law_dice (hy : Hy P K mg) (tb : Tbs hy base) : JF P w K mg base 1 hy.f__law_dice hy.fd__law_dice ["cell"] (nm hy) (cDef 1 1 b_dice) :=
   jf_def (k := 0) hy.F__law_dice sc__law_dice fun cdv A outer s H E hr => (jb_cons (js_if (jt_chain opd_lt opd_lt (je_op opd_sub je_int je_int) (je_var 0 (pv 0)) je_int) (jb_one (js_ret (je_lst (ja_cons (je_blt blt_abs (by rfl) hy.z_abs (by rfl) (ja_cons (je_var 0 (pv 0)) ja_nil)) (ja_cons je_int (ja_cons je_int ja_nil)))))) jb_nil) (jb_one (js_ret (je_lst (ja_cons (je_var 0 (pv 0)) (ja_cons (je_op opd_add je_int (je_op opd_mod (je_ty ty_int (by rfl) hy.z_int (by rfl) (ja_cons (je_var 0 (pv 0)) ja_nil)) je_int)) (ja_cons (je_ty ty_int (by rfl) hy.z_int (by rfl) (ja_cons (je_cmp opd_ge (je_var 0 (pv 0)) (je_op opd_pow je_int je_int) (by rfl)) ja_nil)) ja_nil)))))))
abbrev F__law_dice : CF := fDice
theorem g__law_dice (hy : Hy P K mg) (tb : Tbs hy base) : JF P w K mg base 1 hy.f__law_dice hy.fd__law_dice ["cell"] (nm hy) F__law_dice := jf_dice (g0__law_dice hy tb) dice_ok
theorem g__law_rounds (hy : Hy P K mg) (tb : Tbs hy base) : FnOk P w K mg base (L2.CX P w) 2 hy.f__law_rounds hy.fd__law_rounds ["script", "most"] (spRnd K (nm hy)) :=
  have g__law_dice := g__law_dice (P := P) (w := w) (base := base) hy tb
  hy.F__law_rounds.okX sc__law_rounds (fun vs H Q E h => by obtain ⟨_, _, _, rfl, _⟩ := h; rfl) fun cdv A outer s H vs Q E hr h =>
    ⟨_, rnd_body (N := nm hy) (E := E) (c := b_rnd) sc__law_rounds.nd rfl (.inl rfl) (pv 0) (pv 1) (jb_cons (js_if (jt_cmp (opd_eq hr.units) (je_var 2 (pv 2)) (je_lst ja_nil) (by rfl)) (jb_one (js_set (i := 2) sc__law_rounds.nd rfl (by first | exact .inl rfl | exact .inr rfl) (je_lst (ja_cons je_int ja_nil)))) jb_nil) (jb_one (js_ret (je_lc (E' := E0) (own := [("cell", 3)]) rfl sc__law_rounds.nd (ji_seq (je_var 2 (pv 2))) (blkOk_by (N := ["script", "most", "cells", "cell"]) (sc := defScope s__law_rounds) (own := [("cell", 3)]) (by decide +kernel)) (fun _ _ _ _ _ => (jgw_name (pg_name (i := 3) sc__law_rounds.nd rfl (by first | exact .inl rfl | exact .inr rfl)))) (fun _ _ _ _ _ => jts_nil) (fun _ _ _ _ _ => (je_call g__law_dice (hr.mono (by decide)) (by rfl) hy.m__law_dice hy.F__law_dice.kp hy.b__law_dice passL (ja_cons (je_var 3 (pv 3)) ja_nil))))))) rnd_ok, tRnd_of h (by decide)⟩
def b_short : CS := (sSeq (sAsg (cLst cNil) (gNm 1)) (sSeq (sFor (ciSeq (cVar 0)) (gTp 2 (gsCons (gNm 2) (gsCons (gNm 3) gsNil))) (sIf (ctAnd (cTst (cOp fNe (cVar 1) (cLst cNil))) (cTst (cOp fEq (cOp fIx (cVar 1) (cNeg (cC (.int 1)))) (cTup (cCons (cVar 2) (cCons (cNeg (cVar 3)) cNil)))))) (sExpr (cMt0 fPop (cVar 1))) (sExpr (cMt fAppend (cVar 1) (cCons (cTup (cCons (cVar 2) (cCons (cVar 3) cNil))) cNil))))) (sRet (cFn (f1 gTuple) (cCons (cVar 1) cNil)))))
theorem g0_short (hy : Hy P K mg) (tb : Tbs hy base) : JF P w K mg base 1 hy.f_short hy.fd_short ["word"] (nm hy) (cDef 1 4 b_short) :=
   jf_def (k := 0) hy.F_short sc_short fun cdv A outer s H E hr => (jb_cons (js_set (i := 1) sc_short.nd rfl (by first | exact .inl rfl | exact .inr rfl) (je_lst ja_nil)) (jb_cons (js_for (passes_of rfl) rfl (ji_seq (je_var 0 (pv 0))) (jg_tup rfl (jgs_cons (jg_name (pg_name (i := 2) sc_short.nd rfl (by first | exact .inl rfl | exact .inr rfl))) (jgs_cons (jg_name (pg_name (i := 3) sc_short.nd rfl (by first | exact .inl rfl | exact .inr rfl))) jgs_nil))) (jb_one (js_if (jt_of (jw_and (jt_cmp (opd_ne hr.units) (je_var 1 (pv 1)) (je_lst ja_nil) (by rfl)) (jw_and1 (jt_cmp (opd_eq hr.units) (je_ix (hu_of hr) (je_var 1 (pv 1)) (je_neg je_int) (fun _ _ => rfl)) (je_tup (ja_cons (je_var 2 (pv 2)) (ja_cons (je_neg (je_var 3 (pv 3))) ja_nil))) (by rfl))))) (jb_one (js_expr (je_mt0 PySem.F.plainAttrs_list PySem.F.slot_list_pop PySem.F.type_list_pop mtd_pop (je_var 1 (pv 1))))) (jb_one (js_expr (je_mt PySem.F.plainAttrs_list PySem.F.slot_list_append PySem.F.type_list_append mtd_append (je_var 1 (pv 1)) (ja_cons (je_tup (ja_cons (je_var 2 (pv 2)) (ja_cons (je_var 3 (pv 3)) ja_nil))) ja_nil))))))) (jb_one (js_ret (je_ty ty_tuple (by rfl) hy.z_tuple (by rfl) (ja_cons (je_var 1 (pv 1)) ja_nil))))))
abbrev F_short : CF := (cDef 1 4 b_short)
theorem g_short (hy : Hy P K mg) (tb : Tbs hy base) : JF P w K mg base 1 hy.f_short hy.fd_short ["word"] (nm hy) F_short := g0_short hy tb
def b_undone : CS := (sRet (cFn (f1 gTuple) (cCons (cLc (ciRev (cVar 0)) (gTp 2 (gsCons (gNm 1) (gsCons (gNm 2) gsNil))) ctYes (cTup (cCons (cVar 1) (cCons (cNeg (cVar 2)) cNil))) [1, 2]) cNil)))
theorem g0_undone (hy : Hy P K mg) (tb : Tbs hy base) : JF P w K mg base 1 hy.f_undone hy.fd_undone ["word"] (nm hy) (cDef 1 3 b_undone) :=
   jf_def (k := 0) hy.F_undone sc_undone fun cdv A outer s H E hr => (jb_one (js_ret (je_ty ty_tuple (by rfl) hy.z_tuple (by rfl) (ja_cons (je_lc (E' := E0) (own := [("letter", 1), ("way", 2)]) rfl sc_undone.nd (ji_rev (by rfl) hy.z_reversed (je_var 0 (pv 0))) (blkOk_by (N := ["word", "letter", "way"]) (sc := defScope s_undone) (own := [("letter", 1), ("way", 2)]) (by decide +kernel)) (fun _ _ _ _ _ => (jgw_tup rfl (jgsw_cons (jgw_name (pg_name (i := 1) sc_undone.nd rfl (by first | exact .inl rfl | exact .inr rfl))) (jgsw_cons (jgw_name (pg_name (i := 2) sc_undone.nd rfl (by first | exact .inl rfl | exact .inr rfl))) jgsw_nil)))) (fun _ _ _ _ _ => jts_nil) (fun _ _ _ _ _ => (je_tup (ja_cons (je_var 1 (pv 1)) (ja_cons (je_neg (je_var 2 (pv 2))) ja_nil))))) ja_nil))))
abbrev F_undone : CF := (cDef 1 3 b_undone)
theorem g_undone (hy : Hy P K mg) (tb : Tbs hy base) : JF P w K mg base 1 hy.f_undone hy.fd_undone ["word"] (nm hy) F_undone := g0_undone hy tb
def b_repeated : CS := (sRet (cCall F_short (cCons (cIf (cTst (cOp (fB2 ige) (cVar 1) (cC (.int 0)))) (cOp fRepW (cVar 0) (cVar 1)) (cOp fRepW (cCall F_undone (cCons (cVar 0) cNil)) (cNeg (cVar 1)))) cNil)))
theorem g0_repeated (hy : Hy P K mg) (tb : Tbs hy base) : JF P w K mg base 2 hy.f_repeated hy.fd_repeated ["word", "many"] (nm hy) (cDef 2 2 b_repeated) :=
  have g_short := g_short (P := P) (w := w) (base := base) hy tb; have g_undone := g_undone (P := P) (w := w) (base := base) hy tb; jf_def (k := 1) hy.F_repeated sc_repeated fun cdv A outer s H E hr => (jb_one (js_ret (je_call g_short (hr.mono (by decide)) (by rfl) hy.m_short hy.F_short.kp hy.b_short (passes_call (takes_of rfl rfl rfl rfl) (fun _ _ _ _ h => h)) (ja_cons (je_if (jt_cmp opd_ge (je_var 1 (pv 1)) je_int (by rfl)) (je_op opd_repW (je_var 0 (pv 0)) (je_var 1 (pv 1))) (je_op opd_repW (je_call g_undone (hr.mono (by decide)) (by rfl) hy.m_undone hy.F_undone.kp hy.b_undone (passes_call (takes_of rfl rfl rfl rfl) (fun _ _ _ _ h => h)) (ja_cons (je_var 0 (pv 0)) ja_nil)) (je_neg (je_var 1 (pv 1))))) ja_nil))))
abbrev F_repeated : CF := (cDef 2 2 b_repeated)
theorem g_repeated (hy : Hy P K mg) (tb : Tbs hy base) : JF P w K mg base 2 hy.f_repeated hy.fd_repeated ["word", "many"] (nm hy) F_repeated := g0_repeated hy tb
def b_bring_out : CS := (sSeq (sAsg (cCall F_short (cCons (cVar 0) cNil)) (gNm 0)) (sSeq (sIf (cTst (cOp fEq (cVar 0) (cTup cNil))) (sRaise 2) sNil) (sSeq (sFor (ciR2 (cCons (cC (.int 1)) (cCons (cOp fAdd (cFn (f1 gLenA) (cCons (cVar 0) cNil)) (cC (.int 1))) cNil))) (gNm 1) (sIf (ctAnd (cTst (cOp fEq (cOp fMod (cFn (f1 gLenA) (cCons (cVar 0) cNil)) (cVar 1)) (cC (.int 0)))) (cTst (cOp fEq (cOp fRepW (cSl (cVar 0) coN (coS (cVar 1))) (cOp fDiv (cFn (f1 gLenA) (cCons (cVar 0) cNil)) (cVar 1))) (cVar 0)))) (sRet (cTup (cCons (cSl (cVar 0) coN (coS (cVar 1))) (cCons (cOp fDiv (cFn (f1 gLenA) (cCons (cVar 0) cNil)) (cVar 1)) cNil)))) sNil)) (sRet (cTup (cCons (cVar 0) (cCons (cC (.int 1)) cNil)))))))
theorem g0_bring_out (hy : Hy P K mg) (tb : Tbs hy base) : JF P w K mg base 2 hy.f_bring_out hy.fd_bring_out ["word"] (nm hy) (cDef 1 2 b_bring_out) :=
  have g_short := g_short (P := P) (w := w) (base := base) hy tb; jf_def (k := 1) hy.F_bring_out sc_bring_out fun cdv A outer s H E hr => (jb_cons (js_set (i := 0) sc_bring_out.nd rfl (by first | exact .inl rfl | exact .inr rfl) (je_call g_short (hr.mono (by decide)) (by rfl) hy.m_short hy.F_short.kp hy.b_short (passes_call (takes_of rfl rfl rfl rfl) (fun _ _ _ _ h => h)) (ja_cons (je_var 0 (pv 0)) ja_nil))) (jb_cons (js_if (jt_cmp (opd_eq hr.units) (je_var 0 (pv 0)) (je_tup ja_nil) (by rfl)) (jb_one (js_raise rfl (takes_of rfl rfl rfl rfl) (pmk_own PySem.F.excBase_ValueError hy.x_NoWay hy.g_NoWay hy.k_NoWay (raises_own hy.s_NoWay hy.t_NoWay) (by rfl)) rfl)) jb_nil) (jb_cons (js_for (passes_of rfl) rfl (ji_range2 (by rfl) hy.z_range (ja_cons je_int (ja_cons (je_op opd_add (je_blt blt_lenA (by rfl) hy.z_len (by rfl) (ja_cons (je_var 0 (pv 0)) ja_nil)) je_int) ja_nil))) (jg_name (pg_name (i := 1) sc_bring_out.nd rfl (by first | exact .inl rfl | exact .inr rfl))) (jb_one (js_if (jt_of (jw_and (jt_cmp (opd_eq hr.units) (je_op opd_mod (je_blt blt_lenA (by rfl) hy.z_len (by rfl) (ja_cons (je_var 0 (pv 0)) ja_nil)) (je_var 1 (pv 1))) je_int (by rfl)) (jw_and1 (jt_cmp (opd_eq hr.units) (je_op opd_repW (je_slice (je_var 0 (pv 0)) jo_none (jo_some (je_var 1 (pv 1)))) (je_op opd_div (je_blt blt_lenA (by rfl) hy.z_len (by rfl) (ja_cons (je_var 0 (pv 0)) ja_nil)) (je_var 1 (pv 1)))) (je_var 0 (pv 0)) (by rfl))))) (jb_one (js_ret (je_tup (ja_cons (je_slice (je_var 0 (pv 0)) jo_none (jo_some (je_var 1 (pv 1)))) (ja_cons (je_op opd_div (je_blt blt_lenA (by rfl) hy.z_len (by rfl) (ja_cons (je_var 0 (pv 0)) ja_nil)) (je_var 1 (pv 1))) ja_nil))))) jb_nil))) (jb_one (js_ret (je_tup (ja_cons (je_var 0 (pv 0)) (ja_cons je_int ja_nil))))))))
abbrev F_bring_out : CF := (cDef 1 2 b_bring_out)
theorem g_bring_out (hy : Hy P K mg) (tb : Tbs hy base) : JF P w K mg base 2 hy.f_bring_out hy.fd_bring_out ["word"] (nm hy) F_bring_out := g0_bring_out hy tb
def b__law_turn : CS := (sSeq (sAsg (cLstR (crg1 (cVar 1))) (gNm 2)) (sSeq (sAsg (cLst cNil) (gNm 3)) (sSeq (sWhile (cTst (cOp fNe (cVar 2) (cLst cNil))) (sExpr (cMt fAppend (cVar 3) (cCons (cMt fPopAt (cVar 2) (cCons (cCall F__law_roll (cCons (cVar 0) (cCons (cFn (f1 gLenA) (cCons (cVar 2) cNil)) cNil))) cNil)) cNil)))) (sRet (cFn (f1 gTuple) (cCons (cVar 3) cNil))))))
theorem g0__law_turn (hy : Hy P K mg) (tb : Tbs hy base) : JF P w K mg base 2 hy.f__law_turn hy.fd__law_turn ["dice", "many"] (nm hy) (cDef 2 4 b__law_turn) :=
  have g__law_roll := g__law_roll (P := P) (w := w) (base := base) hy tb; jf_def (k := 1) hy.F__law_turn sc__law_turn fun cdv A outer s H E hr => (jb_cons (js_set (i := 2) sc__law_turn.nd rfl (by first | exact .inl rfl | exact .inr rfl) (je_listR rfl (by rfl) hy.z_list (jr_1 (by rfl) hy.z_range (je_var 1 (pv 1))))) (jb_cons (js_set (i := 3) sc__law_turn.nd rfl (by first | exact .inl rfl | exact .inr rfl) (je_lst ja_nil)) (jb_cons (js_while (passes_of rfl) (jt_cmp (opd_ne hr.units) (je_var 2 (pv 2)) (je_lst ja_nil) (by rfl)) (jb_one (js_expr (je_mt PySem.F.plainAttrs_list PySem.F.slot_list_append PySem.F.type_list_append mtd_append (je_var 3 (pv 3)) (ja_cons (je_mt PySem.F.plainAttrs_list PySem.F.slot_list_pop PySem.F.type_list_pop mtd_popAt (je_var 2 (pv 2)) (ja_cons (je_call g__law_roll (hr.mono (by decide)) (by rfl) hy.m__law_roll hy.F__law_roll.kp hy.b__law_roll (passes_call (takes_of rfl rfl rfl rfl) (fun _ _ _ _ h => h)) (ja_cons (je_var 0 (pv 0)) (ja_cons (je_blt blt_lenA (by rfl) hy.z_len (by rfl) (ja_cons (je_var 2 (pv 2)) ja_nil)) ja_nil))) ja_nil)) ja_nil))))) (jb_one (js_ret (je_ty ty_tuple (by rfl) hy.z_tuple (by rfl) (ja_cons (je_var 3 (pv 3)) ja_nil)))))))
abbrev F__law_turn : CF := (cDef 2 4 b__law_turn)
theorem g__law_turn (hy : Hy P K mg) (tb : Tbs hy base) : JF P w K mg base 2 hy.f__law_turn hy.fd__law_turn ["dice", "many"] (nm hy) F__law_turn := g0__law_turn hy tb
def b_word_crossing : CS := (sRet (cCall F_short (cCons (cOp fAdd (cOp fAdd (cOp fAdd (cCall F_undone (cCons (cVar 0) cNil)) (cCall F_undone (cCons (cVar 1) cNil))) (cVar 0)) (cVar 1)) cNil)))
theorem g0_word_crossing (hy : Hy P K mg) (tb : Tbs hy base) : JF P w K mg base 2 hy.f_word_crossing hy.fd_word_crossing ["one", "other"] (nm hy) (cDef 2 2 b_word_crossing) :=
  have g_short := g_short (P := P) (w := w) (base := base) hy tb; have g_undone := g_undone (P := P) (w := w) (base := base) hy tb; jf_def (k := 1) hy.F_word_crossing sc_word_crossing fun cdv A outer s H E hr => (jb_one (js_ret (je_call g_short (hr.mono (by decide)) (by rfl) hy.m_short hy.F_short.kp hy.b_short (passes_call (takes_of rfl rfl rfl rfl) (fun _ _ _ _ h => h)) (ja_cons (je_op opd_add (je_op opd_add (je_op opd_add (je_call g_undone (hr.mono (by decide)) (by rfl) hy.m_undone hy.F_undone.kp hy.b_undone (passes_call (takes_of rfl rfl rfl rfl) (fun _ _ _ _ h => h)) (ja_cons (je_var 0 (pv 0)) ja_nil)) (je_call g_undone (hr.mono (by decide)) (by rfl) hy.m_undone hy.F_undone.kp hy.b_undone (passes_call (takes_of rfl rfl rfl rfl) (fun _ _ _ _ h => h)) (ja_cons (je_var 1 (pv 1)) ja_nil))) (je_var 0 (pv 0))) (je_var 1 (pv 1))) ja_nil))))
abbrev F_word_crossing : CF := (cDef 2 2 b_word_crossing)
theorem g_word_crossing (hy : Hy P K mg) (tb : Tbs hy base) : JF P w K mg base 2 hy.f_word_crossing hy.fd_word_crossing ["one", "other"] (nm hy) F_word_crossing := g0_word_crossing hy tb
def b__law_word : CS := (sRet (cFn (f1 gTuple) (cCons (cLc (ciR1 (cCons (cCall F__law_roll (cCons (cVar 0) (cCons (cOp fAdd (cVar 2) (cC (.int 1))) cNil))) cNil)) (gNm 3) ctYes (cTup (cCons (cCall F__law_roll (cCons (cVar 0) (cCons (cVar 1) cNil))) (cCons (cOp fIx (cLst (cCons (cC (.int 1)) (cCons (cOp fSub (cC (.int 0)) (cC (.int 1))) cNil))) (cCall F__law_roll (cCons (cVar 0) (cCons (cC (.int 2)) cNil)))) cNil))) [3]) cNil)))
theorem g0__law_word (hy : Hy P K mg) (tb : Tbs hy base) : JF P w K mg base 2 hy.f__law_word hy.fd__law_word ["dice", "many", "most"] (nm hy) (cDef 3 4 b__law_word) :=
  have g__law_roll := g__law_roll (P := P) (w := w) (base := base) hy tb; jf_def (k := 1) hy.F__law_word sc__law_word fun cdv A outer s H E hr => (jb_one (js_ret (je_ty ty_tuple (by rfl) hy.z_tuple (by rfl) (ja_cons (je_lc (E' := E0) (own := [("k", 3)]) rfl sc__law_word.nd (ji_range1 (by rfl) hy.z_range (ja_cons (je_call g__law_roll (hr.mono (by decide)) (by rfl) hy.m__law_roll hy.F__law_roll.kp hy.b__law_roll (passes_call (takes_of rfl rfl rfl rfl) (fun _ _ _ _ h => h)) (ja_cons (je_var 0 (pv 0)) (ja_cons (je_op opd_add (je_var 2 (pv 2)) je_int) ja_nil))) ja_nil)) (blkOk_by (N := ["dice", "many", "most", "k"]) (sc := defScope s__law_word) (own := [("k", 3)]) (by decide +kernel)) (fun _ _ _ _ _ => (jgw_name (pg_name (i := 3) sc__law_word.nd rfl (by first | exact .inl rfl | exact .inr rfl)))) (fun _ _ _ _ _ => jts_nil) (fun _ _ _ _ _ => (je_tup (ja_cons (je_call g__law_roll (hr.mono (by decide)) (by rfl) hy.m__law_roll hy.F__law_roll.kp hy.b__law_roll passL (ja_cons (je_var 0 (pv 0)) (ja_cons (je_var 1 (pv 1)) ja_nil))) (ja_cons (je_ix (hu_of hr) (je_lst (ja_cons je_int (ja_cons (je_op opd_sub je_int je_int) ja_nil))) (je_call g__law_roll (hr.mono (by decide)) (by rfl) hy.m__law_roll hy.F__law_roll.kp hy.b__law_roll passL (ja_cons (je_var 0 (pv 0)) (ja_cons je_int ja_nil))) (fun _ _ => rfl)) ja_nil))))) ja_nil))))
abbrev F__law_word : CF := (cDef 3 4 b__law_word)
theorem g__law_word (hy : Hy P K mg) (tb : Tbs hy base) : JF P w K mg base 2 hy.f__law_word hy.fd__law_word ["dice", "many", "most"] (nm hy) F__law_word := g0__law_word hy tb

def K_13 : CK := fun σ η => (sIf (cTst (cOp fNe (cVar 10) (cTup cNil))) (sSeq (sAsg (cCall F_bring_out (cCons (cVar 2) cNil)) (gTp 2 (gsCons (gNm 12) (gsCons (gNm 13) gsNil)))) (sSeq (sIf (cTst (cOp fNe (cOp fRepW (cVar 12) (cVar 13)) (cVar 10))) (sRet (cC (.bl false))) sNil) (sIf (cTst (cOp fNe (cLc (ciR2 (cCons (cC (.int 1)) (cCons (cFn (f1 gLenA) (cCons (cVar 12) cNil)) cNil))) (gNm 14) (ctAnd (cTst (cOp fEq (cOp fMod (cFn (f1 gLenA) (cCons (cVar 12) cNil)) (cVar 14)) (cC (.int 0)))) (cTst (cOp fEq (cOp fRepW (cSl (cVar 12) coN (coS (cVar 14))) (cOp fDiv (cFn (f1 gLenA) (cCons (cVar 12) cNil)) (cVar 14))) (cVar 12)))) (cVar 14) [14]) (cLst cNil))) (sRet (cC (.bl false))) sNil))) sNil) σ η (kT 15)
def K_12 : CK := fun σ η => (sIf (ctOr (cTst (cOp fNe (cCall F_read (cCons (cCall F_told (cCons (cVar 2) cNil)) cNil)) (cVar 2))) (ctOr (cTst (cOp fNe (cCall F__law_place (cCons (cOp fAdd (cCall F_told (cCons (cVar 2) cNil)) (cC (.str "1"))) cNil)) (cFn (f1 gLenA) (cCons (cVar 2) cNil)))) (cTst (cOp fNe (cCall F__law_place (cCons (cC (.str "i")) cNil)) (cC (.int 0)))))) (sRet (cC (.bl false))) sNil) σ η { kT 15 with nx := K_13 }
def K_11 : CK := fun σ η => (sIf (cTst (cOp fNe (cCall F_value (cCons (cCall F_word_crossing (cCons (cVar 2) (cCons (cVar 3) cNil))) (cCons (cVar 4) (cCons (cC (.int 5)) cNil)))) (cCall F_crossing (cCons (cVar 5) (cCons (cVar 6) cNil))))) (sRet (cC (.bl false))) sNil) σ η { kT 15 with nx := K_12 }
def K_10 : CK := fun σ η => (sIf (cTst (cOp fNe (cCall F_value (cCons (cCall F_repeated (cCons (cVar 2) (cCons (cVar 11) cNil))) (cCons (cVar 4) (cCons (cC (.int 5)) cNil)))) (cCall F_raised (cCons (cVar 5) (cCons (cVar 11) cNil))))) (sRet (cC (.bl false))) sNil) σ η { kT 15 with nx := K_11 }
def K_9 : CK := fun σ η => (sAsg (cOp fSub (cCall F__law_roll (cCons (cVar 1) (cCons (cC (.int 9)) cNil))) (cC (.int 4))) (gNm 11)) σ η { kT 15 with nx := K_10 }
def K_8 : CK := fun σ η => (sIf (cTst (cOp fNe (cCall F_value (cCons (cOp fAdd (cVar 2) (cVar 3)) (cCons (cVar 4) (cCons (cC (.int 5)) cNil)))) (cCall F_after (cCons (cVar 5) (cCons (cVar 6) cNil))))) (sRet (cC (.bl false))) sNil) σ η { kT 15 with nx := K_9 }
def K_7 : CK := fun σ η => (sIf (ctOr (cTst (cOp fNe (cCall F_value (cCons (cCall F_undone (cCons (cVar 2) cNil)) (cCons (cVar 4) (cCons (cC (.int 5)) cNil)))) (cCall F_back (cCons (cVar 5) cNil)))) (cTst (cOp fNe (cCall F_short (cCons (cOp fAdd (cVar 2) (cCall F_undone (cCons (cVar 2) cNil))) cNil)) (cTup cNil)))) (sRet (cC (.bl false))) sNil) σ η { kT 15 with nx := K_8 }
def K_6 : CK := fun σ η => (sIf (cTst (cOp fNe (cLc (ciR2 (cCons (cC (.int 1)) (cCons (cFn (f1 gLenA) (cCons (cVar 10) cNil)) cNil))) (gNm 14) (cTst (cOp fEq (cOp fIx (cVar 10) (cVar 14)) (cTup (cCons (cOp fIx (cOp fIx (cVar 10) (cOp fSub (cVar 14) (cC (.int 1)))) (cC (.int 0))) (cCons (cOp fSub (cC (.int 0)) (cOp fIx (cOp fIx (cVar 10) (cOp fSub (cVar 14) (cC (.int 1)))) (cC (.int 1)))) cNil))))) (cVar 14) [14]) (cLst cNil))) (sRet (cC (.bl false))) sNil) σ η { kT 15 with nx := K_7 }
def K_5 : CK := fun σ η => (sIf (ctOr (cTst (cOp fNe (cVar 5) (cVar 7))) (cTst (cOp fNe (cCall F_value (cCons (cVar 10) (cCons (cVar 4) (cCons (cC (.int 5)) cNil)))) (cVar 5)))) (sRet (cC (.bl false))) sNil) σ η { kT 15 with nx := K_6 }
def K_4 : CK := fun σ η => (sAsg (cCall F_short (cCons (cVar 2) cNil)) (gNm 10)) σ η { kT 15 with nx := K_5 }
def K_3 : CK := fun σ η => (sFor (ciSeq (cVar 2)) (gTp 2 (gsCons (gNm 8) (gsCons (gNm 9) gsNil))) (sAsg (cCall F_after (cCons (cVar 7) (cCons (cIf (cTst (cOp fEq (cVar 9) (cC (.int 1)))) (cOp fIx (cVar 4) (cVar 8)) (cCall F_back (cCons (cOp fIx (cVar 4) (cVar 8)) cNil))) cNil))) (gNm 7))) σ η { kT 15 with nx := K_4 }
def K_2 : CK := fun σ η => (sAsg (cCall F_still (cCons (cC (.int 5)) cNil)) (gNm 7)) σ η { kT 15 with nx := K_3 }
def K_1 : CK := fun σ η => (sPar 5 6 (cCons (cCall F_value (cCons (cVar 2) (cCons (cVar 4) (cCons (cC (.int 5)) cNil)))) (cCons (cCall F_value (cCons (cVar 3) (cCons (cVar 4) (cCons (cC (.int 5)) cNil)))) cNil))) σ η { kT 15 with nx := K_2 }
def K_0 : CK := fun σ η => (sPar3 2 3 4 (cCons (cCall F__law_word (cCons (cVar 1) (cCons (cC (.int 3)) (cCons (cC (.int 8)) cNil)))) (cCons (cCall F__law_word (cCons (cVar 1) (cCons (cC (.int 3)) (cCons (cC (.int 8)) cNil)))) (cCons (cLc (ciR1 (cCons (cC (.int 3)) cNil)) (gNm 14) ctYes (cCall F__law_turn (cCons (cVar 1) (cCons (cC (.int 5)) cNil))) [14]) cNil)))) σ η { kT 15 with nx := K_1 }
theorem seqK {a b : CS} {k : KS} {K : CK} (h : K = fun σ η => b σ η k) : (fun σ η => a σ η { k with nx := K }) = fun σ η => sSeq a b σ η k := by
  subst h
  rfl
theorem e_13 : K_13 = fun σ η => T16.s_13 σ η (kT 15) := by unfold K_13 T16.s_13; rfl
theorem eL_13 : K_13 = fun σ η => T16.s_13 σ η (kT 15) := e_13
theorem e_12 : K_12 = fun σ η => T16.s_12 σ η ({ kT 15 with nx := K_13 }) := by unfold K_12 T16.s_12; rfl
theorem eL_12 : K_12 = fun σ η => (sSeq T16.s_12 T16.s_13) σ η (kT 15) := e_12.trans (seqK eL_13)
theorem e_11 : K_11 = fun σ η => T16.s_11 σ η ({ kT 15 with nx := K_12 }) := by unfold K_11 T16.s_11; rfl
theorem eL_11 : K_11 = fun σ η => (sSeq T16.s_11 (sSeq T16.s_12 T16.s_13)) σ η (kT 15) := e_11.trans (seqK eL_12)
theorem e_10 : K_10 = fun σ η => T16.s_10 σ η ({ kT 15 with nx := K_11 }) := by unfold K_10 T16.s_10; rfl
theorem eL_10 : K_10 = fun σ η => (sSeq T16.s_10 (sSeq T16.s_11 (sSeq T16.s_12 T16.s_13))) σ η (kT 15) := e_10.trans (seqK eL_11)
theorem e_9 : K_9 = fun σ η => T16.s_9 σ η ({ kT 15 with nx := K_10 }) := by unfold K_9 T16.s_9; rfl
theorem eL_9 : K_9 = fun σ η => (sSeq T16.s_9 (sSeq T16.s_10 (sSeq T16.s_11 (sSeq T16.s_12 T16.s_13)))) σ η (kT 15) := e_9.trans (seqK eL_10)
theorem e_8 : K_8 = fun σ η => T16.s_8 σ η ({ kT 15 with nx := K_9 }) := by unfold K_8 T16.s_8; rfl
theorem eL_8 : K_8 = fun σ η => (sSeq T16.s_8 (sSeq T16.s_9 (sSeq T16.s_10 (sSeq T16.s_11 (sSeq T16.s_12 T16.s_13))))) σ η (kT 15) := e_8.trans (seqK eL_9)
theorem e_7 : K_7 = fun σ η => T16.s_7 σ η ({ kT 15 with nx := K_8 }) := by unfold K_7 T16.s_7; rfl
theorem eL_7 : K_7 = fun σ η => (sSeq T16.s_7 (sSeq T16.s_8 (sSeq T16.s_9 (sSeq T16.s_10 (sSeq T16.s_11 (sSeq T16.s_12 T16.s_13)))))) σ η (kT 15) := e_7.trans (seqK eL_8)
theorem e_6 : K_6 = fun σ η => T16.s_6 σ η ({ kT 15 with nx := K_7 }) := by unfold K_6 T16.s_6; rfl
theorem eL_6 : K_6 = fun σ η => (sSeq T16.s_6 (sSeq T16.s_7 (sSeq T16.s_8 (sSeq T16.s_9 (sSeq T16.s_10 (sSeq T16.s_11 (sSeq T16.s_12 T16.s_13))))))) σ η (kT 15) := e_6.trans (seqK eL_7)
theorem e_5 : K_5 = fun σ η => T16.s_5 σ η ({ kT 15 with nx := K_6 }) := by unfold K_5 T16.s_5; rfl
theorem eL_5 : K_5 = fun σ η => (sSeq T16.s_5 (sSeq T16.s_6 (sSeq T16.s_7 (sSeq T16.s_8 (sSeq T16.s_9 (sSeq T16.s_10 (sSeq T16.s_11 (sSeq T16.s_12 T16.s_13)))))))) σ η (kT 15) := e_5.trans (seqK eL_6)
theorem e_4 : K_4 = fun σ η => T16.s_4 σ η ({ kT 15 with nx := K_5 }) := by unfold K_4 T16.s_4; rfl
theorem eL_4 : K_4 = fun σ η => (sSeq T16.s_4 (sSeq T16.s_5 (sSeq T16.s_6 (sSeq T16.s_7 (sSeq T16.s_8 (sSeq T16.s_9 (sSeq T16.s_10 (sSeq T16.s_11 (sSeq T16.s_12 T16.s_13))))))))) σ η (kT 15) := e_4.trans (seqK eL_5)
theorem e_3 : K_3 = fun σ η => T16.s_3 σ η ({ kT 15 with nx := K_4 }) := by unfold K_3 T16.s_3; rfl
theorem eL_3 : K_3 = fun σ η => (sSeq T16.s_3 (sSeq T16.s_4 (sSeq T16.s_5 (sSeq T16.s_6 (sSeq T16.s_7 (sSeq T16.s_8 (sSeq T16.s_9 (sSeq T16.s_10 (sSeq T16.s_11 (sSeq T16.s_12 T16.s_13)))))))))) σ η (kT 15) := e_3.trans (seqK eL_4)
theorem e_2 : K_2 = fun σ η => T16.s_2 σ η ({ kT 15 with nx := K_3 }) := by unfold K_2 T16.s_2; rfl
theorem eL_2 : K_2 = fun σ η => (sSeq T16.s_2 (sSeq T16.s_3 (sSeq T16.s_4 (sSeq T16.s_5 (sSeq T16.s_6 (sSeq T16.s_7 (sSeq T16.s_8 (sSeq T16.s_9 (sSeq T16.s_10 (sSeq T16.s_11 (sSeq T16.s_12 T16.s_13))))))))))) σ η (kT 15) := e_2.trans (seqK eL_3)
theorem e_1 : K_1 = fun σ η => T16.s_1 σ η ({ kT 15 with nx := K_2 }) := by unfold K_1 T16.s_1; rfl
theorem eL_1 : K_1 = fun σ η => (sSeq T16.s_1 (sSeq T16.s_2 (sSeq T16.s_3 (sSeq T16.s_4 (sSeq T16.s_5 (sSeq T16.s_6 (sSeq T16.s_7 (sSeq T16.s_8 (sSeq T16.s_9 (sSeq T16.s_10 (sSeq T16.s_11 (sSeq T16.s_12 T16.s_13)))))))))))) σ η (kT 15) := e_1.trans (seqK eL_2)
theorem e_0 : K_0 = fun σ η => T16.s_0 σ η ({ kT 15 with nx := K_1 }) := by unfold K_0 T16.s_0; rfl
theorem eL_0 : K_0 = fun σ η => (sSeq T16.s_0 (sSeq T16.s_1 (sSeq T16.s_2 (sSeq T16.s_3 (sSeq T16.s_4 (sSeq T16.s_5 (sSeq T16.s_6 (sSeq T16.s_7 (sSeq T16.s_8 (sSeq T16.s_9 (sSeq T16.s_10 (sSeq T16.s_11 (sSeq T16.s_12 T16.s_13))))))))))))) σ η (kT 15) := e_0.trans (seqK eL_1)
theorem hgen : K_0 ((List.replicate 15 none).set 1 (some (.ref 0))) ⟨1, [(0, .dice)]⟩ = true := by
  rw [eL_0]
  exact T16.law_ok
theorem g_law (hy : Hy P K mg) (tb : Tbs hy base) {fa : Addr} {oc kV dc pm ct cdv : Value} {od an : Option Addr} {sl : Array (Option Value)} (lk : K.lookup fa = some ⟨oc, od, .func (PySem.W.fnOf "law" "law" (defArgs s_law) (defBody s_law) (defScope s_law) .none kV dc pm an cdv ct), sl⟩)
    (hcd : PySem.W.codeIn K cdv "law" = true) : FnOk P w K mg base (L2.CX P w) 5 fa (PySem.W.fnOf "law" "law" (defArgs s_law) (defBody s_law) (defScope s_law) .none kV dc pm an cdv ct) ["script"] (spLaw K (nm hy)) :=
  have g__law_place := g__law_place (P := P) (w := w) (base := base) hy tb; have g__law_roll := g__law_roll (P := P) (w := w) (base := base) hy tb; have g__law_rounds := g__law_rounds (P := P) (w := w) (base := base) hy tb; have g__law_turn := g__law_turn (P := P) (w := w) (base := base) hy tb; have g__law_word := g__law_word (P := P) (w := w) (base := base) hy tb; have g_after := g_after (P := P) (w := w) (base := base) hy tb; have g_back := g_back (P := P) (w := w) (base := base) hy tb; have g_bring_out := g_bring_out (P := P) (w := w) (base := base) hy tb; have g_crossing := g_crossing (P := P) (w := w) (base := base) hy tb; have g_raised := g_raised (P := P) (w := w) (base := base) hy tb; have g_read := g_read (P := P) (w := w) (base := base) hy tb; have g_repeated := g_repeated (P := P) (w := w) (base := base) hy tb; have g_short := g_short (P := P) (w := w) (base := base) hy tb; have g_still := g_still (P := P) (w := w) (base := base) hy tb; have g_told := g_told (P := P) (w := w) (base := base) hy tb; have g_undone := g_undone (P := P) (w := w) (base := base) hy tb; have g_value := g_value (P := P) (w := w) (base := base) hy tb; have g_word_crossing := g_word_crossing (P := P) (w := w) (base := base) hy tb; fn_of (k := 4) lk hcd sc_law (fun vs H Q E h => by obtain ⟨_, _, rfl, _⟩ := h; rfl) fun A outer s H vs Q E hr h =>
    ⟨tLaw K (nm hy) 15, law_loop (n := 4) g__law_rounds (hr.mono (by decide)) (by rfl) hy.m__law_rounds hy.F__law_rounds.kp hy.b__law_rounds (passes_call (takes_of rfl rfl rfl rfl) (fun _ _ _ _ h => h)) (pv 0) pe_int (by decide) (passes_of rfl) rfl
      (jg_name (pg_name (i := 1) sc_law.nd rfl (by first | exact .inl rfl | exact .inr rfl))) (show JK _ _ _ 15 _ K_0 from jk_cons (js_par3 (i := 2) (j := 3) (l := 4) rfl sc_law.nd rfl rfl rfl (by decide) (by decide) (by decide) rfl rfl rfl (ja_cons (je_call g__law_word (hr.mono (by decide)) (by rfl) hy.m__law_word hy.F__law_word.kp hy.b__law_word (passes_call (takes_of rfl rfl rfl rfl) (fun _ _ _ _ h => h)) (ja_cons (je_var 1 (pv 1)) (ja_cons je_int (ja_cons je_int ja_nil)))) (ja_cons (je_call g__law_word (hr.mono (by decide)) (by rfl) hy.m__law_word hy.F__law_word.kp hy.b__law_word (passes_call (takes_of rfl rfl rfl rfl) (fun _ _ _ _ h => h)) (ja_cons (je_var 1 (pv 1)) (ja_cons je_int (ja_cons je_int ja_nil)))) (ja_cons (je_lc (E' := E0) (own := [("k", 14)]) rfl sc_law.nd (ji_range1 (by rfl) hy.z_range (ja_cons je_int ja_nil)) (blkOk_by (N := ["script", "dice", "one", "two", "turns_there", "a", "b", "here", "letter", "way", "tight", "power", "front", "often", "k"]) (sc := defScope s_law) (own := [("k", 14)]) (by decide +kernel)) (fun _ _ _ _ _ => (jgw_name (pg_name (i := 14) sc_law.nd rfl (by first | exact .inl rfl | exact .inr rfl)))) (fun _ _ _ _ _ => jts_nil) (fun _ _ _ _ _ => (je_call g__law_turn (hr.mono (by decide)) (by rfl) hy.m__law_turn hy.F__law_turn.kp hy.b__law_turn passL (ja_cons (je_var 1 (pv 1)) (ja_cons je_int ja_nil))))) ja_nil))) (by first | rfl | decide +kernel | with_unfolding_all rfl)) (show JK _ _ _ 15 _ K_1 from jk_cons (js_par (i := 5) (j := 6) rfl sc_law.nd rfl rfl (by decide) rfl rfl (ja_cons (je_call g_value (hr.mono (by decide)) (by rfl) hy.m_value hy.F_value.kp hy.b_value (passes_call (takes_of rfl rfl rfl rfl) (fun _ _ _ _ h => h)) (ja_cons (je_var 2 (pv 2)) (ja_cons (je_var 4 (pv 4)) (ja_cons je_int ja_nil)))) (ja_cons (je_call g_value (hr.mono (by decide)) (by rfl) hy.m_value hy.F_value.kp hy.b_value (passes_call (takes_of rfl rfl rfl rfl) (fun _ _ _ _ h => h)) (ja_cons (je_var 3 (pv 3)) (ja_cons (je_var 4 (pv 4)) (ja_cons je_int ja_nil)))) ja_nil)) (by first | rfl | decide +kernel | with_unfolding_all rfl)) (show JK _ _ _ 15 _ K_2 from jk_cons (js_set (i := 7) sc_law.nd rfl (by first | exact .inl rfl | exact .inr rfl) (je_call g_still (hr.mono (by decide)) (by rfl) hy.m_still hy.F_still.kp hy.b_still (passes_call (takes_of rfl rfl rfl rfl) (fun _ _ _ _ h => h)) (ja_cons je_int ja_nil))) (show JK _ _ _ 15 _ K_3 from jk_cons (js_for (passes_of rfl) rfl (ji_seq (je_var 2 (pv 2))) (jg_tup rfl (jgs_cons (jg_name (pg_name (i := 8) sc_law.nd rfl (by first | exact .inl rfl | exact .inr rfl))) (jgs_cons (jg_name (pg_name (i := 9) sc_law.nd rfl (by first | exact .inl rfl | exact .inr rfl))) jgs_nil))) (jb_one (js_set (i := 7) sc_law.nd rfl (by first | exact .inl rfl | exact .inr rfl) (je_call g_after (hr.mono (by decide)) (by rfl) hy.m_after hy.F_after.kp hy.b_after (passes_call (takes_of rfl rfl rfl rfl) (fun _ _ _ _ h => h)) (ja_cons (je_var 7 (pv 7)) (ja_cons (je_if (jt_cmp (opd_eq hr.units) (je_var 9 (pv 9)) je_int (by rfl)) (je_ix (hu_of hr) (je_var 4 (pv 4)) (je_var 8 (pv 8)) (fun _ _ => rfl)) (je_call g_back (hr.mono (by decide)) (by rfl) hy.m_back hy.F_back.kp hy.b_back (passes_call (takes_of rfl rfl rfl rfl) (fun _ _ _ _ h => h)) (ja_cons (je_ix (hu_of hr) (je_var 4 (pv 4)) (je_var 8 (pv 8)) (fun _ _ => rfl)) ja_nil))) ja_nil)))))) (show JK _ _ _ 15 _ K_4 from jk_cons (js_set (i := 10) sc_law.nd rfl (by first | exact .inl rfl | exact .inr rfl) (je_call g_short (hr.mono (by decide)) (by rfl) hy.m_short hy.F_short.kp hy.b_short (passes_call (takes_of rfl rfl rfl rfl) (fun _ _ _ _ h => h)) (ja_cons (je_var 2 (pv 2)) ja_nil))) (show JK _ _ _ 15 _ K_5 from jk_cons (js_if (jt_of (jw_or (jt_cmp (opd_ne hr.units) (je_var 5 (pv 5)) (je_var 7 (pv 7)) (by rfl)) (jw_or1 (jt_cmp (opd_ne hr.units) (je_call g_value (hr.mono (by decide)) (by rfl) hy.m_value hy.F_value.kp hy.b_value (passes_call (takes_of rfl rfl rfl rfl) (fun _ _ _ _ h => h)) (ja_cons (je_var 10 (pv 10)) (ja_cons (je_var 4 (pv 4)) (ja_cons je_int ja_nil)))) (je_var 5 (pv 5)) (by rfl))))) (jb_one (js_ret je_bl)) jb_nil) (show JK _ _ _ 15 _ K_6 from jk_cons (js_if (jt_cmp (opd_ne hr.units) (je_lc (E' := E0) (own := [("k", 14)]) rfl sc_law.nd (ji_range2 (by rfl) hy.z_range (ja_cons je_int (ja_cons (je_blt blt_lenA (by rfl) hy.z_len (by rfl) (ja_cons (je_var 10 (pv 10)) ja_nil)) ja_nil))) (blkOk_by (N := ["script", "dice", "one", "two", "turns_there", "a", "b", "here", "letter", "way", "tight", "power", "front", "often", "k"]) (sc := defScope s_law) (own := [("k", 14)]) (by decide +kernel)) (fun _ _ _ _ _ => (jgw_name (pg_name (i := 14) sc_law.nd rfl (by first | exact .inl rfl | exact .inr rfl)))) (fun _ _ _ _ _ => (jts_one (jt_cmp (opd_eq hr.units) (je_ix (hu_of hr) (je_var 10 (pv 10)) (je_var 14 (pv 14)) (fun _ _ => rfl)) (je_tup (ja_cons (je_ix (hu_of hr) (je_ix (hu_of hr) (je_var 10 (pv 10)) (je_op opd_sub (je_var 14 (pv 14)) je_int) (fun _ _ => rfl)) je_int (fun _ _ => rfl)) (ja_cons (je_op opd_sub je_int (je_ix (hu_of hr) (je_ix (hu_of hr) (je_var 10 (pv 10)) (je_op opd_sub (je_var 14 (pv 14)) je_int) (fun _ _ => rfl)) je_int (fun _ _ => rfl))) ja_nil))) (by rfl)))) (fun _ _ _ _ _ => (je_var 14 (pv 14)))) (je_lst ja_nil) (by rfl)) (jb_one (js_ret je_bl)) jb_nil) (show JK _ _ _ 15 _ K_7 from jk_cons (js_if (jt_of (jw_or (jt_cmp (opd_ne hr.units) (je_call g_value (hr.mono (by decide)) (by rfl) hy.m_value hy.F_value.kp hy.b_value (passes_call (takes_of rfl rfl rfl rfl) (fun _ _ _ _ h => h)) (ja_cons (je_call g_undone (hr.mono (by decide)) (by rfl) hy.m_undone hy.F_undone.kp hy.b_undone (passes_call (takes_of rfl rfl rfl rfl) (fun _ _ _ _ h => h)) (ja_cons (je_var 2 (pv 2)) ja_nil)) (ja_cons (je_var 4 (pv 4)) (ja_cons je_int ja_nil)))) (je_call g_back (hr.mono (by decide)) (by rfl) hy.m_back hy.F_back.kp hy.b_back (passes_call (takes_of rfl rfl rfl rfl) (fun _ _ _ _ h => h)) (ja_cons (je_var 5 (pv 5)) ja_nil)) (by rfl)) (jw_or1 (jt_cmp (opd_ne hr.units) (je_call g_short (hr.mono (by decide)) (by rfl) hy.m_short hy.F_short.kp hy.b_short (passes_call (takes_of rfl rfl rfl rfl) (fun _ _ _ _ h => h)) (ja_cons (je_op opd_add (je_var 2 (pv 2)) (je_call g_undone (hr.mono (by decide)) (by rfl) hy.m_undone hy.F_undone.kp hy.b_undone (passes_call (takes_of rfl rfl rfl rfl) (fun _ _ _ _ h => h)) (ja_cons (je_var 2 (pv 2)) ja_nil))) ja_nil)) (je_tup ja_nil) (by rfl))))) (jb_one (js_ret je_bl)) jb_nil) (show JK _ _ _ 15 _ K_8 from jk_cons (js_if (jt_cmp (opd_ne hr.units) (je_call g_value (hr.mono (by decide)) (by rfl) hy.m_value hy.F_value.kp hy.b_value (passes_call (takes_of rfl rfl rfl rfl) (fun _ _ _ _ h => h)) (ja_cons (je_op opd_add (je_var 2 (pv 2)) (je_var 3 (pv 3))) (ja_cons (je_var 4 (pv 4)) (ja_cons je_int ja_nil)))) (je_call g_after (hr.mono (by decide)) (by rfl) hy.m_after hy.F_after.kp hy.b_after (passes_call (takes_of rfl rfl rfl rfl) (fun _ _ _ _ h => h)) (ja_cons (je_var 5 (pv 5)) (ja_cons (je_var 6 (pv 6)) ja_nil))) (by rfl)) (jb_one (js_ret je_bl)) jb_nil) (show JK _ _ _ 15 _ K_9 from jk_cons (js_set (i := 11) sc_law.nd rfl (by first | exact .inl rfl | exact .inr rfl) (je_op opd_sub (je_call g__law_roll (hr.mono (by decide)) (by rfl) hy.m__law_roll hy.F__law_roll.kp hy.b__law_roll (passes_call (takes_of rfl rfl rfl rfl) (fun _ _ _ _ h => h)) (ja_cons (je_var 1 (pv 1)) (ja_cons je_int ja_nil))) je_int)) (show JK _ _ _ 15 _ K_10 from jk_cons (js_if (jt_cmp (opd_ne hr.units) (je_call g_value (hr.mono (by decide)) (by rfl) hy.m_value hy.F_value.kp hy.b_value (passes_call (takes_of rfl rfl rfl rfl) (fun _ _ _ _ h => h)) (ja_cons (je_call g_repeated (hr.mono (by decide)) (by rfl) hy.m_repeated hy.F_repeated.kp hy.b_repeated (passes_call (takes_of rfl rfl rfl rfl) (fun _ _ _ _ h => h)) (ja_cons (je_var 2 (pv 2)) (ja_cons (je_var 11 (pv 11)) ja_nil))) (ja_cons (je_var 4 (pv 4)) (ja_cons je_int ja_nil)))) (je_call g_raised (hr.mono (by decide)) (by rfl) hy.m_raised hy.F_raised.kp hy.b_raised (passes_call (takes_of rfl rfl rfl rfl) (fun _ _ _ _ h => h)) (ja_cons (je_var 5 (pv 5)) (ja_cons (je_var 11 (pv 11)) ja_nil))) (by rfl)) (jb_one (js_ret je_bl)) jb_nil) (show JK _ _ _ 15 _ K_11 from jk_cons (js_if (jt_cmp (opd_ne hr.units) (je_call g_value (hr.mono (by decide)) (by rfl) hy.m_value hy.F_value.kp hy.b_value (passes_call (takes_of rfl rfl rfl rfl) (fun _ _ _ _ h => h)) (ja_cons (je_call g_word_crossing (hr.mono (by decide)) (by rfl) hy.m_word_crossing hy.F_word_crossing.kp hy.b_word_crossing (passes_call (takes_of rfl rfl rfl rfl) (fun _ _ _ _ h => h)) (ja_cons (je_var 2 (pv 2)) (ja_cons (je_var 3 (pv 3)) ja_nil))) (ja_cons (je_var 4 (pv 4)) (ja_cons je_int ja_nil)))) (je_call g_crossing (hr.mono (by decide)) (by rfl) hy.m_crossing hy.F_crossing.kp hy.b_crossing (passes_call (takes_of rfl rfl rfl rfl) (fun _ _ _ _ h => h)) (ja_cons (je_var 5 (pv 5)) (ja_cons (je_var 6 (pv 6)) ja_nil))) (by rfl)) (jb_one (js_ret je_bl)) jb_nil) (show JK _ _ _ 15 _ K_12 from jk_cons (js_if (jt_of (jw_or (jt_cmp (opd_ne hr.units) (je_call g_read (hr.mono (by decide)) (by rfl) hy.m_read hy.F_read.kp hy.b_read (passes_call (takes_of rfl rfl rfl rfl) (fun _ _ _ _ h => h)) (ja_cons (je_call g_told (hr.mono (by decide)) (by rfl) hy.m_told hy.F_told.kp hy.b_told (passes_call (takes_of rfl rfl rfl rfl) (fun _ _ _ _ h => h)) (ja_cons (je_var 2 (pv 2)) ja_nil)) ja_nil)) (je_var 2 (pv 2)) (by rfl)) (jw_or (jt_cmp (opd_ne hr.units) (je_call g__law_place (hr.mono (by decide)) (by rfl) hy.m__law_place hy.F__law_place.kp hy.b__law_place (passes_call (takes_of rfl rfl rfl rfl) (fun _ _ _ _ h => h)) (ja_cons (je_op opd_add (je_call g_told (hr.mono (by decide)) (by rfl) hy.m_told hy.F_told.kp hy.b_told (passes_call (takes_of rfl rfl rfl rfl) (fun _ _ _ _ h => h)) (ja_cons (je_var 2 (pv 2)) ja_nil)) je_str) ja_nil)) (je_blt blt_lenA (by rfl) hy.z_len (by rfl) (ja_cons (je_var 2 (pv 2)) ja_nil)) (by rfl)) (jw_or1 (jt_cmp (opd_ne hr.units) (je_call g__law_place (hr.mono (by decide)) (by rfl) hy.m__law_place hy.F__law_place.kp hy.b__law_place (passes_call (takes_of rfl rfl rfl rfl) (fun _ _ _ _ h => h)) (ja_cons je_str ja_nil)) je_int (by rfl)))))) (jb_one (js_ret je_bl)) jb_nil) (show JK _ _ _ 15 _ K_13 from jk_of (jb_one (js_if (jt_cmp (opd_ne hr.units) (je_var 10 (pv 10)) (je_tup ja_nil) (by rfl)) (jb_cons (js_asg (je_call g_bring_out (hr.mono (by decide)) (by rfl) hy.m_bring_out hy.F_bring_out.kp hy.b_bring_out (passes_call (takes_of rfl rfl rfl rfl) (fun _ _ _ _ h => h)) (ja_cons (je_var 2 (pv 2)) ja_nil)) (jg_tup rfl (jgs_cons (jg_name (pg_name (i := 12) sc_law.nd rfl (by first | exact .inl rfl | exact .inr rfl))) (jgs_cons (jg_name (pg_name (i := 13) sc_law.nd rfl (by first | exact .inl rfl | exact .inr rfl))) jgs_nil)))) (jb_cons (js_if (jt_cmp (opd_ne hr.units) (je_op opd_repW (je_var 12 (pv 12)) (je_var 13 (pv 13))) (je_var 10 (pv 10)) (by rfl)) (jb_one (js_ret je_bl)) jb_nil) (jb_one (js_if (jt_cmp (opd_ne hr.units) (je_lc (E' := E0) (own := [("k", 14)]) rfl sc_law.nd (ji_range2 (by rfl) hy.z_range (ja_cons je_int (ja_cons (je_blt blt_lenA (by rfl) hy.z_len (by rfl) (ja_cons (je_var 12 (pv 12)) ja_nil)) ja_nil))) (blkOk_by (N := ["script", "dice", "one", "two", "turns_there", "a", "b", "here", "letter", "way", "tight", "power", "front", "often", "k"]) (sc := defScope s_law) (own := [("k", 14)]) (by decide +kernel)) (fun _ _ _ _ _ => (jgw_name (pg_name (i := 14) sc_law.nd rfl (by first | exact .inl rfl | exact .inr rfl)))) (fun _ _ _ _ _ => (jts_one (jt_of (jw_and (jt_cmp (opd_eq hr.units) (je_op opd_mod (je_blt blt_lenA (by rfl) hy.z_len (by rfl) (ja_cons (je_var 12 (pv 12)) ja_nil)) (je_var 14 (pv 14))) je_int (by rfl)) (jw_and1 (jt_cmp (opd_eq hr.units) (je_op opd_repW (je_slice (je_var 12 (pv 12)) jo_none (jo_some (je_var 14 (pv 14)))) (je_op opd_div (je_blt blt_lenA (by rfl) hy.z_len (by rfl) (ja_cons (je_var 12 (pv 12)) ja_nil)) (je_var 14 (pv 14)))) (je_var 12 (pv 12)) (by rfl))))))) (fun _ _ _ _ _ => (je_var 14 (pv 14)))) (je_lst ja_nil) (by rfl)) (jb_one (js_ret je_bl)) jb_nil)))) jb_nil)))))))))))))))) hgen, tLaw_of h (by decide)⟩
end
theorem all_mk {l : PySem.W.OpenLaw} {w : World} {K : PySem.W.Frag} {h : Heap} {mg : Str → Option Value} {fa : Addr} (X : K.In h) (G : h.Ns mainGlobals mg) (hfa : mg "law" = some (.ref fa))
    {c_BadWord : Addr}
    {c_NoWay : Addr}
    {fi_BadWord cda_BadWord cc_BadWord : Addr} {oc_BadWord kV_BadWord dc_BadWord pm_BadWord ct_BadWord ccl_BadWord cl_BadWord : Value} {od_BadWord an_BadWord cdd_BadWord cld_BadWord : Option Addr} {osl_BadWord ccs_BadWord csl_BadWord : Array (Option Value)} {vs_BadWord : Array Value} {file_BadWord : Str} {tf_BadWord : Tok}
    {f_law : Addr} {od_law an_law : Option Addr} {sl_law : Array (Option Value)} {oc_law kV_law dc_law pm_law cd_law ct_law : Value}
    {f__law_rounds : Addr} {od__law_rounds an__law_rounds : Option Addr} {sl__law_rounds : Array (Option Value)} {oc__law_rounds kV__law_rounds dc__law_rounds pm__law_rounds cd__law_rounds ct__law_rounds : Value}
    {f__law_dice : Addr} {od__law_dice an__law_dice : Option Addr} {sl__law_dice : Array (Option Value)} {oc__law_dice kV__law_dice dc__law_dice pm__law_dice cd__law_dice ct__law_dice : Value}
    {f__law_roll : Addr} {od__law_roll an__law_roll : Option Addr} {sl__law_roll : Array (Option Value)} {oc__law_roll kV__law_roll dc__law_roll pm__law_roll cd__law_roll ct__law_roll : Value}
    {f__law_place : Addr} {od__law_place an__law_place : Option Addr} {sl__law_place : Array (Option Value)} {oc__law_place kV__law_place dc__law_place pm__law_place cd__law_place ct__law_place : Value}
    {f__law_turn : Addr} {od__law_turn an__law_turn : Option Addr} {sl__law_turn : Array (Option Value)} {oc__law_turn kV__law_turn dc__law_turn pm__law_turn cd__law_turn ct__law_turn : Value}
    {f__law_word : Addr} {od__law_word an__law_word : Option Addr} {sl__law_word : Array (Option Value)} {oc__law_word kV__law_word dc__law_word pm__law_word cd__law_word ct__law_word : Value}
    {f_after : Addr} {od_after an_after : Option Addr} {sl_after : Array (Option Value)} {oc_after kV_after dc_after pm_after cd_after ct_after : Value}
    {f_back : Addr} {od_back an_back : Option Addr} {sl_back : Array (Option Value)} {oc_back kV_back dc_back pm_back cd_back ct_back : Value}
    {f_bring_out : Addr} {od_bring_out an_bring_out : Option Addr} {sl_bring_out : Array (Option Value)} {oc_bring_out kV_bring_out dc_bring_out pm_bring_out cd_bring_out ct_bring_out : Value}
    {f_crossing : Addr} {od_crossing an_crossing : Option Addr} {sl_crossing : Array (Option Value)} {oc_crossing kV_crossing dc_crossing pm_crossing cd_crossing ct_crossing : Value}
    {f_raised : Addr} {od_raised an_raised : Option Addr} {sl_raised : Array (Option Value)} {oc_raised kV_raised dc_raised pm_raised cd_raised ct_raised : Value}
    {f_read : Addr} {od_read an_read : Option Addr} {sl_read : Array (Option Value)} {oc_read kV_read dc_read pm_read cd_read ct_read : Value}
    {f_repeated : Addr} {od_repeated an_repeated : Option Addr} {sl_repeated : Array (Option Value)} {oc_repeated kV_repeated dc_repeated pm_repeated cd_repeated ct_repeated : Value}
    {f_short : Addr} {od_short an_short : Option Addr} {sl_short : Array (Option Value)} {oc_short kV_short dc_short pm_short cd_short ct_short : Value}
    {f_still : Addr} {od_still an_still : Option Addr} {sl_still : Array (Option Value)} {oc_still kV_still dc_still pm_still cd_still ct_still : Value}
    {f_told : Addr} {od_told an_told : Option Addr} {sl_told : Array (Option Value)} {oc_told kV_told dc_told pm_told cd_told ct_told : Value}
    {f_undone : Addr} {od_undone an_undone : Option Addr} {sl_undone : Array (Option Value)} {oc_undone kV_undone dc_undone pm_undone cd_undone ct_undone : Value}
    {f_value : Addr} {od_value an_value : Option Addr} {sl_value : Array (Option Value)} {oc_value kV_value dc_value pm_value cd_value ct_value : Value}
    {f_word_crossing : Addr} {od_word_crossing an_word_crossing : Option Addr} {sl_word_crossing : Array (Option Value)} {oc_word_crossing kV_word_crossing dc_word_crossing pm_word_crossing cd_word_crossing ct_word_crossing : Value}
    {tk_LETTERS : Tok}
    (a_BadWord : PySem.W.nsIn K mainGlobals "BadWord" = some (some (.ref c_BadWord)))
    (a_NoWay : PySem.W.nsIn K mainGlobals "NoWay" = some (some (.ref c_NoWay)))
    (x_NoWay : PySem.W.excIn K c_NoWay [.type "ValueError", .type "Exception", .type "BaseException", .type "object"] "ValueError.__new__" = true)
    (k_NoWay : PySem.W.keepIn K (.ref c_NoWay) = true)
    (s_NoWay : PySem.W.subIn K (.ref c_NoWay) (.type "BaseException") = some true)
    (t_NoWay : PySem.W.typeIn K (.ref c_NoWay) = some (.type "type"))
    (z_super : PySem.W.nsIn K mainGlobals "super" = some none)
    (o1_BadWord : oexB K c_BadWord = true)
    (o2_BadWord : xfB K c_BadWord = true)
    (o3_BadWord : PySem.W.findIn K (.ref c_BadWord) "place" = some none)
    (o4_BadWord : PySem.W.findIn K (.ref c_BadWord) "__setattr__" = some (some (.builtin "object.__setattr__")))
    (o5_BadWord : supB K c_BadWord = true)
    (a_i_BadWord : PySem.W.findIn K (.ref c_BadWord) "__init__" = some (some (.ref fi_BadWord)))
    (o7_BadWord : PySem.W.typeIn K (.ref fi_BadWord) = some (.type "function"))
    (o8_BadWord : PySem.W.keepIn K (.ref c_BadWord) = true)
    (o9_BadWord : PySem.W.subIn K (.ref c_BadWord) (.type "BaseException") = some true)
    (p1_BadWord : PySem.W.typeIn K (.ref c_BadWord) = some (.type "type"))
    (l_i_BadWord : K.lookup fi_BadWord = some ⟨oc_BadWord, od_BadWord, .func (PySem.W.ksFn "__init__" "BadWord.__init__" (defArgs (clsS (topS 2) 0)) (bodyX "self" "place" "place" "bad word" 0 ⟨7, 8, 7, 13⟩ ⟨7, 8, 7, 15⟩ ⟨7, 8, 7, 24⟩ ⟨7, 8, 7, 36⟩ ⟨7, 8, 7, 36⟩ ⟨7, 25, 7, 35⟩ ⟨8, 8, 8, 12⟩ ⟨8, 8, 8, 18⟩ ⟨8, 21, 8, 26⟩ ⟨8, 8, 8, 26⟩) (defScope (clsS (topS 2) 0)) .none kV_BadWord dc_BadWord pm_BadWord an_BadWord (.ref cda_BadWord) ct_BadWord cc_BadWord), osl_BadWord⟩)
    (p2_BadWord : PySem.W.codeIn K (.ref cda_BadWord) "BadWord.__init__" = true)
    (l_c_BadWord : K.lookup cda_BadWord = some ⟨ccl_BadWord, cdd_BadWord, .fields vs_BadWord, ccs_BadWord⟩)
    (t2_BadWord : vs_BadWord[2]? = some (.str file_BadWord tf_BadWord))
    (p3_BadWord : ((l.prog.main.file : Str) == file_BadWord) = true)
    (p4_BadWord : (l.prog.main.scope.names.lookup ("super" : Str)).isSome = false)
    (l_k_BadWord : K.lookup cc_BadWord = some ⟨cl_BadWord, cld_BadWord, .cell (some (.ref c_BadWord)), csl_BadWord⟩)
    (a_law : PySem.W.nsIn K mainGlobals "law" = some (some (.ref f_law)))
    (l_law : K.lookup f_law = some ⟨oc_law, od_law, .func (PySem.W.fnOf "law" "law" (defArgs s_law) (defBody s_law) (defScope s_law) .none kV_law dc_law pm_law an_law (cd_law) ct_law), sl_law⟩)
    (d_law : PySem.W.codeIn K (cd_law) "law" = true)
    (k_law : PySem.W.keepIn K (.ref f_law) = true)
    (a__law_rounds : PySem.W.nsIn K mainGlobals "_law_rounds" = some (some (.ref f__law_rounds)))
    (l__law_rounds : K.lookup f__law_rounds = some ⟨oc__law_rounds, od__law_rounds, .func (PySem.W.fnOf "_law_rounds" "_law_rounds" (defArgs s__law_rounds) (defBody s__law_rounds) (defScope s__law_rounds) .none kV__law_rounds dc__law_rounds pm__law_rounds an__law_rounds (cd__law_rounds) ct__law_rounds), sl__law_rounds⟩)
    (d__law_rounds : PySem.W.codeIn K (cd__law_rounds) "_law_rounds" = true)
    (k__law_rounds : PySem.W.keepIn K (.ref f__law_rounds) = true)
    (a__law_dice : PySem.W.nsIn K mainGlobals "_law_dice" = some (some (.ref f__law_dice)))
    (l__law_dice : K.lookup f__law_dice = some ⟨oc__law_dice, od__law_dice, .func (PySem.W.fnOf "_law_dice" "_law_dice" (defArgs s__law_dice) (defBody s__law_dice) (defScope s__law_dice) .none kV__law_dice dc__law_dice pm__law_dice an__law_dice (cd__law_dice) ct__law_dice), sl__law_dice⟩)
    (d__law_dice : PySem.W.codeIn K (cd__law_dice) "_law_dice" = true)
    (k__law_dice : PySem.W.keepIn K (.ref f__law_dice) = true)
    (a__law_roll : PySem.W.nsIn K mainGlobals "_law_roll" = some (some (.ref f__law_roll)))
    (l__law_roll : K.lookup f__law_roll = some ⟨oc__law_roll, od__law_roll, .func (PySem.W.fnOf "_law_roll" "_law_roll" (defArgs s__law_roll) (defBody s__law_roll) (defScope s__law_roll) .none kV__law_roll dc__law_roll pm__law_roll an__law_roll (cd__law_roll) ct__law_roll), sl__law_roll⟩)
    (d__law_roll : PySem.W.codeIn K (cd__law_roll) "_law_roll" = true)
    (k__law_roll : PySem.W.keepIn K (.ref f__law_roll) = true)
    (a__law_place : PySem.W.nsIn K mainGlobals "_law_place" = some (some (.ref f__law_place)))
    (l__law_place : K.lookup f__law_place = some ⟨oc__law_place, od__law_place, .func (PySem.W.fnOf "_law_place" "_law_place" (defArgs s__law_place) (defBody s__law_place) (defScope s__law_place) .none kV__law_place dc__law_place pm__law_place an__law_place (cd__law_place) ct__law_place), sl__law_place⟩)
    (d__law_place : PySem.W.codeIn K (cd__law_place) "_law_place" = true)
    (k__law_place : PySem.W.keepIn K (.ref f__law_place) = true)
    (a__law_turn : PySem.W.nsIn K mainGlobals "_law_turn" = some (some (.ref f__law_turn)))
    (l__law_turn : K.lookup f__law_turn = some ⟨oc__law_turn, od__law_turn, .func (PySem.W.fnOf "_law_turn" "_law_turn" (defArgs s__law_turn) (defBody s__law_turn) (defScope s__law_turn) .none kV__law_turn dc__law_turn pm__law_turn an__law_turn (cd__law_turn) ct__law_turn), sl__law_turn⟩)
    (d__law_turn : PySem.W.codeIn K (cd__law_turn) "_law_turn" = true)
    (k__law_turn : PySem.W.keepIn K (.ref f__law_turn) = true)
    (a__law_word : PySem.W.nsIn K mainGlobals "_law_word" = some (some (.ref f__law_word)))
    (l__law_word : K.lookup f__law_word = some ⟨oc__law_word, od__law_word, .func (PySem.W.fnOf "_law_word" "_law_word" (defArgs s__law_word) (defBody s__law_word) (defScope s__law_word) .none kV__law_word dc__law_word pm__law_word an__law_word (cd__law_word) ct__law_word), sl__law_word⟩)
    (d__law_word : PySem.W.codeIn K (cd__law_word) "_law_word" = true)
    (k__law_word : PySem.W.keepIn K (.ref f__law_word) = true)
    (a_after : PySem.W.nsIn K mainGlobals "after" = some (some (.ref f_after)))
    (l_after : K.lookup f_after = some ⟨oc_after, od_after, .func (PySem.W.fnOf "after" "after" (defArgs s_after) (defBody s_after) (defScope s_after) .none kV_after dc_after pm_after an_after (cd_after) ct_after), sl_after⟩)
    (d_after : PySem.W.codeIn K (cd_after) "after" = true)
    (k_after : PySem.W.keepIn K (.ref f_after) = true)
    (a_back : PySem.W.nsIn K mainGlobals "back" = some (some (.ref f_back)))
    (l_back : K.lookup f_back = some ⟨oc_back, od_back, .func (PySem.W.fnOf "back" "back" (defArgs s_back) (defBody s_back) (defScope s_back) .none kV_back dc_back pm_back an_back (cd_back) ct_back), sl_back⟩)
    (d_back : PySem.W.codeIn K (cd_back) "back" = true)
    (k_back : PySem.W.keepIn K (.ref f_back) = true)
    (a_bring_out : PySem.W.nsIn K mainGlobals "bring_out" = some (some (.ref f_bring_out)))
    (l_bring_out : K.lookup f_bring_out = some ⟨oc_bring_out, od_bring_out, .func (PySem.W.fnOf "bring_out" "bring_out" (defArgs s_bring_out) (defBody s_bring_out) (defScope s_bring_out) .none kV_bring_out dc_bring_out pm_bring_out an_bring_out (cd_bring_out) ct_bring_out), sl_bring_out⟩)
    (d_bring_out : PySem.W.codeIn K (cd_bring_out) "bring_out" = true)
    (k_bring_out : PySem.W.keepIn K (.ref f_bring_out) = true)
    (a_crossing : PySem.W.nsIn K mainGlobals "crossing" = some (some (.ref f_crossing)))
    (l_crossing : K.lookup f_crossing = some ⟨oc_crossing, od_crossing, .func (PySem.W.fnOf "crossing" "crossing" (defArgs s_crossing) (defBody s_crossing) (defScope s_crossing) .none kV_crossing dc_crossing pm_crossing an_crossing (cd_crossing) ct_crossing), sl_crossing⟩)
    (d_crossing : PySem.W.codeIn K (cd_crossing) "crossing" = true)
    (k_crossing : PySem.W.keepIn K (.ref f_crossing) = true)
    (a_raised : PySem.W.nsIn K mainGlobals "raised" = some (some (.ref f_raised)))
    (l_raised : K.lookup f_raised = some ⟨oc_raised, od_raised, .func (PySem.W.fnOf "raised" "raised" (defArgs s_raised) (defBody s_raised) (defScope s_raised) .none kV_raised dc_raised pm_raised an_raised (cd_raised) ct_raised), sl_raised⟩)
    (d_raised : PySem.W.codeIn K (cd_raised) "raised" = true)
    (k_raised : PySem.W.keepIn K (.ref f_raised) = true)
    (a_read : PySem.W.nsIn K mainGlobals "read" = some (some (.ref f_read)))
    (l_read : K.lookup f_read = some ⟨oc_read, od_read, .func (PySem.W.fnOf "read" "read" (defArgs s_read) (defBody s_read) (defScope s_read) .none kV_read dc_read pm_read an_read (cd_read) ct_read), sl_read⟩)
    (d_read : PySem.W.codeIn K (cd_read) "read" = true)
    (k_read : PySem.W.keepIn K (.ref f_read) = true)
    (a_repeated : PySem.W.nsIn K mainGlobals "repeated" = some (some (.ref f_repeated)))
    (l_repeated : K.lookup f_repeated = some ⟨oc_repeated, od_repeated, .func (PySem.W.fnOf "repeated" "repeated" (defArgs s_repeated) (defBody s_repeated) (defScope s_repeated) .none kV_repeated dc_repeated pm_repeated an_repeated (cd_repeated) ct_repeated), sl_repeated⟩)
    (d_repeated : PySem.W.codeIn K (cd_repeated) "repeated" = true)
    (k_repeated : PySem.W.keepIn K (.ref f_repeated) = true)
    (a_short : PySem.W.nsIn K mainGlobals "short" = some (some (.ref f_short)))
    (l_short : K.lookup f_short = some ⟨oc_short, od_short, .func (PySem.W.fnOf "short" "short" (defArgs s_short) (defBody s_short) (defScope s_short) .none kV_short dc_short pm_short an_short (cd_short) ct_short), sl_short⟩)
    (d_short : PySem.W.codeIn K (cd_short) "short" = true)
    (k_short : PySem.W.keepIn K (.ref f_short) = true)
    (a_still : PySem.W.nsIn K mainGlobals "still" = some (some (.ref f_still)))
    (l_still : K.lookup f_still = some ⟨oc_still, od_still, .func (PySem.W.fnOf "still" "still" (defArgs s_still) (defBody s_still) (defScope s_still) .none kV_still dc_still pm_still an_still (cd_still) ct_still), sl_still⟩)
    (d_still : PySem.W.codeIn K (cd_still) "still" = true)
    (k_still : PySem.W.keepIn K (.ref f_still) = true)
    (a_told : PySem.W.nsIn K mainGlobals "told" = some (some (.ref f_told)))
    (l_told : K.lookup f_told = some ⟨oc_told, od_told, .func (PySem.W.fnOf "told" "told" (defArgs s_told) (defBody s_told) (defScope s_told) .none kV_told dc_told pm_told an_told (cd_told) ct_told), sl_told⟩)
    (d_told : PySem.W.codeIn K (cd_told) "told" = true)
    (k_told : PySem.W.keepIn K (.ref f_told) = true)
    (a_undone : PySem.W.nsIn K mainGlobals "undone" = some (some (.ref f_undone)))
    (l_undone : K.lookup f_undone = some ⟨oc_undone, od_undone, .func (PySem.W.fnOf "undone" "undone" (defArgs s_undone) (defBody s_undone) (defScope s_undone) .none kV_undone dc_undone pm_undone an_undone (cd_undone) ct_undone), sl_undone⟩)
    (d_undone : PySem.W.codeIn K (cd_undone) "undone" = true)
    (k_undone : PySem.W.keepIn K (.ref f_undone) = true)
    (a_value : PySem.W.nsIn K mainGlobals "value" = some (some (.ref f_value)))
    (l_value : K.lookup f_value = some ⟨oc_value, od_value, .func (PySem.W.fnOf "value" "value" (defArgs s_value) (defBody s_value) (defScope s_value) .none kV_value dc_value pm_value an_value (cd_value) ct_value), sl_value⟩)
    (d_value : PySem.W.codeIn K (cd_value) "value" = true)
    (k_value : PySem.W.keepIn K (.ref f_value) = true)
    (a_word_crossing : PySem.W.nsIn K mainGlobals "word_crossing" = some (some (.ref f_word_crossing)))
    (l_word_crossing : K.lookup f_word_crossing = some ⟨oc_word_crossing, od_word_crossing, .func (PySem.W.fnOf "word_crossing" "word_crossing" (defArgs s_word_crossing) (defBody s_word_crossing) (defScope s_word_crossing) .none kV_word_crossing dc_word_crossing pm_word_crossing an_word_crossing (cd_word_crossing) ct_word_crossing), sl_word_crossing⟩)
    (d_word_crossing : PySem.W.codeIn K (cd_word_crossing) "word_crossing" = true)
    (k_word_crossing : PySem.W.keepIn K (.ref f_word_crossing) = true)
    (a_LETTERS : PySem.W.nsIn K mainGlobals "LETTERS" = some (some (.str "abcdefgh" tk_LETTERS)))
    (e_BadWord_BadWord : PySem.W.exmOne K (.ref c_BadWord) (.ref c_BadWord) = some true)
    (z_abs : PySem.W.nsIn K mainGlobals "abs" = some none)
    (z_enumerate : PySem.W.nsIn K mainGlobals "enumerate" = some none)
    (z_int : PySem.W.nsIn K mainGlobals "int" = some none)
    (z_len : PySem.W.nsIn K mainGlobals "len" = some none)
    (z_list : PySem.W.nsIn K mainGlobals "list" = some none)
    (z_range : PySem.W.nsIn K mainGlobals "range" = some none)
    (z_reversed : PySem.W.nsIn K mainGlobals "reversed" = some none)
    (z_tuple : PySem.W.nsIn K mainGlobals "tuple" = some none)
    (nd : ([] : List Addr).Nodup) :
    LamX.LawAtS l w K (L2.CX l.prog w) 5 63 "script" mg fa h := by
  have e := hfa.symm.trans (PySem.W.mg_of X G a_law)
  cases e
  let hy : Hy l.prog K mg := { c_BadWord := c_BadWord, g_BadWord := PySem.W.mg_of X G a_BadWord, X_BadWord := ownX_mk o1_BadWord o2_BadWord o3_BadWord o4_BadWord o5_BadWord a_i_BadWord o7_BadWord o8_BadWord o9_BadWord p1_BadWord l_i_BadWord p2_BadWord l_c_BadWord t2_BadWord p3_BadWord p4_BadWord l_k_BadWord (PySem.W.mg_none_of X G z_super) (.all fun us hl => match us, hl with | [_, _], _ => rfl) ⟨rfl, rfl⟩ (by decide) ⟨rfl, rfl, rfl⟩ ⟨by decide +kernel, by decide +kernel, by decide +kernel, by decide +kernel⟩ (by decide +kernel) (by decide +kernel) ⟨by decide, by decide⟩, c_NoWay := c_NoWay, g_NoWay := PySem.W.mg_of X G a_NoWay, x_NoWay := x_NoWay, k_NoWay := k_NoWay, s_NoWay := s_NoWay, t_NoWay := t_NoWay, f__law_rounds := f__law_rounds, fd__law_rounds := _, F__law_rounds := fun_mk (st := s__law_rounds) l__law_rounds d__law_rounds k__law_rounds, b__law_rounds := (fun_mk (st := s__law_rounds) l__law_rounds d__law_rounds k__law_rounds).binds (ps := ["script", "most"]) fun _ _ _ _ _ _ us hl => (match us, hl with | [_, _], _ => rfl), m__law_rounds := PySem.W.mg_of X G a__law_rounds, f__law_dice := f__law_dice, fd__law_dice := _, F__law_dice := fun_mk (st := s__law_dice) l__law_dice d__law_dice k__law_dice, b__law_dice := (fun_mk (st := s__law_dice) l__law_dice d__law_dice k__law_dice).binds (ps := ["cell"]) fun _ _ _ _ _ _ us hl => (match us, hl with | [_], _ => rfl), m__law_dice := PySem.W.mg_of X G a__law_dice, f__law_roll := f__law_roll, fd__law_roll := _, F__law_roll := fun_mk (st := s__law_roll) l__law_roll d__law_roll k__law_roll, b__law_roll := (fun_mk (st := s__law_roll) l__law_roll d__law_roll k__law_roll).binds (ps := ["dice", "many"]) fun _ _ _ _ _ _ us hl => (match us, hl with | [_, _], _ => rfl), m__law_roll := PySem.W.mg_of X G a__law_roll, f__law_place := f__law_place, fd__law_place := _, F__law_place := fun_mk (st := s__law_place) l__law_place d__law_place k__law_place, b__law_place := (fun_mk (st := s__law_place) l__law_place d__law_place k__law_place).binds (ps := ["text"]) fun _ _ _ _ _ _ us hl => (match us, hl with | [_], _ => rfl), m__law_place := PySem.W.mg_of X G a__law_place, f__law_turn := f__law_turn, fd__law_turn := _, F__law_turn := fun_mk (st := s__law_turn) l__law_turn d__law_turn k__law_turn, b__law_turn := (fun_mk (st := s__law_turn) l__law_turn d__law_turn k__law_turn).binds (ps := ["dice", "many"]) fun _ _ _ _ _ _ us hl => (match us, hl with | [_, _], _ => rfl), m__law_turn := PySem.W.mg_of X G a__law_turn, f__law_word := f__law_word, fd__law_word := _, F__law_word := fun_mk (st := s__law_word) l__law_word d__law_word k__law_word, b__law_word := (fun_mk (st := s__law_word) l__law_word d__law_word k__law_word).binds (ps := ["dice", "many", "most"]) fun _ _ _ _ _ _ us hl => (match us, hl with | [_, _, _], _ => rfl), m__law_word := PySem.W.mg_of X G a__law_word, f_after := f_after, fd_after := _, F_after := fun_mk (st := s_after) l_after d_after k_after, b_after := (fun_mk (st := s_after) l_after d_after k_after).binds (ps := ["one", "other"]) fun _ _ _ _ _ _ us hl => (match us, hl with | [_, _], _ => rfl), m_after := PySem.W.mg_of X G a_after, f_back := f_back, fd_back := _, F_back := fun_mk (st := s_back) l_back d_back k_back, b_back := (fun_mk (st := s_back) l_back d_back k_back).binds (ps := ["one"]) fun _ _ _ _ _ _ us hl => (match us, hl with | [_], _ => rfl), m_back := PySem.W.mg_of X G a_back, f_bring_out := f_bring_out, fd_bring_out := _, F_bring_out := fun_mk (st := s_bring_out) l_bring_out d_bring_out k_bring_out, b_bring_out := (fun_mk (st := s_bring_out) l_bring_out d_bring_out k_bring_out).binds (ps := ["word"]) fun _ _ _ _ _ _ us hl => (match us, hl with | [_], _ => rfl), m_bring_out := PySem.W.mg_of X G a_bring_out, f_crossing := f_crossing, fd_crossing := _, F_crossing := fun_mk (st := s_crossing) l_crossing d_crossing k_crossing, b_crossing := (fun_mk (st := s_crossing) l_crossing d_crossing k_crossing).binds (ps := ["one", "other"]) fun _ _ _ _ _ _ us hl => (match us, hl with | [_, _], _ => rfl), m_crossing := PySem.W.mg_of X G a_crossing, f_raised := f_raised, fd_raised := _, F_raised := fun_mk (st := s_raised) l_raised d_raised k_raised, b_raised := (fun_mk (st := s_raised) l_raised d_raised k_raised).binds (ps := ["one", "many"]) fun _ _ _ _ _ _ us hl => (match us, hl with | [_, _], _ => rfl), m_raised := PySem.W.mg_of X G a_raised, f_read := f_read, fd_read := _, F_read := fun_mk (st := s_read) l_read d_read k_read, b_read := (fun_mk (st := s_read) l_read d_read k_read).binds (ps := ["text"]) fun _ _ _ _ _ _ us hl => (match us, hl with | [_], _ => rfl), m_read := PySem.W.mg_of X G a_read, f_repeated := f_repeated, fd_repeated := _, F_repeated := fun_mk (st := s_repeated) l_repeated d_repeated k_repeated, b_repeated := (fun_mk (st := s_repeated) l_repeated d_repeated k_repeated).binds (ps := ["word", "many"]) fun _ _ _ _ _ _ us hl => (match us, hl with | [_, _], _ => rfl), m_repeated := PySem.W.mg_of X G a_repeated, f_short := f_short, fd_short := _, F_short := fun_mk (st := s_short) l_short d_short k_short, b_short := (fun_mk (st := s_short) l_short d_short k_short).binds (ps := ["word"]) fun _ _ _ _ _ _ us hl => (match us, hl with | [_], _ => rfl), m_short := PySem.W.mg_of X G a_short, f_still := f_still, fd_still := _, F_still := fun_mk (st := s_still) l_still d_still k_still, b_still := (fun_mk (st := s_still) l_still d_still k_still).binds (ps := ["many"]) fun _ _ _ _ _ _ us hl => (match us, hl with | [_], _ => rfl), m_still := PySem.W.mg_of X G a_still, f_told := f_told, fd_told := _, F_told := fun_mk (st := s_told) l_told d_told k_told, b_told := (fun_mk (st := s_told) l_told d_told k_told).binds (ps := ["word"]) fun _ _ _ _ _ _ us hl => (match us, hl with | [_], _ => rfl), m_told := PySem.W.mg_of X G a_told, f_undone := f_undone, fd_undone := _, F_undone := fun_mk (st := s_undone) l_undone d_undone k_undone, b_undone := (fun_mk (st := s_undone) l_undone d_undone k_undone).binds (ps := ["word"]) fun _ _ _ _ _ _ us hl => (match us, hl with | [_], _ => rfl), m_undone := PySem.W.mg_of X G a_undone, f_value := f_value, fd_value := _, F_value := fun_mk (st := s_value) l_value d_value k_value, b_value := (fun_mk (st := s_value) l_value d_value k_value).binds (ps := ["word", "turns", "many"]) fun _ _ _ _ _ _ us hl => (match us, hl with | [_, _, _], _ => rfl), m_value := PySem.W.mg_of X G a_value, f_word_crossing := f_word_crossing, fd_word_crossing := _, F_word_crossing := fun_mk (st := s_word_crossing) l_word_crossing d_word_crossing k_word_crossing, b_word_crossing := (fun_mk (st := s_word_crossing) l_word_crossing d_word_crossing k_word_crossing).binds (ps := ["one", "other"]) fun _ _ _ _ _ _ us hl => (match us, hl with | [_, _], _ => rfl), m_word_crossing := PySem.W.mg_of X G a_word_crossing, S_LETTERS := ⟨_, PySem.W.mg_of X G a_LETTERS⟩, e_BadWord_BadWord := e_BadWord_BadWord, z_abs := PySem.W.mg_none_of X G z_abs, z_enumerate := PySem.W.mg_none_of X G z_enumerate, z_int := PySem.W.mg_none_of X G z_int, z_len := PySem.W.mg_none_of X G z_len, z_list := PySem.W.mg_none_of X G z_list, z_range := PySem.W.mg_none_of X G z_range, z_reversed := PySem.W.mg_none_of X G z_reversed, z_tuple := PySem.W.mg_none_of X G z_tuple, nd := nd }
  exact ⟨_, [], spLaw K (nm hy), (fun _ h => nomatch h), (fun _ h => nomatch h), (fun _ h => nomatch h), fun s v => .of_eq rfl, fun H a ns _ _ hT hS => ⟨a, ns, rfl, hS, (fun _ h => nomatch h), fun _ => rfl⟩, fun base _ _ TB => g_law hy ⟨trivial⟩ l_law d_law⟩
end L16
open PySem PySem.W PyProof.Rows
set_option maxHeartbeats 0 in
theorem PySem.Challenge.cw_grouphall_k16_words_and_backs_holds : PySem.Challenge.rw_grouphall_k16_words_and_backs.Holds := by
  w_on; o_law; x_head; (case hw => w_witness2)
  k_fill
  refine LamX.walk_ofTsE (l := PySem.Challenge.rw_grouphall_k16_words_and_backs) (n := 63) (k := 5) (x := "script") (CX := fun w => L2.CX PySem.Challenge.rw_grouphall_k16_words_and_backs.prog w) rfl (by decide) rfl ⟨rfl, by decide, by decide⟩ ?F (fun _ _ _ _ _ z => by obtain ⟨_, _, _, _, _, _, _, _, _, _, _, _, z⟩ := z; exact z)
  case F =>
    intro w mg fa h Y G hmg
    have KX := DL.nt_in (PySem.W.kIn_of Y) (by kernel_rfl)
    refine ⟨_, KX, ?_⟩
    refine' L16.all_mk KX G hmg ?a_BadWord ?a_NoWay ?x_NoWay ?k_NoWay ?s_NoWay ?t_NoWay ?z_super ?o1_BadWord ?o2_BadWord ?o3_BadWord ?o4_BadWord ?o5_BadWord ?a_i_BadWord ?o7_BadWord ?o8_BadWord ?o9_BadWord ?p1_BadWord ?l_i_BadWord ?p2_BadWord ?l_c_BadWord ?t2_BadWord ?p3_BadWord ?p4_BadWord ?l_k_BadWord ?a_law ?l_law ?d_law ?k_law ?a__law_rounds ?l__law_rounds ?d__law_rounds ?k__law_rounds ?a__law_dice ?l__law_dice ?d__law_dice ?k__law_dice ?a__law_roll ?l__law_roll ?d__law_roll ?k__law_roll ?a__law_place ?l__law_place ?d__law_place ?k__law_place ?a__law_turn ?l__law_turn ?d__law_turn ?k__law_turn ?a__law_word ?l__law_word ?d__law_word ?k__law_word ?a_after ?l_after ?d_after ?k_after ?a_back ?l_back ?d_back ?k_back ?a_bring_out ?l_bring_out ?d_bring_out ?k_bring_out ?a_crossing ?l_crossing ?d_crossing ?k_crossing ?a_raised ?l_raised ?d_raised ?k_raised ?a_read ?l_read ?d_read ?k_read ?a_repeated ?l_repeated ?d_repeated ?k_repeated ?a_short ?l_short ?d_short ?k_short ?a_still ?l_still ?d_still ?k_still ?a_told ?l_told ?d_told ?k_told ?a_undone ?l_undone ?d_undone ?k_undone ?a_value ?l_value ?d_value ?k_value ?a_word_crossing ?l_word_crossing ?d_word_crossing ?k_word_crossing ?a_LETTERS ?e_BadWord_BadWord ?z_abs ?z_enumerate ?z_int ?z_len ?z_list ?z_range ?z_reversed ?z_tuple ?nd
    (case a_BadWord => first | (refine DL.nt_ns ?_ ?_; k_is; kernel_rfl) | (refine DL.nt_find ?_ ?_; k_is; kernel_rfl)); (case a_NoWay => first | (refine DL.nt_ns ?_ ?_; k_is; kernel_rfl) | (refine DL.nt_find ?_ ?_; k_is; kernel_rfl)); (case x_NoWay => kernel_rfl); (case k_NoWay => kernel_rfl); (case s_NoWay => kernel_rfl); (case t_NoWay => kernel_rfl); (case z_super => first | (refine DL.nt_ns ?_ ?_; k_is; kernel_rfl) | (refine DL.nt_find ?_ ?_; k_is; kernel_rfl)); (case o1_BadWord => kernel_rfl); (case o2_BadWord => kernel_rfl); (case o3_BadWord => kernel_rfl); (case o4_BadWord => kernel_rfl); (case o5_BadWord => kernel_rfl); (case a_i_BadWord => first | (refine DL.nt_ns ?_ ?_; k_is; kernel_rfl) | (refine DL.nt_find ?_ ?_; k_is; kernel_rfl)); (case o7_BadWord => kernel_rfl); (case o8_BadWord => kernel_rfl); (case o9_BadWord => kernel_rfl); (case p1_BadWord => kernel_rfl); (case l_i_BadWord => refine DL.nt_lk ?_ ?_; k_is; kernel_rfl); (case p2_BadWord => kernel_rfl); (case l_c_BadWord => refine DL.nt_lk ?_ ?_; k_is; kernel_rfl); (case t2_BadWord => exact rfl); (case p3_BadWord => kernel_rfl); (case p4_BadWord => kernel_rfl); (case l_k_BadWord => refine DL.nt_lk ?_ ?_; k_is; kernel_rfl); (case a_law => first | (refine DL.nt_ns ?_ ?_; k_is; kernel_rfl) | (refine DL.nt_find ?_ ?_; k_is; kernel_rfl)); (case l_law => refine DL.nt_lk ?_ ?_; k_is; kernel_rfl); (case d_law => kernel_rfl); (case k_law => kernel_rfl); (case a__law_rounds => first | (refine DL.nt_ns ?_ ?_; k_is; kernel_rfl) | (refine DL.nt_find ?_ ?_; k_is; kernel_rfl)); (case l__law_rounds => refine DL.nt_lk ?_ ?_; k_is; kernel_rfl); (case d__law_rounds => kernel_rfl); (case k__law_rounds => kernel_rfl); (case a__law_dice => first | (refine DL.nt_ns ?_ ?_; k_is; kernel_rfl) | (refine DL.nt_find ?_ ?_; k_is; kernel_rfl)); (case l__law_dice => refine DL.nt_lk ?_ ?_; k_is; kernel_rfl); (case d__law_dice => kernel_rfl); (case k__law_dice => kernel_rfl); (case a__law_roll => first | (refine DL.nt_ns ?_ ?_; k_is; kernel_rfl) | (refine DL.nt_find ?_ ?_; k_is; kernel_rfl)); (case l__law_roll => refine DL.nt_lk ?_ ?_; k_is; kernel_rfl); (case d__law_roll => kernel_rfl); (case k__law_roll => kernel_rfl); (case a__law_place => first | (refine DL.nt_ns ?_ ?_; k_is; kernel_rfl) | (refine DL.nt_find ?_ ?_; k_is; kernel_rfl)); (case l__law_place => refine DL.nt_lk ?_ ?_; k_is; kernel_rfl); (case d__law_place => kernel_rfl); (case k__law_place => kernel_rfl); (case a__law_turn => first | (refine DL.nt_ns ?_ ?_; k_is; kernel_rfl) | (refine DL.nt_find ?_ ?_; k_is; kernel_rfl)); (case l__law_turn => refine DL.nt_lk ?_ ?_; k_is; kernel_rfl); (case d__law_turn => kernel_rfl); (case k__law_turn => kernel_rfl); (case a__law_word => first | (refine DL.nt_ns ?_ ?_; k_is; kernel_rfl) | (refine DL.nt_find ?_ ?_; k_is; kernel_rfl)); (case l__law_word => refine DL.nt_lk ?_ ?_; k_is; kernel_rfl); (case d__law_word => kernel_rfl); (case k__law_word => kernel_rfl); (case a_after => first | (refine DL.nt_ns ?_ ?_; k_is; kernel_rfl) | (refine DL.nt_find ?_ ?_; k_is; kernel_rfl)); (case l_after => refine DL.nt_lk ?_ ?_; k_is; kernel_rfl); (case d_after => kernel_rfl); (case k_after => kernel_rfl); (case a_back => first | (refine DL.nt_ns ?_ ?_; k_is; kernel_rfl) | (refine DL.nt_find ?_ ?_; k_is; kernel_rfl)); (case l_back => refine DL.nt_lk ?_ ?_; k_is; kernel_rfl); (case d_back => kernel_rfl); (case k_back => kernel_rfl); (case a_bring_out => first | (refine DL.nt_ns ?_ ?_; k_is; kernel_rfl) | (refine DL.nt_find ?_ ?_; k_is; kernel_rfl)); (case l_bring_out => refine DL.nt_lk ?_ ?_; k_is; kernel_rfl); (case d_bring_out => kernel_rfl); (case k_bring_out => kernel_rfl); (case a_crossing => first | (refine DL.nt_ns ?_ ?_; k_is; kernel_rfl) | (refine DL.nt_find ?_ ?_; k_is; kernel_rfl)); (case l_crossing => refine DL.nt_lk ?_ ?_; k_is; kernel_rfl); (case d_crossing => kernel_rfl); (case k_crossing => kernel_rfl); (case a_raised => first | (refine DL.nt_ns ?_ ?_; k_is; kernel_rfl) | (refine DL.nt_find ?_ ?_; k_is; kernel_rfl)); (case l_raised => refine DL.nt_lk ?_ ?_; k_is; kernel_rfl); (case d_raised => kernel_rfl); (case k_raised => kernel_rfl); (case a_read => first | (refine DL.nt_ns ?_ ?_; k_is; kernel_rfl) | (refine DL.nt_find ?_ ?_; k_is; kernel_rfl)); (case l_read => refine DL.nt_lk ?_ ?_; k_is; kernel_rfl); (case d_read => kernel_rfl); (case k_read => kernel_rfl); (case a_repeated => first | (refine DL.nt_ns ?_ ?_; k_is; kernel_rfl) | (refine DL.nt_find ?_ ?_; k_is; kernel_rfl)); (case l_repeated => refine DL.nt_lk ?_ ?_; k_is; kernel_rfl); (case d_repeated => kernel_rfl); (case k_repeated => kernel_rfl); (case a_short => first | (refine DL.nt_ns ?_ ?_; k_is; kernel_rfl) | (refine DL.nt_find ?_ ?_; k_is; kernel_rfl)); (case l_short => refine DL.nt_lk ?_ ?_; k_is; kernel_rfl); (case d_short => kernel_rfl); (case k_short => kernel_rfl); (case a_still => first | (refine DL.nt_ns ?_ ?_; k_is; kernel_rfl) | (refine DL.nt_find ?_ ?_; k_is; kernel_rfl)); (case l_still => refine DL.nt_lk ?_ ?_; k_is; kernel_rfl); (case d_still => kernel_rfl); (case k_still => kernel_rfl); (case a_told => first | (refine DL.nt_ns ?_ ?_; k_is; kernel_rfl) | (refine DL.nt_find ?_ ?_; k_is; kernel_rfl)); (case l_told => refine DL.nt_lk ?_ ?_; k_is; kernel_rfl); (case d_told => kernel_rfl); (case k_told => kernel_rfl); (case a_undone => first | (refine DL.nt_ns ?_ ?_; k_is; kernel_rfl) | (refine DL.nt_find ?_ ?_; k_is; kernel_rfl)); (case l_undone => refine DL.nt_lk ?_ ?_; k_is; kernel_rfl); (case d_undone => kernel_rfl); (case k_undone => kernel_rfl); (case a_value => first | (refine DL.nt_ns ?_ ?_; k_is; kernel_rfl) | (refine DL.nt_find ?_ ?_; k_is; kernel_rfl)); (case l_value => refine DL.nt_lk ?_ ?_; k_is; kernel_rfl); (case d_value => kernel_rfl); (case k_value => kernel_rfl); (case a_word_crossing => first | (refine DL.nt_ns ?_ ?_; k_is; kernel_rfl) | (refine DL.nt_find ?_ ?_; k_is; kernel_rfl)); (case l_word_crossing => refine DL.nt_lk ?_ ?_; k_is; kernel_rfl); (case d_word_crossing => kernel_rfl); (case k_word_crossing => kernel_rfl); (case a_LETTERS => first | (refine DL.nt_ns ?_ ?_; k_is; kernel_rfl) | (refine DL.nt_find ?_ ?_; k_is; kernel_rfl)); (case e_BadWord_BadWord => kernel_rfl); (case z_abs => first | (refine DL.nt_ns ?_ ?_; k_is; kernel_rfl) | (refine DL.nt_find ?_ ?_; k_is; kernel_rfl)); (case z_enumerate => first | (refine DL.nt_ns ?_ ?_; k_is; kernel_rfl) | (refine DL.nt_find ?_ ?_; k_is; kernel_rfl)); (case z_int => first | (refine DL.nt_ns ?_ ?_; k_is; kernel_rfl) | (refine DL.nt_find ?_ ?_; k_is; kernel_rfl)); (case z_len => first | (refine DL.nt_ns ?_ ?_; k_is; kernel_rfl) | (refine DL.nt_find ?_ ?_; k_is; kernel_rfl)); (case z_list => first | (refine DL.nt_ns ?_ ?_; k_is; kernel_rfl) | (refine DL.nt_find ?_ ?_; k_is; kernel_rfl)); (case z_range => first | (refine DL.nt_ns ?_ ?_; k_is; kernel_rfl) | (refine DL.nt_find ?_ ?_; k_is; kernel_rfl)); (case z_reversed => first | (refine DL.nt_ns ?_ ?_; k_is; kernel_rfl) | (refine DL.nt_find ?_ ?_; k_is; kernel_rfl)); (case z_tuple => first | (refine DL.nt_ns ?_ ?_; k_is; kernel_rfl) | (refine DL.nt_find ?_ ?_; k_is; kernel_rfl)); (case nd => decide)
