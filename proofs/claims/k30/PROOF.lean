import PyProof.Rows.All
import Wide.All
import OpenK.AllK
import Wide.FinOn
import HandS.ForMost
import HandS.ForExc
import HandS.Walk
import HandS.TryMany
import HandS.Lambda
import PyProof.TupleKey
import PyProof.DictRoadsH
import HandS.TupAny
import HandS.TupMul
import HandS.Deep
import HandS.Rev
import HandS.Zip
import HandS.Conv
import HandS.Codes
import HandS.IsInst
import HandS.Small
import HandS.Flow
import HandS.NoneIn
import HandS.Style
import HandS.SortInts
import KE.KSortTup
import HandS.EndOwn
import PyProof.GenQ
import HandS.GenOver
import PyProof.ConsumeS
import HandS.TupLe
import HandS.WordsDict
import HandS.TupLen
import HandS.More
import HandS.DictComp
import PyProof.DictTable
import KE.GoesEnum
import KE.GoesZip
import KE.KDictSum
import KE.KIndexOf
import HandS.DictTup
import HandS.SetKeys
import PyProof.DictMoreH
import KE.KLam
import KE.SortKeyHeap
import PyProof.Rows.Tup
import PyProof.Rows.CallKwBuiltin
import HandS.Iter
import HandS.TupSets
import KE.KNestM
import OpenK.XHead
import HandS.HeadWalk
import PySem.Challenge.RW_grouphall_k30_grids_by_adding_steps
set_option Elab.async false
set_option linter.all false
set_option maxRecDepth 100000
/-! rows of rows as keys of a dict -/
namespace DL
open PySem PySem.Spec PyProof.Rows L2
section
variable {prog : Program} {w : World} {K : Type} [DecidableEq K] (knd : KeyKind prog w K)
inductive RowsAre (h : Heap) : List (List K) → List Value → Prop
  | nil : RowsAre h [] []
  | cons {k : List K} {a : Addr} {ks : List (List K)} {vs : List Value} : IsTupleKey knd h k a → RowsAre h ks vs → RowsAre h (k :: ks) (.ref a :: vs)
def IsRowsKey (h : Heap) (ks : List (List K)) (a : Addr) : Prop := ∃ o items n, h.get? a = some o ∧ o.cls = .type "tuple" ∧ o.data = .seq items n ∧ RowsAre knd h ks items.toList
variable {knd}
theorem RowsAre.inj {h : Heap} {x y : List (List K)} {vs : List Value} (hx : RowsAre knd h x vs) (hy : RowsAre knd h y vs) : x = y := by
  induction hx generalizing y with
  | nil => cases hy; rfl
  | cons h1 _ ih =>
    cases hy with
    | cons h2 t2 => rw [h1.inj h2, ih t2]
theorem RowsAre.length {h : Heap} {x : List (List K)} {vs : List Value} (hx : RowsAre knd h x vs) : x.length = vs.length := by
  induction hx with
  | nil => rfl
  | cons _ _ ih => simp [ih]
theorem IsRowsKey.typeIs {s : Shared} {ks : List (List K)} {a : Addr} (x : IsRowsKey knd s.heap ks a) : s.TypeIs (.ref a) "tuple" := let ⟨o, _, _, ho, hc, _⟩ := x; ⟨o, ho, hc⟩
theorem IsRowsKey.inj {h : Heap} {a : Addr} {x y : List (List K)} (hx : IsRowsKey knd h x a) (hy : IsRowsKey knd h y a) : x = y := by
  obtain ⟨o, items, n, ho, _, hd, hi⟩ := hx
  obtain ⟨o', items', n', ho', _, hd', hi'⟩ := hy
  obtain rfl : o = o' := Option.some.inj (ho.symm.trans ho')
  rw [hd] at hd'
  injection hd' with h1 _
  subst h1
  exact hi.inj hi'
theorem RowsAre.keeps {h h' : Heap} {ks : List (List K)} {vs : List Value} {d : Addr} {o : Obj} {es ep} (x : RowsAre knd h ks vs) (ho : h.get? d = some o) (hd : o.data = .dict es ep) (hs : Heap.SameBut d h h') :
    RowsAre knd h' ks vs := by
  induction x with
  | nil => exact .nil
  | cons h1 _ ih => exact .cons (h1.keeps ho hd hs) ih
theorem IsRowsKey.keeps {h h' : Heap} {ks : List (List K)} {a d : Addr} {o : Obj} {es ep} (x : IsRowsKey knd h ks a) (ho : h.get? d = some o) (hd : o.data = .dict es ep) (hs : Heap.SameBut d h h') :
    IsRowsKey knd h' ks a := by
  obtain ⟨o', items, n, ho', hc, hd', hi⟩ := x
  have hne : a ≠ d := by
    rintro rfl
    obtain rfl : o' = o := Option.some.inj (ho'.symm.trans ho)
    rw [hd] at hd'; exact nomatch hd'
  exact ⟨o', items, n, (hs.2 a hne).trans ho', hc, hd', hi.keeps ho hd hs⟩
def rowsDraws : List (List K) → Nat
  | [] => 0
  | k :: ks => k.length + 1 + rowsDraws ks
theorem rowsDraws_snoc (k : List K) : ∀ ks : List (List K), rowsDraws (ks ++ [k]) = rowsDraws ks + (k.length + 1)
  | [] => by simp [rowsDraws]
  | x :: ks => by simp only [List.cons_append, rowsDraws, rowsDraws_snoc k ks]; omega
def rowsKeyHash (knd : KeyKind prog w K) (ks : List (List K)) : Int := reduceHash (Builtin.Tuple.tupleHashOf (ks.map (tupleKeyHash knd)))
variable {A : Around} {E : Value → Shared → Prop} {s : Shared}
theorem pyHash_rows {ks : List (List K)} {a : Addr} {Q : Int → Shared → Prop} (hu : A.units + 1 < cLine) (hk : IsRowsKey knd s.heap ks a) (h : Q (rowsKeyHash knd ks) { s with toks := s.toks + (rowsDraws ks + 1) }) :
    wpAny (model prog w) A (pyHash (.ref a)) Q E s := by
  have hT := hk.typeIs
  obtain ⟨o, items, n, ho, _, hd, hi⟩ := hk
  unfold pyHash
  first | unfold pyHashByItsType | skip
  first | refine wpAny_bind (wpAny_cRoomFor_or (.inr (by omega)) ?_) | skip
  refine wpAny_bind (wpAny_specialOf hT F.slot_tuple_hash.lookup ?_)
  show wpAny _ _ (if (some (Value.builtin "tuple.__hash__") == some Value.none) = true then _ else _) Q E s
  rw [if_neg (by rw [beq_builtin_none]; exact Bool.false_ne_true)]
  refine wpAny_bind (wpAny_specialOf hT F.slot_tuple_hash.lookup ?_)
  show wpAny _ _ (callSpecialIfBoundUnlessNone? (.ref a) "__hash__" _ >>= _) Q E s
  refine wpAny_bind (wpAny_callSpecialIfBoundUnlessNone?_slot hT F.slot_tuple_hash (wpAny_call_entry F.slot_tuple_hash hT F.entry_tuple_hash ?_ (F.args_tuple_hash_1 _)))
  show wpAny _ _ (Builtin.Tuple.tupleItemsOf (.ref a) >>= _) _ _ s
  refine wpAny_bind (wpAny_tupleItemsOf ho hd ?_)
  refine wpAny_bind ?_
  rw [← Array.forIn_toList]
  refine wpAny_forIn_list _
    (fun rest (b : Array Int) s' => ∃ done left, ks = done ++ left ∧ RowsAre knd s.heap left rest ∧ b.toList = done.map (tupleKeyHash knd) ∧ s' = { s with toks := s.toks + rowsDraws done })
    _ ?_ ?_ _ _ ⟨[], ks, rfl, hi, rfl, rfl⟩
  · rintro x rest b s' ⟨done, left, rfl, hl, hb, rfl⟩
    cases hl with
    | @cons k c ks' _ h1 hl' =>
      refine wpAny_bind (wpAny_pyHash_tuple (knd := knd) (ks := k) hu h1 ?_)
      first
        | exact wpAny_pure ⟨done ++ [k], ks', by simp, hl', by simp [hb], by simp [Nat.add_assoc, rowsDraws_snoc]⟩
        | exact wpAny_bind (wpAny_pure (wpAny_pure ⟨done ++ [k], ks', by simp, hl', by simp [hb], by simp [Nat.add_assoc, rowsDraws_snoc]⟩))
  · rintro b s' ⟨done, left, rfl, hl, hb, rfl⟩
    cases hl
    rw [List.append_nil] at h
    show wpAny _ _ (retInt (Builtin.Tuple.tupleHashOf b.toList)) _ _ _
    rw [hb]
    refine wpAny_ret_mkInt ?_
    show wpAny _ _ (if (decide (-(2 : Int) ^ 63 ≤ Builtin.Tuple.tupleHashOf (done.map (tupleKeyHash knd))) && decide (Builtin.Tuple.tupleHashOf (done.map (tupleKeyHash knd)) < 2 ^ 63)) = true then _ else _) Q E _
    unfold rowsKeyHash reduceHash at h
    by_cases hr : (decide (-(2 : Int) ^ 63 ≤ Builtin.Tuple.tupleHashOf (done.map (tupleKeyHash knd))) && decide (Builtin.Tuple.tupleHashOf (done.map (tupleKeyHash knd)) < 2 ^ 63)) = true
    · rw [if_pos hr]
      rw [if_pos hr] at h
      exact wpAny_pure (by simpa [Nat.add_assoc] using h)
    · rw [if_neg hr]
      rw [if_neg hr] at h
      exact wpAny_bind (wpAny_rule (wpAny_pure (by simpa [Nat.add_assoc] using h)))
theorem rows_eq_tree {x y : List (List K)} {a b : Addr} {P : Fin → Shared → Prop} (hu : A.units < cLine) (hx : IsRowsKey knd s.heap x a) (hy : IsRowsKey knd s.heap y b) (h : P (.done (.ret (.bool (decide (x = y))))) s) :
    wpAny (model prog w) A (Builtin.«tuple.__eq__» ⟨[.ref a, .ref b], []⟩) P E s := by
  have hTb := hy.typeIs
  obtain ⟨oa, xs, na, hoa, _, hda, hia⟩ := hx
  obtain ⟨ob, ys, nb, hob, _, hdb, hib⟩ := hy
  show wpAny _ _ (isInstance (.ref b) (.type "tuple") >>= _) _ _ s
  refine wpAny_bind (wpAny_isInstance hTb isSubtype_tuple_tuple ?_)
  simp only [Bool.not_true, Bool.false_eq_true, if_false]
  refine wpAny_bind (wpAny_tupleItemsOf hoa hda ?_)
  refine wpAny_bind (wpAny_tupleItemsOf hob hdb ?_)
  refine wpAny_bind ?_
  refine wpAny_forIn_list _
    (fun rest r s' => r.1 = none ∧ s' = s ∧ ∃ x' y' xs' ys', rest = List.zip xs' ys' ∧ RowsAre knd s.heap x' xs' ∧ RowsAre knd s.heap y' ys' ∧ decide (x' = y') = decide (x = y) ∧ (xs'.length == ys'.length) = (xs.size == ys.size))
    _ ?_ ?_ _ _ ⟨rfl, rfl, x, y, xs.toList, ys.toList, rfl, hia, hib, rfl, by simp⟩
  · rintro ⟨u, v⟩ rest r s' ⟨hr, rfl, x', y', xs', ys', hz, hx', hy', hdec, hlen⟩
    cases hx' with
    | nil => simp at hz
    | @cons k1 u' x'' xs'' h1 hx'' =>
      cases hy' with
      | nil => simp at hz
      | @cons k2 v' y'' ys'' h2 hy'' =>
        simp only [List.zip_cons_cons, List.cons.injEq, Prod.mk.injEq] at hz
        obtain ⟨⟨rfl, rfl⟩, rfl⟩ := hz
        refine wpAny_bind (wpAny_eqBool_tuple (knd := knd) (x := k1) (y := k2) hu h1 h2 ?_)
        by_cases hk : k1 = k2
        · subst hk
          rw [decide_eq_true rfl]
          simp only [Bool.not_true, Bool.false_eq_true, if_false]
          refine wpAny_pure ⟨rfl, rfl, x'', y'', xs'', ys'', rfl, hx'', hy'', ?_, by simpa using hlen⟩
          rw [← hdec]
          by_cases hxy : x'' = y''
          · simp [hxy]
          · simp [hxy]
        · rw [decide_eq_false hk]
          simp only [Bool.not_false, if_true]
          have hf : decide (x = y) = false := by rw [← hdec]; simp [hk]
          rw [hf] at h
          exact wpAny_bind (wpAny_pure (wpAny_pure (wpAny_pure h)))
  · rintro ⟨r1, r2⟩ s' ⟨hr, rfl, x', y', xs', ys', hz, hx', hy', hdec, hlen⟩
    simp only at hr
    subst hr
    refine wpAny_pure ?_
    have hfin : (xs.size == ys.size) = decide (x = y) := by
      rw [← hdec, ← hlen]
      cases hx' with
      | nil =>
        cases hy' with
        | nil => simp
        | cons _ _ => simp
      | cons _ _ =>
        cases hy' with
        | nil => simp
        | cons _ _ => simp at hz
    show P (.done (.ret (.bool (xs.size == ys.size)))) s'
    rw [hfin]; exact h
theorem eqBool_rows {x y : List (List K)} {a b : Addr} {Q : Bool → Shared → Prop} (hu : A.units + 1 < cLine) (hx : IsRowsKey knd s.heap x a) (hy : IsRowsKey knd s.heap y b) (h : Q (decide (x = y)) s) :
    wpAny (model prog w) A (eqBool (.ref a) (.ref b)) Q E s := by
  unfold eqBool
  try with_reducible refine wpAny_holding ?_
  show wpAny _ _ (if (Value.ref a == Value.ref b) = true then _ else _) Q E s
  by_cases hab : (Value.ref a == Value.ref b) = true
  · rw [if_pos hab]
    have e : a = b := by have := eq_of_beq hab; injection this
    subst e
    obtain rfl := hx.inj hy
    exact wpAny_bind (wpAny_rule (wpAny_pure (by simpa using h)))
  · rw [if_neg hab]
    exact wpAny_bind (wpAny_richCompare_same_room (op := .Eq) hx.typeIs hy.typeIs F.slot_tuple_eq
      (wpAny_call_entry F.slot_tuple_eq hx.typeIs F.entry_tuple_eq (rows_eq_tree hu hx hy ⟨_, rfl, (fun e => nomatch e), wpAny_truthy_bool h⟩) (F.args_tuple_eq_2 _ _)) (by omega))
theorem quiet_row {n : Nat} {ks : List K} {a : Addr} {Q : Bool → Shared → Prop} (hk : IsTupleKey knd s.heap ks a) (h : Q true s) : wpAny (model prog w) A (eqIsQuiet (n + 1) (.ref a)) Q E s := by
  have hT := hk.typeIs
  obtain ⟨o, items, n, ho, _, hd, hi⟩ := hk
  unfold eqIsQuiet
  refine wpAny_bind (wpAny_specialOf hT F.slot_tuple_eq.lookup ?_)
  show wpAny _ _ (isInstance (.ref a) (.type "tuple") >>= _) _ _ s
  refine wpAny_bind (wpAny_isInstance hT isSubtype_tuple_tuple ?_)
  simp only [Bool.not_true, Bool.false_eq_true, if_false]
  refine wpAny_bind (wpAny_seqItems ho hd ?_)
  refine wpAny_bind ?_
  show wpAny _ _ (forIn items _ _) _ _ s
  rw [← Array.forIn_toList]
  refine wpAny_forIn_list _ (fun rest r s' => r.1 = none ∧ s' = s ∧ ∀ v ∈ rest, carriedByValue v = true) _ ?_ ?_ _ _ ⟨rfl, rfl, hi.byValue⟩
  · rintro v rest r s' ⟨hr, rfl, hall⟩
    rw [eqIsQuiet_byValue _ (hall v List.mem_cons_self)]
    refine wpAny_bind (wpAny_pure ?_)
    simp only [Bool.not_true, Bool.false_eq_true, if_false]
    exact wpAny_pure ⟨rfl, rfl, fun u hu' => hall u (List.mem_cons_of_mem _ hu')⟩
  · rintro ⟨r1, r2⟩ s' ⟨hr, rfl, _⟩
    simp only at hr
    subst hr
    exact wpAny_pure h
theorem quiet_rows {ks : List (List K)} {a : Addr} {Q : Bool → Shared → Prop} (hk : IsRowsKey knd s.heap ks a) (h : Q true s) : wpAny (model prog w) A (eqIsQuiet 8 (.ref a)) Q E s := by
  have hT := hk.typeIs
  obtain ⟨o, items, n, ho, _, hd, hi⟩ := hk
  unfold eqIsQuiet
  refine wpAny_bind (wpAny_specialOf hT F.slot_tuple_eq.lookup ?_)
  show wpAny _ _ (isInstance (.ref a) (.type "tuple") >>= _) _ _ s
  refine wpAny_bind (wpAny_isInstance hT isSubtype_tuple_tuple ?_)
  simp only [Bool.not_true, Bool.false_eq_true, if_false]
  refine wpAny_bind (wpAny_seqItems ho hd ?_)
  refine wpAny_bind ?_
  show wpAny _ _ (forIn items _ _) _ _ s
  rw [← Array.forIn_toList]
  refine wpAny_forIn_list _ (fun rest r s' => r.1 = none ∧ s' = s ∧ ∃ ks', RowsAre knd s.heap ks' rest) _ ?_ ?_ _ _ ⟨rfl, rfl, ks, hi⟩
  · rintro v rest r s' ⟨hr, rfl, ks', hall⟩
    cases hall with
    | @cons k c ks'' _ h1 h2 =>
      refine wpAny_bind (quiet_row (knd := knd) (n := 6) h1 ?_)
      simp only [Bool.not_true, Bool.false_eq_true, if_false]
      exact wpAny_pure ⟨rfl, rfl, ks'', h2⟩
  · rintro ⟨r1, r2⟩ s' ⟨hr, rfl, _⟩
    simp only at hr
    subst hr
    exact wpAny_pure h
end
/-- rows of rows as keys -/
def rowsKind {prog : Program} {w : World} {K : Type} [DecidableEq K] (knd : KeyKind prog w K) : HeapKind prog w (List (List K)) where
  is := IsRowsKey knd
  hash := rowsKeyHash knd
  draws := fun ks => rowsDraws ks + 1
  room := fun A => A.units + 1 < cLine
  inj := fun hx hy => hx.inj hy
  keeps := fun x ho hd hs => x.keeps ho hd hs
  pyHash := fun hu hk h => pyHash_rows hu hk h
  eqBool := fun hu hx hy h => eqBool_rows hu hx hy h
  quiet := fun hk h => quiet_rows hk h
/-! ### the object of a dict whose keys are rows of rows of ints -/
abbrev RK := List (List Int)
def hashR (k : RK) : Int := reduceHash (Builtin.Tuple.tupleHashOf (k.map fun l => reduceHash (Builtin.Tuple.tupleHashOf (l.map hashInt))))
def entR (x : RK × Addr × Value) : DictEntry := ⟨hashR x.1, .ref x.2.1, x.2.2⟩
/-- the dict at a, by its entries -/
def dObj (a : Addr) (xs : List (RK × Addr × Value)) : HO := .ext fun h => ∃ o es ep, h.get? a = some o ∧ o.ExactDict ∧ o.data = .dict es ep ∧ es.toList = xs.map entR
theorem dObj_code {a : Addr} {xs : List (RK × Addr × Value)} {c : Addr} {q : Str} (h : dObj a xs = LamX.CodeO c q) : False := by
  unfold dObj LamX.CodeO at h
  injection h with h
  let ob : Obj := { cls := .type "dict", data := .dict (xs.map entR).toArray 0 }
  let hp : Heap := { objs := Array.replicate (a + 1) ob }
  have g : ∀ b o, hp.get? b = some o → o = ob := fun b o e => by
    unfold Heap.get? at e
    by_cases z : b < a + 1
    · have : hp.objs[b]? = some ob := by
        show (Array.replicate (a + 1) ob)[b]? = some ob
        rw [Array.getElem?_replicate, if_pos z]
      rw [this] at e
      exact (Option.some.inj e).symm
    · have : hp.objs[b]? = none := by
        show (Array.replicate (a + 1) ob)[b]? = none
        rw [Array.getElem?_replicate, if_neg z]
      rw [this] at e
      cases e
  have ga : hp.get? a = some ob := by
    unfold Heap.get?
    have : hp.objs[a]? = some ob := by
      show (Array.replicate (a + 1) ob)[a]? = some ob
      rw [Array.getElem?_replicate, if_pos (Nat.lt_succ_self a)]
    rw [this]
  obtain ⟨oc, vs, t, e1, e2, _⟩ := (congrFun h hp).mp ⟨ob, _, 0, ga, ⟨rfl, rfl, rfl⟩, rfl, rfl⟩
  rw [g c oc e1] at e2
  cases e2
def TupA (H : Hp) (b : Addr) (vs : List V) : Prop := H b = some (.tup vs) ∨ ∃ ob, H b = some (.frz ob (.tup vs))
def RowsV (H : Hp) : RK → List V → Prop
  | [], vs => vs = []
  | k :: ks, vs => ∃ c vs', vs = .ref c :: vs' ∧ TupA H c (k.map V.int) ∧ RowsV H ks vs'
/-- a tuple of tuples of ints at b -/
def RowsA (H : Hp) (b : Addr) (k : RK) : Prop := ∃ vs, TupA H b vs ∧ RowsV H k vs
section
variable {P : Program} {w : World} {H : Hp} {h : Heap} {b : Addr}
theorem TupA.obj {vs : List V} (ok : HOk P w H h) (e : TupA H b vs) : ∃ its : List Value, Vals vs its ∧ IsTup h b its.toArray := by
  rcases e with e | ⟨ob, e⟩
  · obtain ⟨_, its, r, t⟩ := (show ObjOk P w H h b (.tup vs) from ok b _ e); exact ⟨its, r, t⟩
  · obtain ⟨_, _, its, r, t⟩ := (show ObjOk P w H h b (.frz ob (.tup vs)) from ok b _ e); exact ⟨its, r, t⟩
theorem ints_are {prog : Program} {w : World} : ∀ {k : List Int} {its : List Value}, Vals (k.map V.int) its → ItemsAre (intKind prog w) k its
  | [], its, h => by cases h; exact .nil
  | i :: k, its, h => by
    rw [List.map_cons] at h
    cases h with
    | cons h1 h2 =>
      obtain ⟨t, rfl⟩ := h1
      exact .cons (by show Value.isInt i (.int i t) = true; simp [Value.isInt]) (ints_are h2)
theorem TupA.key {k : List Int} (ok : HOk P w H h) (e : TupA H b (k.map V.int)) : IsTupleKey (intKind P w) h k b := by
  obtain ⟨its, r, o, h1, h2, n, h3⟩ := e.obj ok
  exact ⟨o, its.toArray, n, h1, h2, h3, by simpa using ints_are r⟩
theorem RowsV.are (ok : HOk P w H h) : ∀ {k : RK} {vs : List V} {its : List Value}, RowsV H k vs → Vals vs its → RowsAre (intKind P w) h k its
  | [], vs, its, e, r => by rw [RowsV] at e; subst e; cases r; exact .nil
  | k :: ks, vs, its, e, r => by
    rw [RowsV] at e
    obtain ⟨c, vs', rfl, h1, h2⟩ := e
    cases r with
    | cons r1 r2 => cases (show _ = Value.ref c from r1); exact .cons (h1.key ok) (RowsV.are ok h2 r2)
theorem RowsA.key {k : RK} (ok : HOk P w H h) (e : RowsA H b k) : (rowsKind (intKind P w)).is h k b := by
  obtain ⟨vs, e1, e2⟩ := e
  obtain ⟨its, r, o, h1, h2, n, h3⟩ := e1.obj ok
  exact ⟨o, its.toArray, n, h1, h2, h3, by simpa using e2.are ok r⟩
end
end DL

/-! values as trees, a small heap of cells, worlds -/
namespace DL
open PySem PySem.Spec L2

inductive D where
  | non | bl (b : Bool) | int (i : Int) | str (x : Str) | tup (l : List D) | ref (r : Nat) | ftup (l : List D)

/-- the keys of a dict of rows of rows -/
abbrev RK2 := List RK
/-- what stands in a cell: a list; a list that is read alone; three ints that nobody knows; a dict; an instance; a thing by its number -/
inductive Cell where
  | lst (l : List D) | frz (l : List D) | dice | dct (t : Bool) (kvs : List (D × D)) | ldc (t : Bool) (kvs : List (D × D)) | dcr (ks : RK2) | ins (c : Nat) (fs : List (Nat × D))

def Cell.mut : Cell → Bool
  | .frz _ => false
  | .ldc _ _ => false
  | _ => true

structure Hd where
  nx : Nat
  cs : List (Nat × Cell)

def look (r : Nat) : List (Nat × Cell) → Option Cell
  | [] => none
  | p :: t => match Nat.beq p.1 r with
    | true => some p.2
    | false => look r t
def Hd.get (η : Hd) (r : Nat) : Option Cell := look r η.cs
def put (r : Nat) (c : Cell) : List (Nat × Cell) → List (Nat × Cell)
  | [] => []
  | p :: t => match Nat.beq p.1 r with
    | true => (r, c) :: t
    | false => p :: put r c t
def Hd.set (η : Hd) (r : Nat) (c : Cell) : Hd := ⟨η.nx, put r c η.cs⟩
def Hd.new (η : Hd) (c : Cell) : Hd := ⟨Nat.succ η.nx, (η.nx, c) :: η.cs⟩

theorem look_put (r : Nat) (c : Cell) (q : Nat) : ∀ l : List (Nat × Cell), look q (put r c l) = if q = r then (look r l).map (fun _ => c) else look q l
  | [] => by simp [put, look]
  | p :: t => by
    have ih := look_put r c q t
    unfold put
    cases e : Nat.beq p.1 r with
    | true =>
      have e' : p.1 = r := Nat.eq_of_beq_eq_true e
      by_cases h : q = r
      · subst h
        have e2 : Nat.beq q q = true := Nat.beq_refl q
        simp [look, e, e2]
      · have e2 : Nat.beq r q = false := by
          cases z : Nat.beq r q with
          | false => rfl
          | true => exact absurd (Nat.eq_of_beq_eq_true z).symm h
        have e3 : Nat.beq p.1 q = false := by rw [e']; exact e2
        simp [look, e2, e3, h]
    | false =>
      by_cases h : q = r
      · subst h
        simp only [look, e, ih, if_true]
      · simp only [look, ih, if_neg h]
theorem Hd.get_set (η : Hd) (r : Nat) (c : Cell) (q : Nat) : (η.set r c).get q = if q = r then (η.get r).map (fun _ => c) else η.get q := look_put r c q η.cs
theorem Hd.get_new (η : Hd) (c : Cell) (q : Nat) : (η.new c).get q = if q = η.nx then some c else η.get q := by
  unfold Hd.get Hd.new
  by_cases h : q = η.nx
  · subst h
    have e2 : Nat.beq η.nx η.nx = true := Nat.beq_refl _
    simp [look, e2]
  · have e2 : Nat.beq η.nx q = false := by
      cases z : Nat.beq η.nx q with
      | false => rfl
      | true => exact absurd (Nat.eq_of_beq_eq_true z).symm h
    simp [look, e2, h]

/-! ### worlds -/
structure Wl where
  μ : Nat → Addr
  η : Hd
  H : Hp

section
variable (W : Wl)
mutual
def RelD : D → V → Prop
  | .non, v => v = .non
  | .bl b, v => v = .bl b
  | .int i, v => v = .int i
  | .str x, v => v = .str x
  | .ref r, v => r < W.η.nx ∧ v = .ref (W.μ r)
  | .tup ds, v => ∃ a vs, v = .ref a ∧ W.H a = some (.tup vs) ∧ RelDs ds vs
  | .ftup ds, v => ∃ a vs o, v = .ref a ∧ W.H a = some (.frz o (.tup vs)) ∧ o.dict = none ∧ RelDs ds vs
def RelDs : List D → List V → Prop
  | [], vs => vs = []
  | d :: ds, vs => ∃ v vs', vs = v :: vs' ∧ RelD d v ∧ RelDs ds vs'
end
end
section
variable {K : PySem.W.Frag} {W : Wl}
theorem RelDs.length : ∀ {ds : List D} {vs : List V}, RelDs W ds vs → ds.length = vs.length
  | [], _, h => by rw [RelDs] at h; subst h; rfl
  | d :: ds, _, h => by
    rw [RelDs] at h
    obtain ⟨v, vs', rfl, _, h2⟩ := h
    simp [RelDs.length h2]
theorem RelDs.nil : RelDs W [] [] := by rw [RelDs]
theorem RelDs.cons {d : D} {ds : List D} {v : V} {vs : List V} (h : RelD W d v) (h2 : RelDs W ds vs) : RelDs W (d :: ds) (v :: vs) := by
  rw [RelDs]; exact ⟨v, vs, rfl, h, h2⟩
theorem RelDs.get : ∀ {ds : List D} {vs : List V} {i : Nat} {v : V}, RelDs W ds vs → vs[i]? = some v → ∃ d, ds[i]? = some d ∧ RelD W d v
  | [], _, i, v, h, e => by rw [RelDs] at h; subst h; simp at e
  | d :: ds, _, 0, v, h, e => by
    rw [RelDs] at h
    obtain ⟨v', vs', rfl, h1, h2⟩ := h
    simp at e; subst e
    exact ⟨d, rfl, h1⟩
  | d :: ds, _, i + 1, v, h, e => by
    rw [RelDs] at h
    obtain ⟨v', vs', rfl, h1, h2⟩ := h
    simp at e
    obtain ⟨d', e', r⟩ := RelDs.get h2 e
    exact ⟨d', by simpa using e', r⟩
theorem RelDs.get' : ∀ {ds : List D} {vs : List V} {i : Nat} {d : D}, RelDs W ds vs → ds[i]? = some d → ∃ v, vs[i]? = some v ∧ RelD W d v
  | [], _, i, v, h, e => by simp at e
  | d :: ds, _, 0, v, h, e => by
    rw [RelDs] at h
    obtain ⟨v', vs', rfl, h1, h2⟩ := h
    simp at e; subst e
    exact ⟨v', rfl, h1⟩
  | d :: ds, _, i + 1, v, h, e => by
    rw [RelDs] at h
    obtain ⟨v', vs', rfl, h1, h2⟩ := h
    simp at e
    obtain ⟨d', e', r⟩ := RelDs.get' h2 e
    exact ⟨d', by simpa using e', r⟩
theorem RelDs.append : ∀ {ds ds' : List D} {vs vs' : List V}, RelDs W ds vs → RelDs W ds' vs' → RelDs W (ds ++ ds') (vs ++ vs')
  | [], _, _, _, h, h2 => by rw [RelDs] at h; subst h; exact h2
  | d :: ds, _, _, _, h, h2 => by
    rw [RelDs] at h
    obtain ⟨v', vs', rfl, h1, h3⟩ := h
    exact RelDs.cons h1 (RelDs.append h3 h2)
theorem RelDs.drop : ∀ {ds : List D} {vs : List V} (n : Nat), RelDs W ds vs → RelDs W (ds.drop n) (vs.drop n)
  | [], _, n, h => by rw [RelDs] at h; subst h; simp; exact .nil
  | d :: ds, _, 0, h => h
  | d :: ds, _, n + 1, h => by
    rw [RelDs] at h
    obtain ⟨v', vs', rfl, h1, h3⟩ := h
    exact RelDs.drop n h3
theorem RelDs.set {d : D} {v : V} (r : RelD W d v) : ∀ {ds : List D} {vs : List V} (n : Nat), RelDs W ds vs → RelDs W (ds.set n d) (vs.set n v)
  | [], _, n, h => by rw [RelDs] at h; subst h; exact .nil
  | d :: ds, _, 0, h => by
    rw [RelDs] at h
    obtain ⟨v', vs', rfl, h1, h3⟩ := h
    exact RelDs.cons r h3
  | d :: ds, _, n + 1, h => by
    rw [RelDs] at h
    obtain ⟨v', vs', rfl, h1, h3⟩ := h
    exact RelDs.cons h1 (RelDs.set r n h3)
theorem RelDs.reverse {ds : List D} {vs : List V} (h : RelDs W ds vs) : RelDs W ds.reverse vs.reverse := by
  induction ds generalizing vs with
  | nil => rw [RelDs] at h; subst h; exact .nil
  | cons d ds ih =>
    rw [RelDs] at h
    obtain ⟨v', vs', rfl, h1, h3⟩ := h
    simp only [List.reverse_cons]
    exact (ih h3).append (RelDs.cons h1 .nil)
end

/-- tables of code objects: where, the name of its lambdas, the places of its lambdas -/
abbrev Tbl := List (Addr × Str × (Nat → Nat → Bool))
/-- in the table at P each code object that stands at a lambda's place bears the name q -/
def TabP (H : Hp) (P : Addr) (q : Str) (lam : Nat → Nat → Bool) : Prop := ∃ es : Array Value, H P = some (.tbl es) ∧ TriplesOk es.toList ∧ ∀ at_ : Pos, lam at_.line at_.col = true → ∀ cv : Value, codeAmong at_ es.toList = some cv → ∃ c, cv = .ref c ∧ H c = some (LamX.CodeO c q)
def Tabs (T : Tbl) (H : Hp) : Prop := ∀ e ∈ T, TabP H e.1 e.2.1 e.2.2
theorem TabP.nil {H : Hp} {P : Addr} {q : Str} {lam : Nat → Nat → Bool} (h : H P = some (.tbl #[])) : TabP H P q lam := ⟨#[], h, True.intro, fun at_ _ cv hc => by
  simp [codeAmong] at hc⟩
/-- one entry more at the end of a table: what is found is old, or it is the new one and it was asked for at its place -/
theorem among_snoc {new q : Pos} {c cv : Value} (l : List Value) (h : TriplesOk l) (hc : codeAmong q (l ++ [rawInt new.line, rawInt new.col, c]) = some cv) : codeAmong q l = some cv ∨ (cv = c ∧ new.line = q.line ∧ new.col = q.col) := by
  fun_induction TriplesOk l with
  | case1 =>
    simp only [List.nil_append, rawInt, codeAmong] at hc
    split at hc
    · rename_i z
      simp only [Bool.and_eq_true, beq_iff_eq] at z
      exact .inr ⟨(Option.some.inj hc).symm, by omega, by omega⟩
    · cases hc
  | case2 a t b u x rest ih =>
    simp only [List.cons_append, codeAmong] at hc ⊢
    split at hc
    · rename_i z; rw [if_pos z]; exact .inl hc
    · rename_i z; rw [if_neg z]; exact ih h hc
  | case3 l h1 h2 => exact h.elim
/-- the names of attributes by number; the classes by number -/
structure Names where
  fld : Nat → Str
  cls : Nat → Addr
  /-- the tables of code objects -/
  tabs : Tbl

def RelFs (W : Wl) (N : Names) : List (Nat × D) → List (Str × V) → Prop
  | [], fs => fs = []
  | (k, d) :: r, fs => ∃ v fs', fs = (N.fld k, v) :: fs' ∧ RelD W d v ∧ RelFs W N r fs'

/-! keys -/
def D.key : D → Option Key
  | .int i => some (.inl i)
  | .str s => some (.inr s)
  | _ => none
def keysOf : List D → Option (List Key)
  | [] => some []
  | d :: ds => match D.key d, keysOf ds with
    | some k, some ks => some (k :: ks)
    | _, _ => none
def D.tkey : D → Option (List Key)
  | .tup ds => keysOf ds
  | _ => none
def RelK (W : Wl) : List (D × D) → List (Key × V) → Prop
  | [], ps => ps = []
  | (k, d) :: r, ps => ∃ k' v ps', ps = (k', v) :: ps' ∧ k.key = some k' ∧ RelD W d v ∧ RelK W r ps'
def RelT (W : Wl) : List (D × D) → List (List Key × V) → Prop
  | [], ps => ps = []
  | (k, d) :: r, ps => ∃ k' v ps', ps = (k', v) :: ps' ∧ k.tkey = some k' ∧ RelD W d v ∧ RelT W r ps'

/-- what the address of a cell holds -/
def RelC (K : PySem.W.Frag) (N : Names) (W : Wl) (a : Addr) : Cell → Prop
  | .lst ds => ∃ vs, W.H a = some (.lst vs) ∧ RelDs W ds vs ∧ ds.length ≤ sizeLine
  | .frz ds => ∃ vs, W.H a = some (.lst vs) ∧ RelDs W ds vs ∧ ds.length ≤ sizeLine
  | .dice => ∃ x y z, W.H a = some (.lst [.int x, .int y, .int z])
  | .dct false kvs => ∃ ps, W.H a = some (.dK ps) ∧ RelK W kvs ps ∧ kvs.length ≤ sizeLine
  | .dct true kvs => ∃ ps, W.H a = some (.dT ps) ∧ RelT W kvs ps ∧ kvs.length ≤ sizeLine
  | .ldc false kvs => ∃ ps o, W.H a = some (.frz o (.dK ps)) ∧ RelK W kvs ps ∧ kvs.length ≤ sizeLine
  | .ldc true kvs => ∃ ps o, W.H a = some (.frz o (.dT ps)) ∧ RelT W kvs ps ∧ kvs.length ≤ sizeLine
  | .dcr ks => ∃ xs, W.H a = some (dObj a xs) ∧ xs.map (·.1) = ks ∧ (∀ x ∈ xs, RowsA W.H x.2.1 x.1) ∧ ks.Nodup ∧ (a == sysModules) = false ∧ ks.length ≤ sizeLine
  | .ins c fs => ∃ dx gs, W.H a = some (.ins (N.cls c) dx gs) ∧ RelFs W N fs gs ∧ fs.length ≤ 900

structure Wl.Ok (K : PySem.W.Frag) (N : Names) (W : Wl) : Prop where
  lt : ∀ r c, W.η.get r = some c → r < W.η.nx
  cell : ∀ r c, W.η.get r = some c → RelC K N W (W.μ r) c
  inj : ∀ r s c d, W.η.get r = some c → W.η.get s = some d → W.μ r = W.μ s → r = s
  tab : Tabs N.tabs W.H

/-- no table of code objects -/
def noT (o : HO) : Prop := ∀ ps, o ≠ .tbl ps
/-- nothing stands there, or a table -/
def NoC (H : Hp) (a : Addr) : Prop := ∀ o, H a = some o → ¬ noT o
theorem NoC.of {H : Hp} {a : Addr} (h : H a = none) : NoC H a := fun o e => by rw [h] at e; cases e

/-- what a step may do -/
structure Ext (W W' : Wl) : Prop where
  nx : W.η.nx ≤ W'.η.nx
  mu : ∀ r, r < W.η.nx → W'.μ r = W.μ r
  fr : ∀ a o, W.H a = some o → noT o → (∀ r c, W.η.get r = some c → c.mut = true → W.μ r ≠ a) → W'.H a = some o
  th : ∀ a o, W.H a = some o → noT o → ∃ o', W'.H a = some o' ∧ noT o'
  cs : ∀ r c, W'.η.get r = some c → (∃ c0, W.η.get r = some c0 ∧ (c.mut = true → c0.mut = true)) ∨ (W.η.nx ≤ r ∧ NoC W.H (W'.μ r))

theorem Ext.refl (W : Wl) : Ext W W := ⟨Nat.le_refl _, fun _ _ => rfl, fun _ _ h _ _ => h, fun _ o h t => ⟨o, h, t⟩, fun _ c h => .inl ⟨c, h, id⟩⟩
section
variable {K : PySem.W.Frag} {N : Names} {W W1 W2 W' : Wl}
theorem Ext.trans (o : W.Ok K N) (o1 : W1.Ok K N) (a : Ext W W1) (b : Ext W1 W2) : Ext W W2 where
  nx := Nat.le_trans a.nx b.nx
  mu := fun r h => (b.mu r (Nat.lt_of_lt_of_le h a.nx)).trans (a.mu r h)
  fr := fun x ob h ht hn => by
    refine b.fr x ob (a.fr x ob h ht hn) ht fun r c e m => ?_
    rcases a.cs r c e with ⟨c0, e0, m0⟩ | ⟨_, f⟩
    · rw [a.mu r (o.lt r c0 e0)]; exact hn r c0 e0 (m0 m)
    · intro z; exact f ob (by rw [z]; exact h) ht
  th := fun x ob h ht => by obtain ⟨o', h', t'⟩ := a.th x ob h ht; exact b.th x o' h' t'
  cs := fun r c e => by
    rcases b.cs r c e with ⟨c1, e1, m1⟩ | ⟨h1, f⟩
    · rcases a.cs r c1 e1 with ⟨c0, e0, m0⟩ | ⟨h2, f⟩
      · exact .inl ⟨c0, e0, fun m => m0 (m1 m)⟩
      · exact .inr ⟨h2, by rw [b.mu r (o1.lt r c1 e1)]; exact f⟩
    · refine .inr ⟨Nat.le_trans a.nx h1, fun ob q t => ?_⟩
      obtain ⟨o', h', t'⟩ := a.th _ _ q t
      exact f o' h' t'
/-- no cell stands where a tuple, a locked thing stands -/
theorem Wl.Ok.nocell (o : W.Ok K N) {a : Addr} {u : HO} (h : W.H a = some u) (hu : (∃ xs, u = .tup xs) ∨ (∃ ob v, u = .frz ob v) ∨ (∃ x, u = .own x)) : ∀ r c, W.η.get r = some c → c.mut = true → W.μ r ≠ a := by
  intro r c e m z
  have q := o.cell r c e
  rw [z] at q
  cases c with
  | frz _ => cases m
  | ldc _ _ => cases m
  | dcr ks => obtain ⟨vs, q, _⟩ := q; rw [h] at q; cases q; rcases hu with ⟨_, z⟩ | ⟨_, _, z⟩ | ⟨_, z⟩ <;> cases z
  | lst l => obtain ⟨vs, q, _⟩ := q; rw [h] at q; cases q; rcases hu with ⟨_, z⟩ | ⟨_, _, z⟩ | ⟨_, z⟩ <;> cases z
  | dice => obtain ⟨_, _, _, q⟩ := q; rw [h] at q; cases q; rcases hu with ⟨_, z⟩ | ⟨_, _, z⟩ | ⟨_, z⟩ <;> cases z
  | dct t l =>
    cases t
    · obtain ⟨vs, q, _⟩ := q; rw [h] at q; cases q; rcases hu with ⟨_, z⟩ | ⟨_, _, z⟩ | ⟨_, z⟩ <;> cases z
    · obtain ⟨vs, q, _⟩ := q; rw [h] at q; cases q; rcases hu with ⟨_, z⟩ | ⟨_, _, z⟩ | ⟨_, z⟩ <;> cases z
  | ins c fs => obtain ⟨_, _, q, _⟩ := q; rw [h] at q; cases q; rcases hu with ⟨_, z⟩ | ⟨_, _, z⟩ | ⟨_, z⟩ <;> cases z
theorem Ext.sqT (o : W.Ok K N) (x : Ext W W') {a : Addr} {vs : List V} (h : W.H a = some (.tup vs)) : W'.H a = some (.tup vs) :=
  x.fr a _ h (fun _ z => nomatch z) (o.nocell h (.inl ⟨_, rfl⟩))
mutual
theorem RelD.mono (o : W.Ok K N) (x : Ext W W') : ∀ {d : D} {v : V}, RelD W d v → RelD W' d v
  | .non, v, h => by rw [RelD] at *; exact h
  | .bl b, v, h => by rw [RelD] at *; exact h
  | .int i, v, h => by rw [RelD] at *; exact h
  | .str s, v, h => by rw [RelD] at *; exact h
  | .ref r, v, h => by rw [RelD] at *; exact ⟨Nat.lt_of_lt_of_le h.1 x.nx, by rw [x.mu r h.1]; exact h.2⟩
  | .tup ds, v, h => by
    rw [RelD] at *
    obtain ⟨a, vs, e, h1, h2⟩ := h
    exact ⟨a, vs, e, x.sqT o h1, RelDs.mono o x h2⟩
  | .ftup ds, v, h => by
    rw [RelD] at *
    obtain ⟨a, vs, ob, e, h1, h3, h2⟩ := h
    exact ⟨a, vs, ob, e, x.fr a _ h1 (fun _ z => nomatch z) (o.nocell h1 (.inr (.inl ⟨_, _, rfl⟩))), h3, RelDs.mono o x h2⟩
theorem RelDs.mono (o : W.Ok K N) (x : Ext W W') : ∀ {ds : List D} {vs : List V}, RelDs W ds vs → RelDs W' ds vs
  | [], vs, h => by rw [RelDs] at *; exact h
  | d :: ds, vs, h => by
    rw [RelDs] at *
    obtain ⟨v, vs', e, h1, h2⟩ := h
    exact ⟨v, vs', e, RelD.mono o x h1, RelDs.mono o x h2⟩
end
theorem RelFs.mono (o : W.Ok K N) (x : Ext W W') : ∀ {fs : List (Nat × D)} {gs : List (Str × V)}, RelFs W N fs gs → RelFs W' N fs gs
  | [], vs, h => by rw [RelFs] at *; exact h
  | (k, d) :: ds, vs, h => by
    rw [RelFs] at *
    obtain ⟨v, vs', e, h1, h2⟩ := h
    exact ⟨v, vs', e, RelD.mono o x h1, RelFs.mono o x h2⟩
theorem RelK.mono (o : W.Ok K N) (x : Ext W W') : ∀ {fs : List (D × D)} {gs : List (Key × V)}, RelK W fs gs → RelK W' fs gs
  | [], vs, h => by rw [RelK] at *; exact h
  | (k, d) :: ds, vs, h => by
    rw [RelK] at *
    obtain ⟨k', v, vs', e, h0, h1, h2⟩ := h
    exact ⟨k', v, vs', e, h0, RelD.mono o x h1, RelK.mono o x h2⟩
theorem RelT.mono (o : W.Ok K N) (x : Ext W W') : ∀ {fs : List (D × D)} {gs : List (List Key × V)}, RelT W fs gs → RelT W' fs gs
  | [], vs, h => by rw [RelT] at *; exact h
  | (k, d) :: ds, vs, h => by
    rw [RelT] at *
    obtain ⟨k', v, vs', e, h0, h1, h2⟩ := h
    exact ⟨k', v, vs', e, h0, RelD.mono o x h1, RelT.mono o x h2⟩
theorem TupA.mono (o : W.Ok K N) (x : Ext W W') {a : Addr} {vs : List V} (h : TupA W.H a vs) : TupA W'.H a vs :=
  h.imp (x.sqT o) fun ⟨ob, h⟩ => ⟨ob, x.fr a _ h (fun _ z => nomatch z) (o.nocell h (.inr (.inl ⟨_, _, rfl⟩)))⟩
theorem RowsV.mono (o : W.Ok K N) (x : Ext W W') : ∀ {k : RK} {vs : List V}, RowsV W.H k vs → RowsV W'.H k vs
  | [], vs, h => by rw [RowsV] at *; exact h
  | k :: ks, vs, h => by
    rw [RowsV] at *
    obtain ⟨c, vs', e, h1, h2⟩ := h
    exact ⟨c, vs', e, h1.mono o x, RowsV.mono o x h2⟩
theorem RowsA.mono (o : W.Ok K N) (x : Ext W W') {a : Addr} {k : RK} (h : RowsA W.H a k) : RowsA W'.H a k := by
  obtain ⟨vs, h1, h2⟩ := h
  exact ⟨vs, h1.mono o x, h2.mono o x⟩
/-- a cell's relation where its address is as it was -/
theorem RelC.mono (o : W.Ok K N) (x : Ext W W') {a : Addr} {c : Cell} (h : RelC K N W a c) (e : ∀ ob, noT ob → W.H a = some ob → W'.H a = some ob) : RelC K N W' a c := by
  cases c with
  | lst l => obtain ⟨vs, h1, h2, h3⟩ := h; exact ⟨vs, e _ (fun _ z => nomatch z) h1, h2.mono o x, h3⟩
  | frz l => obtain ⟨vs, h1, h2, h3⟩ := h; exact ⟨vs, e _ (fun _ z => nomatch z) h1, h2.mono o x, h3⟩
  | dice => obtain ⟨p, q, r, h⟩ := h; exact ⟨p, q, r, e _ (fun _ z => nomatch z) h⟩
  | dct t l =>
    cases t
    · obtain ⟨vs, h1, h2, h3⟩ := h; exact ⟨vs, e _ (fun _ z => nomatch z) h1, h2.mono o x, h3⟩
    · obtain ⟨vs, h1, h2, h3⟩ := h; exact ⟨vs, e _ (fun _ z => nomatch z) h1, h2.mono o x, h3⟩
  | ldc t l =>
    cases t
    · obtain ⟨vs, ob, h1, h2, h3⟩ := h; exact ⟨vs, ob, e _ (fun _ z => nomatch z) h1, h2.mono o x, h3⟩
    · obtain ⟨vs, ob, h1, h2, h3⟩ := h; exact ⟨vs, ob, e _ (fun _ z => nomatch z) h1, h2.mono o x, h3⟩
  | dcr ks => obtain ⟨xs, h1, h2, h3, h4⟩ := h; exact ⟨xs, e _ (fun _ z => nomatch z) h1, h2, fun y hy => (h3 y hy).mono o x, h4⟩
  | ins c l => obtain ⟨dx, vs, h1, h2, h3⟩ := h; exact ⟨dx, vs, e _ (fun _ z => nomatch z) h1, h2.mono o x, h3⟩

/-- a cell's address is tracked -/
theorem Wl.Ok.there (o : W.Ok K N) {r : Nat} {c : Cell} (h : W.η.get r = some c) : ∃ ob, W.H (W.μ r) = some ob ∧ noT ob := by
  have q := o.cell r c h
  cases c with
  | frz l => obtain ⟨vs, q, _⟩ := q; exact ⟨_, q, fun _ z => nomatch z⟩
  | lst l => obtain ⟨vs, q, _⟩ := q; exact ⟨_, q, fun _ z => nomatch z⟩
  | dice => obtain ⟨_, _, _, q⟩ := q; exact ⟨_, q, fun _ z => nomatch z⟩
  | dct t l =>
    cases t
    · obtain ⟨vs, q, _⟩ := q; exact ⟨_, q, fun _ z => nomatch z⟩
    · obtain ⟨vs, q, _⟩ := q; exact ⟨_, q, fun _ z => nomatch z⟩
  | ldc t l =>
    cases t
    · obtain ⟨vs, ob, q, _⟩ := q; exact ⟨_, q, fun _ z => nomatch z⟩
    · obtain ⟨vs, ob, q, _⟩ := q; exact ⟨_, q, fun _ z => nomatch z⟩
  | dcr ks => obtain ⟨xs, q, _⟩ := q; exact ⟨_, q, fun _ z => nomatch z⟩
  | ins c fs => obtain ⟨_, _, q, _⟩ := q; exact ⟨_, q, fun _ z => nomatch z⟩
theorem Wl.Ok.noTab (o : W.Ok K N) {r : Nat} {c : Cell} {u : HO} (h : W.η.get r = some c) (hu : W.H (W.μ r) = some u) (z : (∃ ps, u = .tbl ps) ∨ (∃ c q, u = LamX.CodeO c q)) : False := by
  have q := o.cell r c h
  cases c with
  | frz l => obtain ⟨vs, q, _⟩ := q; rw [hu] at q; cases q; rcases z with ⟨_, z⟩ | ⟨_, _, z⟩ <;> cases z
  | lst l => obtain ⟨vs, q, _⟩ := q; rw [hu] at q; cases q; rcases z with ⟨_, z⟩ | ⟨_, _, z⟩ <;> cases z
  | dice => obtain ⟨_, _, _, q⟩ := q; rw [hu] at q; cases q; rcases z with ⟨_, z⟩ | ⟨_, _, z⟩ <;> cases z
  | dct t l =>
    cases t
    · obtain ⟨vs, q, _⟩ := q; rw [hu] at q; cases q; rcases z with ⟨_, z⟩ | ⟨_, _, z⟩ <;> cases z
    · obtain ⟨vs, q, _⟩ := q; rw [hu] at q; cases q; rcases z with ⟨_, z⟩ | ⟨_, _, z⟩ <;> cases z
  | ldc t l =>
    cases t
    · obtain ⟨vs, ob, q, _⟩ := q; rw [hu] at q; cases q; rcases z with ⟨_, z⟩ | ⟨_, _, z⟩ <;> cases z
    · obtain ⟨vs, ob, q, _⟩ := q; rw [hu] at q; cases q; rcases z with ⟨_, z⟩ | ⟨_, _, z⟩ <;> cases z
  | dcr ks => obtain ⟨xs, q, _⟩ := q; rw [hu] at q; cases q; rcases z with ⟨_, z⟩ | ⟨_, _, z⟩; · cases z
              · exact dObj_code z
  | ins c fs => obtain ⟨_, _, q, _⟩ := q; rw [hu] at q; cases q; rcases z with ⟨_, z⟩ | ⟨_, _, z⟩ <;> cases z
/-- another cell does not stand there -/
theorem Wl.Ok.apart (o : W.Ok K N) {r q : Nat} {c d : Cell} (h : W.η.get r = some c) (h2 : W.η.get q = some d) (ne : q ≠ r) : W.μ q ≠ W.μ r := fun z => ne (o.inj q r d c h2 h z)
theorem tabs_keep {T : Tbl} {H H' : Hp} (t : Tabs T H) (k : ∀ b o, H b = some o → (∃ ps, o = .tbl ps) ∨ (∃ c q, o = LamX.CodeO c q) → H' b = some o) : Tabs T H' := fun e he => by
  obtain ⟨ps, h1, h2, h3⟩ := t e he
  refine ⟨ps, k _ _ h1 (.inl ⟨ps, rfl⟩), h2, fun at_ hl cv hc => ?_⟩
  obtain ⟨c, e1, e2⟩ := h3 at_ hl cv hc
  exact ⟨c, e1, k _ _ e2 (.inr ⟨_, _, rfl⟩)⟩
/-! ### the steps of worlds -/
/-- something new that is no cell -/
def Wl.lay (W : Wl) (p : Addr) (o : HO) : Wl := ⟨W.μ, W.η, upd W.H p o⟩
theorem Wl.Ok.lay (o : W.Ok K N) {p : Addr} {ob : HO} (hp : W.H p = none) : Ext W (W.lay p ob) ∧ (W.lay p ob).Ok K N := by
  have up : ∀ a x, W.H a = some x → (W.lay p ob).H a = some x := fun a x e => by
    show upd W.H p ob a = some x
    rw [upd_ne (ne_of_none e hp)]; exact e
  have x : Ext W (W.lay p ob) := ⟨Nat.le_refl _, fun _ _ => rfl, fun a u h _ _ => up a u h, fun a u h t => ⟨u, up a u h, t⟩, fun r c h => .inl ⟨c, h, id⟩⟩
  exact ⟨x, o.lt, fun r c e => (o.cell r c e).mono o x (fun ob _ => up _ ob), o.inj, tabs_keep o.tab fun b u h _ => up b u h⟩
/-- a new cell -/
def Wl.new (W : Wl) (p : Addr) (c : Cell) (o : HO) : Wl := ⟨fun r => if r = W.η.nx then p else W.μ r, W.η.new c, upd W.H p o⟩
theorem Wl.Ok.new (o : W.Ok K N) {p : Addr} {c : Cell} {ob : HO} (hp : W.H p = none) (hc : RelC K N (W.new p c ob) p c) : Ext W (W.new p c ob) ∧ (W.new p c ob).Ok K N := by
  have up : ∀ a x, W.H a = some x → (W.new p c ob).H a = some x := fun a x e => by
    show upd W.H p ob a = some x
    rw [upd_ne (ne_of_none e hp)]; exact e
  have mu : ∀ r, r < W.η.nx → (W.new p c ob).μ r = W.μ r := fun r h => by
    show (if r = W.η.nx then p else W.μ r) = W.μ r
    rw [if_neg (Nat.ne_of_lt h)]
  have gn : ∀ r, (W.new p c ob).η.get r = if r = W.η.nx then some c else W.η.get r := fun r => Hd.get_new _ _ _
  have x : Ext W (W.new p c ob) := by
    refine ⟨Nat.le_succ _, mu, fun a u h _ _ => up a u h, fun a u h t => ⟨u, up a u h, t⟩, fun r d h => ?_⟩
    rw [gn] at h
    by_cases e : r = W.η.nx
    · refine .inr ⟨Nat.le_of_eq e.symm, ?_⟩
      show NoC W.H (if r = W.η.nx then p else W.μ r)
      rw [if_pos e]; exact NoC.of hp
    · rw [if_neg e] at h
      exact .inl ⟨d, h, id⟩
  have pn : ∀ r d, W.η.get r = some d → W.μ r ≠ p := fun r d e => by
    obtain ⟨ob, q, _⟩ := o.there e
    exact ne_of_none q hp
  have mn : (W.new p c ob).μ W.η.nx = p := by
    show (if W.η.nx = W.η.nx then p else W.μ W.η.nx) = p
    rw [if_pos rfl]
  refine ⟨x, fun r d e => ?_, fun r d e => ?_, fun r s c1 d h1 h2 e => ?_, tabs_keep o.tab fun b u h _ => up b u h⟩
  · rw [gn] at e
    show r < Nat.succ W.η.nx
    by_cases h : r = W.η.nx
    · omega
    · rw [if_neg h] at e
      have := o.lt r d e; omega
  · rw [gn] at e
    by_cases h : r = W.η.nx
    · rw [if_pos h] at e; cases e
      rw [h, mn]; exact hc
    · rw [if_neg h] at e
      rw [mu r (o.lt r d e)]
      exact (o.cell r d e).mono o x (fun ob _ => up _ ob)
  · rw [gn] at h1 h2
    by_cases hr : r = W.η.nx
    · by_cases hs : s = W.η.nx
      · exact hr.trans hs.symm
      · rw [if_neg hs] at h2
        rw [hr, mn, mu s (o.lt s d h2)] at e
        exact absurd e.symm (pn s d h2)
    · rw [if_neg hr] at h1
      by_cases hs : s = W.η.nx
      · rw [hs, mn, mu r (o.lt r c1 h1)] at e
        exact absurd e (pn r c1 h1)
      · rw [if_neg hs] at h2
        rw [mu r (o.lt r c1 h1), mu s (o.lt s d h2)] at e
        exact o.inj r s c1 d h1 h2 e
theorem Wl.new_mu (W : Wl) (p : Addr) (c : Cell) (o : HO) : (W.new p c o).μ W.η.nx = p := by
  show (if W.η.nx = W.η.nx then p else W.μ W.η.nx) = p
  rw [if_pos rfl]
theorem Wl.new_ref (W : Wl) (p : Addr) (c : Cell) (o : HO) : RelD (W.new p c o) (.ref W.η.nx) (.ref p) := by
  rw [RelD]; exact ⟨Nat.lt_succ_self _, by rw [Wl.new_mu]⟩
/-- a cell changed -/
def Wl.put (W : Wl) (r : Nat) (c : Cell) (o : HO) : Wl := ⟨W.μ, W.η.set r c, upd W.H (W.μ r) o⟩
theorem Wl.Ok.put (o : W.Ok K N) {r : Nat} {c0 c : Cell} {ob : HO} (h0 : W.η.get r = some c0) (m0 : c0.mut = true) (hc : Ext W (W.put r c ob) → RelC K N (W.put r c ob) (W.μ r) c) (ht : noT ob := by intro _ z; cases z) : Ext W (W.put r c ob) ∧ (W.put r c ob).Ok K N := by
  have ne : ∀ a, a ≠ W.μ r → (W.put r c ob).H a = W.H a := fun a h => upd_ne h
  have gs : ∀ q, (W.put r c ob).η.get q = if q = r then some c else W.η.get q := fun q => by
    have := Hd.get_set W.η r c q
    rw [h0] at this
    exact this
  have x : Ext W (W.put r c ob) := by
    refine ⟨Nat.le_refl _, fun _ _ => rfl, fun a u h _ hn => ?_, fun a u h t => ?_, fun q d h => ?_⟩
    · rw [ne a (Ne.symm (hn r c0 h0 m0))]; exact h
    · by_cases z : a = W.μ r
      · exact ⟨ob, by rw [z]; exact upd_same, ht⟩
      · exact ⟨u, by rw [ne a z]; exact h, t⟩
    · rw [gs] at h
      by_cases z : q = r
      · rw [z]; exact .inl ⟨c0, h0, fun _ => m0⟩
      · rw [if_neg z] at h; exact .inl ⟨d, h, id⟩
  have hc := hc x
  refine ⟨x, fun q d e => ?_, fun q d e => ?_, fun q s c1 d h1 h2 e => ?_, tabs_keep o.tab fun b u h hu => ?_⟩
  · rw [gs] at e
    by_cases z : q = r
    · rw [z]; exact o.lt r c0 h0
    · rw [if_neg z] at e; exact o.lt q d e
  · rw [gs] at e
    by_cases z : q = r
    · rw [if_pos z] at e; cases e; rw [z]; exact hc
    · rw [if_neg z] at e
      exact (o.cell q d e).mono o x (fun ob' _ h' => by rw [ne _ (o.apart h0 e z)]; exact h')
  · rw [gs] at h1 h2
    have e' : W.μ q = W.μ s := e
    by_cases zq : q = r
    · by_cases zs : s = r
      · exact zq.trans zs.symm
      · rw [if_neg zs] at h2
        exact o.inj q s c0 d (by rw [zq]; exact h0) h2 e'
    · rw [if_neg zq] at h1
      by_cases zs : s = r
      · exact o.inj q s c1 c0 h1 (by rw [zs]; exact h0) e'
      · rw [if_neg zs] at h2
        exact o.inj q s c1 d h1 h2 e'
  · rw [ne b (fun z => o.noTab h0 (by rw [← z]; exact h) hu)]; exact h
/-- cells dropped: what is left of a world -/
theorem Ext.drop {η' : Hd} (x : Ext W W') (o' : W'.Ok K N) (nx : η'.nx = W'.η.nx) (sub : ∀ r c, η'.get r = some c → W'.η.get r = some c) : Ext W ⟨W'.μ, η', W'.H⟩ ∧ Wl.Ok K N ⟨W'.μ, η', W'.H⟩ := by
  have y : Ext W' ⟨W'.μ, η', W'.H⟩ := ⟨Nat.le_of_eq nx.symm, fun _ _ => rfl, fun _ _ h _ _ => h, fun a u h t => ⟨u, h, t⟩, fun r c h => .inl ⟨c, sub r c h, id⟩⟩
  refine ⟨⟨by rw [show (Wl.mk W'.μ η' W'.H).η.nx = W'.η.nx from nx]; exact x.nx, x.mu, x.fr, x.th, fun r c h => x.cs r c (sub r c h)⟩, fun r c h => ?_, fun r c h => ?_, fun r s c d h1 h2 e => ?_, o'.tab⟩
  · have := o'.lt r c (sub r c h); show r < η'.nx; omega
  · exact (o'.cell r c (sub r c h)).mono o' y (fun _ _ h => h)
  · exact o'.inj r s c d (sub r c h1) (sub s d h2) e
end

end DL

/-! judgements: a piece of syntax and what it computes over values as trees -/
namespace DL
open PySem PySem.Spec L2

/-- an exception: its class, its one field -/
structure Xc where
  c : Nat
  p : Option D
abbrev SD := List (Option D)
abbrev KV := D → Hd → Bool
abbrev KX := Xc → Hd → Bool
abbrev CE := SD → Hd → KV → KX → Bool
abbrev CT := SD → Hd → (Bool → Hd → Bool) → KX → Bool
abbrev CA := SD → Hd → (List D → Hd → Bool) → KX → Bool
structure KS where
  nx : SD → Hd → Bool
  rt : KV
  bk : SD → Hd → Bool
  ct : SD → Hd → Bool
  xc : KX
abbrev CS := SD → Hd → KS → Bool

structure Nm extends Names where
  xf : Nat → Str

def RelX (N : Nm) (W : Wl) (x : Xc) (cls : Value) (dd : Option Addr) : Prop :=
  cls = .ref (N.cls x.c) ∧ match x.p with
  | none => dd = none
  | some d => ∃ a v, dd = some a ∧ W.H a = some (.xd [(N.xf x.c, v)]) ∧ RelD W d v
structure RelS (W : Wl) (σd : SD) (σ : St) : Prop where
  len : σd.length = σ.length
  get : ∀ (i : Nat) (d : D), σd[i]? = some (some d) → ∃ v, σ[i]? = some (some v) ∧ RelD W d v
theorem RelS.mono {K : PySem.W.Frag} {N : Names} {W W' : Wl} {σd : SD} {σ : St} (o : W.Ok K N) (x : Ext W W') (h : RelS W σd σ) : RelS W' σd σ :=
  ⟨h.len, fun i d e => by obtain ⟨v, e', r⟩ := h.get i d e; exact ⟨v, e', r.mono o x⟩⟩
theorem RelS.set {W : Wl} {σd : SD} {σ : St} {d : D} {v : V} (h : RelS W σd σ) (i : Nat) (r : RelD W d v) : RelS W (σd.set i (some d)) (σ.set i (some v)) := by
  refine ⟨by simpa using h.len, fun j e q => ?_⟩
  by_cases z : i = j
  · subst z
    by_cases hi : i < σd.length
    · rw [List.getElem?_set_self hi] at q; cases q
      exact ⟨v, List.getElem?_set_self (by rw [← h.len]; exact hi), r⟩
    · rw [List.getElem?_eq_none (by simpa using Nat.le_of_not_lt hi)] at q; cases q
  · rw [List.getElem?_set_ne z] at q
    obtain ⟨v', e', r'⟩ := h.get j e q
    exact ⟨v', by rw [List.getElem?_set_ne z]; exact e', r'⟩
/-- the frame of values forgotten at a slot -/
theorem RelS.none_at {W : Wl} {σd : SD} {σ : St} (h : RelS W σd σ) (i : Nat) (x : Option V) : RelS W (σd.set i none) (σ.set i x) := by
  refine ⟨by simpa using h.len, fun j e q => ?_⟩
  by_cases z : i = j
  · subst z
    by_cases hi : i < σd.length
    · rw [List.getElem?_set_self hi] at q; cases q
    · rw [List.getElem?_eq_none (by simpa using Nat.le_of_not_lt hi)] at q; cases q
  · rw [List.getElem?_set_ne z] at q
    obtain ⟨v', e', r'⟩ := h.get j e q
    exact ⟨v', by rw [List.getElem?_set_ne z]; exact e', r'⟩

section
variable (K : PySem.W.Frag) (N : Nm) (E : XK)
/-- what is wanted behind: of a value, of an exception -/
def Vk (W : Wl) (kv : KV) (Q : VK) : Prop := ∀ W' d v, Ext W W' → W'.Ok K N.toNames → RelD W' d v → kv d W'.η = true → Q v W'.H
def Xk (W : Wl) (kx : KX) : Prop := ∀ W' x cls dd, Ext W W' → W'.Ok K N.toNames → RelX N W' x cls dd → kx x W'.η = true → E cls dd W'.H
def tE (c : CE) : TE := fun σ H Q => ∃ W σd kv kx, W.H = H ∧ W.Ok K N.toNames ∧ RelS W σd σ ∧ c σd W.η kv kx = true ∧ Vk K N W kv Q ∧ Xk K N E W kx
def tT (c : CT) : TT := fun σ H Q => ∃ W σd kv kx, W.H = H ∧ W.Ok K N.toNames ∧ RelS W σd σ ∧ c σd W.η kv kx = true ∧ (∀ W' b, Ext W W' → W'.Ok K N.toNames → kv b W'.η = true → Q b W'.H) ∧ Xk K N E W kx
def tAr (c : CA) : TA := fun σ H Q => ∃ W σd kv kx, W.H = H ∧ W.Ok K N.toNames ∧ RelS W σd σ ∧ c σd W.η kv kx = true ∧ (∀ W' ds vs, Ext W W' → W'.Ok K N.toNames → RelDs W' ds vs → kv ds W'.η = true → Q vs W'.H) ∧ Xk K N E W kx
/-- what is wanted behind a statement -/
structure Sk (W : Wl) (k : KS) (Z : Ends) : Prop where
  nx : ∀ W' σd σ, Ext W W' → W'.Ok K N.toNames → RelS W' σd σ → k.nx σd W'.η = true → Z.nx σ W'.H
  rt : Vk K N W k.rt Z.rt
  bk : ∀ W' σd σ, Ext W W' → W'.Ok K N.toNames → RelS W' σd σ → k.bk σd W'.η = true → Z.bk σ W'.H
  ct : ∀ W' σd σ, Ext W W' → W'.Ok K N.toNames → RelS W' σd σ → k.ct σd W'.η = true → Z.ct σ W'.H
  xc : Xk K N E W k.xc
def tS (c : CS) : TS := fun Z σ H => ∃ W σd k, W.H = H ∧ W.Ok K N.toNames ∧ RelS W σd σ ∧ c σd W.η k = true ∧ Sk K N E W k Z
end
def JE (X : Cx) (N : Nm) (E : XK) (e : Expr) (c : CE) : Prop := PE X e (tE X.K N E c)
def JT (X : Cx) (N : Nm) (E : XK) (e : Expr) (c : CT) : Prop := PT X e (tT X.K N E c)
def JA (X : Cx) (N : Nm) (E : XK) (es : List Expr) (c : CA) : Prop := PA X es (tAr X.K N E c)
def JS (X : Cx) (N : Nm) (E : XK) (st : Stmt) (c : CS) : Prop := PS X st (tS X.K N E c)
def JB (X : Cx) (N : Nm) (E : XK) (st : List Stmt) (c : CS) : Prop := PSs X st (tS X.K N E c)

theorem PE.imp {X : Cx} {e : Expr} {t t' : TE} (h : PE X e t) (f : ∀ σ H Q, t' σ H Q → t σ H Q) : PE X e t' := ⟨fun pins s σ H Q I q => h.run pins s σ H Q I (f σ H Q q)⟩
theorem PT.imp {X : Cx} {e : Expr} {t t' : TT} (h : PT X e t) (f : ∀ σ H Q, t' σ H Q → t σ H Q) : PT X e t' := ⟨fun pins s σ H Q I q => h.run pins s σ H Q I (f σ H Q q)⟩
theorem PW.imp {X : Cx} {e : Expr} {t t' : TT} (h : PW X e t) (f : ∀ σ H Q, t' σ H Q → t σ H Q) : PW X e t' := ⟨fun wh pins s σ H Q I q => h.run wh pins s σ H Q I (f σ H Q q)⟩
theorem PA.imp {X : Cx} {e : List Expr} {t t' : TA} (h : PA X e t) (f : ∀ σ H Q, t' σ H Q → t σ H Q) : PA X e t' := ⟨fun pos pins s σ H Q I q => h.run pos pins s σ H Q I (f σ H Q q)⟩
theorem PS.imp {X : Cx} {e : Stmt} {t t' : TS} (h : PS X e t) (f : ∀ D σ H, t' D σ H → t D σ H) : PS X e t' := ⟨fun pins s σ H D I q => h.run pins s σ H D I (f D σ H q)⟩
theorem PSs.imp {X : Cx} {e : List Stmt} {t t' : TS} (h : PSs X e t) (f : ∀ D σ H, t' D σ H → t D σ H) : PSs X e t' := ⟨fun pins s σ H D I q => h.run pins s σ H D I (f D σ H q)⟩

section
variable {K : PySem.W.Frag} {N : Nm} {E : XK} {W W' : Wl} {kv : KV} {kx : KX} {Q : VK}
theorem Vk.mono (o : W.Ok K N.toNames) (o' : W'.Ok K N.toNames) (x : Ext W W') (h : Vk K N W kv Q) : Vk K N W' kv Q := fun W2 d v y => h W2 d v (x.trans o o' y)
theorem Xk.mono (o : W.Ok K N.toNames) (o' : W'.Ok K N.toNames) (x : Ext W W') (h : Xk K N E W kx) : Xk K N E W' kx := fun W2 d v dd y => h W2 d v dd (x.trans o o' y)
theorem Vk.here (o : W.Ok K N.toNames) (h : Vk K N W kv Q) {d : D} {v : V} (r : RelD W d v) (e : kv d W.η = true) : Q v W.H := h W d v (Ext.refl W) o r e
theorem Sk.mono {k : KS} {Z : Ends} (o : W.Ok K N.toNames) (o' : W'.Ok K N.toNames) (x : Ext W W') (h : Sk K N E W k Z) : Sk K N E W' k Z :=
  ⟨fun W2 a b y => h.nx W2 a b (x.trans o o' y), h.rt.mono o o' x, fun W2 a b y => h.bk W2 a b (x.trans o o' y), fun W2 a b y => h.ct W2 a b (x.trans o o' y), h.xc.mono o o' x⟩
/-- a part is read, then the rest -/
theorem tE.bind {c : CE} {σ : St} {σd : SD} {Q' : VK} (o : W.Ok K N.toNames) (s : RelS W σd σ) (hx : Xk K N E W kx) (h : c σd W.η kv kx = true)
    (hq : ∀ W' d v, Ext W W' → W'.Ok K N.toNames → RelD W' d v → RelS W' σd σ → Xk K N E W' kx → kv d W'.η = true → Q' v W'.H) : tE K N E c σ W.H Q' :=
  ⟨W, σd, kv, kx, rfl, o, s, h, fun W' d v x o' r e => hq W' d v x o' r (s.mono o x) (hx.mono o o' x) e, hx⟩
theorem tT.bind {c : CT} {kt : Bool → Hd → Bool} {σ : St} {σd : SD} {Q' : Bool → Hp → Prop} (o : W.Ok K N.toNames) (s : RelS W σd σ) (hx : Xk K N E W kx) (h : c σd W.η kt kx = true)
    (hq : ∀ W' b, Ext W W' → W'.Ok K N.toNames → RelS W' σd σ → Xk K N E W' kx → kt b W'.η = true → Q' b W'.H) : tT K N E c σ W.H Q' :=
  ⟨W, σd, kt, kx, rfl, o, s, h, fun W' b x o' e => hq W' b x o' (s.mono o x) (hx.mono o o' x) e, hx⟩
theorem tAr.bind {c : CA} {kt : List D → Hd → Bool} {σ : St} {σd : SD} {Q' : List V → Hp → Prop} (o : W.Ok K N.toNames) (s : RelS W σd σ) (hx : Xk K N E W kx) (h : c σd W.η kt kx = true)
    (hq : ∀ W' ds vs, Ext W W' → W'.Ok K N.toNames → RelDs W' ds vs → RelS W' σd σ → Xk K N E W' kx → kt ds W'.η = true → Q' vs W'.H) : tAr K N E c σ W.H Q' :=
  ⟨W, σd, kt, kx, rfl, o, s, h, fun W' ds vs x o' r e => hq W' ds vs x o' r (s.mono o x) (hx.mono o o' x) e, hx⟩
end

/-! ### names, constants -/
def cVar (i : Nat) : CE := fun σ η kv _ => match σ[i]? with
  | some (some d) => kv d η
  | _ => false
def cC (d : D) : CE := fun _ η kv _ => kv d η
section
variable {X : Cx} {N : Nm} {E : XK}
theorem je_var {e : Expr} (i : Nat) (h : PE X e (tVar i)) : JE X N E e (cVar i) := PE.imp h fun σ H Q q => by
  obtain ⟨W, σd, kv, kx, rfl, o, s, h, hv, hx⟩ := q
  unfold cVar at h
  cases e : σd[i]? with
  | none => rw [e] at h; cases h
  | some x =>
    cases x with
    | none => rw [e] at h; cases h
    | some d =>
      rw [e] at h
      obtain ⟨v, e', r⟩ := s.get i d e
      exact ⟨v, e', hv.here o r h⟩
theorem je_c {e : Expr} {v : V} {d : D} (h : PE X e (tC v)) (r : ∀ W, RelD W d v) : JE X N E e (cC d) := PE.imp h fun σ H Q q => by
  obtain ⟨W, σd, kv, kx, rfl, o, s, h, hv, hx⟩ := q
  exact hv.here o (r W) h
theorem je_int {i : Int} {j pos} : JE X N E (.Constant (.int i) j pos) (cC (.int i)) := je_c pe_int fun W => by rw [RelD]
theorem je_bl {b : Bool} {j pos} : JE X N E (.Constant (.bool b) j pos) (cC (.bl b)) := je_c pe_bl fun W => by rw [RelD]
theorem je_str {x : Str} {j pos} : JE X N E (.Constant (.str x) j pos) (cC (.str x)) := je_c pe_str fun W => by rw [RelD]

/-! ### operators by values -/
/-- what an operator makes of two values; none: nothing is said -/
abbrev F2 := D → D → Hd → Option (D × Hd)
def r2 (K : PySem.W.Frag) (N : Nm) (f : F2) : R2 := fun x y H Q => ∃ W dx dy d η', W.H = H ∧ W.Ok K N.toNames ∧ RelD W dx x ∧ RelD W dy y ∧ f dx dy W.η = some (d, η') ∧
  (∀ W' v, Ext W W' → W'.Ok K N.toNames → W'.η = η' → RelD W' d v → Q v W'.H)
def cOp (f : F2) (a b : CE) : CE := fun σ η kv kx => a σ η (fun x η1 => b σ η1 (fun y η2 => match f x y η2 with
  | some (d, η3) => kv d η3
  | none => false) kx) kx
theorem tOp_of {f : F2} {ca cb : CE} {K : PySem.W.Frag} {σ : St} {H : Hp} {Q : VK} (h : tE K N E (cOp f ca cb) σ H Q) : tOp (r2 K N f) (tE K N E ca) (tE K N E cb) σ H Q := by
  obtain ⟨W, σd, kv, kx, rfl, o, s, h, hv, hx⟩ := h
  refine tE.bind o s hx h fun W1 dx x x1 o1 r1 s1 hx1 h1 => ?_
  refine tE.bind o1 s1 hx1 h1 fun W2 dy y x2 o2 r2' s2 hx2 h2 => ?_
  cases e : f dx dy W2.η with
  | none => rw [e] at h2; cases h2
  | some p =>
    obtain ⟨d, η'⟩ := p
    rw [e] at h2
    exact ⟨W2, dx, dy, d, η', rfl, o2, r1.mono o1 x2, r2', e, fun W' v x3 o3 e3 r3 => hv W' d v (x1.trans o o1 (x2.trans o1 o2 x3)) o3 r3 (by rw [e3]; exact h2)⟩
theorem je_op {op : Operator} {f : F2} {a b : Expr} {ca cb : CE} {pos : Pos} (ho : OpR X (binaryOp op) (r2 X.K N f)) (ha : JE X N E a ca) (hb : JE X N E b cb) : JE X N E (.BinOp a op b pos) (cOp f ca cb) :=
  PE.imp (pe_op ho ha hb) fun σ H Q q => tOp_of q
theorem je_cmp {op : CmpOp} {f : F2} {a b : Expr} {ca cb : CE} {pos : Pos} (ho : OpR X (compareOp op) (r2 X.K N f)) (ha : JE X N E a ca) (hb : JE X N E b cb) (hm : behindInMarks op b = false) : JE X N E (.Compare a [op] [b] pos) (cOp f ca cb) :=
  PE.imp (pe_cmpR ho ha hb hm) fun σ H Q q => tOp_of q
end
end DL

/-! operators -/
namespace DL
open PySem PySem.Spec L2
section
variable {X : Cx} {N : Nm} {E : XK}
theorem OpR.imp {f : Value → Value → Sem Value} {r r' : R2} (h : OpR X f r) (i : ∀ x y H Q, r' x y H Q → r x y H Q) : OpR X f r' :=
  fun pins s σ H x y v u Q I rx ry q => h pins s σ H x y v u Q I rx ry (i x y H Q q)
/-- the world is as it was -/
theorem same_w {K : PySem.W.Frag} {W : Wl} {Q : VK} {d : D} {v : V} (o : W.Ok K N.toNames) (q : ∀ W' v, Ext W W' → W'.Ok K N.toNames → W'.η = W.η → RelD W' d v → Q v W'.H) (r : RelD W d v) : Q v W.H := q W v (Ext.refl W) o rfl r

def line : Nat := 16777216
/-! ints -/
def fI2 (g : Int → Int → Int) : F2 := fun x y η => match x, y with
  | .int i, .int j => some (.int (g i j), η)
  | _, _ => none
def fI2c (c : Int → Int → Bool) (g : Int → Int → Int) : F2 := fun x y η => match x, y with
  | .int i, .int j => match c i j with
    | true => some (.int (g i j), η)
    | false => none
  | _, _ => none
def fB2 (g : Int → Int → Bool) : F2 := fun x y η => match x, y with
  | .int i, .int j => some (.bl (g i j), η)
  | _, _ => none
theorem relInt {W : Wl} {i : Int} {v : V} (h : RelD W (.int i) v) : v = .int i := by rw [RelD] at h; exact h
theorem relStr {W : Wl} {i : Str} {v : V} (h : RelD W (.str i) v) : v = .str i := by rw [RelD] at h; exact h
theorem relBl {W : Wl} {i : Bool} {v : V} (h : RelD W (.bl i) v) : v = .bl i := by rw [RelD] at h; exact h
theorem relRef {W : Wl} {r : Nat} {v : V} (h : RelD W (.ref r) v) : v = .ref (W.μ r) := by rw [RelD] at h; exact h.2
theorem mkInt {W : Wl} {i : Int} : RelD W (.int i) (.int i) := by rw [RelD]
theorem mkBl {W : Wl} {i : Bool} : RelD W (.bl i) (.bl i) := by rw [RelD]
theorem mkStr' {W : Wl} {i : Str} : RelD W (.str i) (.str i) := by rw [RelD]
theorem mkNon {W : Wl} : RelD W .non .non := by rw [RelD]
theorem fI2_inv {g : Int → Int → Int} {x y d : D} {η η' : Hd} (h : fI2 g x y η = some (d, η')) : ∃ i j, x = .int i ∧ y = .int j ∧ d = .int (g i j) ∧ η' = η := by
  cases x with
  | int i =>
    cases y with
    | int j => simp only [fI2, Option.some.injEq, Prod.mk.injEq] at h; exact ⟨i, j, rfl, rfl, h.1.symm, h.2.symm⟩
    | _ => cases h
  | _ => cases h
theorem fB2_inv {g : Int → Int → Bool} {x y d : D} {η η' : Hd} (h : fB2 g x y η = some (d, η')) : ∃ i j, x = .int i ∧ y = .int j ∧ d = .bl (g i j) ∧ η' = η := by
  cases x with
  | int i =>
    cases y with
    | int j => simp only [fB2, Option.some.injEq, Prod.mk.injEq] at h; exact ⟨i, j, rfl, rfl, h.1.symm, h.2.symm⟩
    | _ => cases h
  | _ => cases h
theorem fI2c_inv {c : Int → Int → Bool} {g : Int → Int → Int} {x y d : D} {η η' : Hd} (h : fI2c c g x y η = some (d, η')) : ∃ i j, x = .int i ∧ y = .int j ∧ c i j = true ∧ d = .int (g i j) ∧ η' = η := by
  cases x with
  | int i =>
    cases y with
    | int j =>
      simp only [fI2c] at h
      cases e : c i j with
      | false => rw [e] at h; cases h
      | true => rw [e] at h; simp only [Option.some.injEq, Prod.mk.injEq] at h; exact ⟨i, j, rfl, rfl, e, h.1.symm, h.2.symm⟩
    | _ => cases h
  | _ => cases h
theorem opd_int {f : Value → Value → Sem Value} {g g' : Int → Int → Int} (h : OpR X f (rI0 fun i j => .int (g' i j))) (e : ∀ i j, g' i j = g i j) : OpR X f (r2 X.K N (fI2 g)) := OpR.imp h fun x y H Q q => by
  obtain ⟨W, dx, dy, d, η', rfl, o, rx, ry, hf, hq⟩ := q
  obtain ⟨i, j, rfl, rfl, rfl, rfl⟩ := fI2_inv hf
  rw [relInt rx, relInt ry]
  exact ⟨i, j, rfl, rfl, by show Q (.int (g' i j)) W.H; rw [e]; exact same_w o hq mkInt⟩
theorem opd_intc {f : Value → Value → Sem Value} {C : Int → Int → Prop} {c : Int → Int → Bool} {g g' : Int → Int → Int} (h : OpR X f (rI C fun i j => .int (g' i j))) (hc : ∀ i j, c i j = true → C i j) (e : ∀ i j, g' i j = g i j) : OpR X f (r2 X.K N (fI2c c g)) := OpR.imp h fun x y H Q q => by
  obtain ⟨W, dx, dy, d, η', rfl, o, rx, ry, hf, hq⟩ := q
  obtain ⟨i, j, rfl, rfl, hij, rfl, rfl⟩ := fI2c_inv hf
  rw [relInt rx, relInt ry]
  exact ⟨i, j, rfl, rfl, hc i j hij, by show Q (.int (g' i j)) W.H; rw [e]; exact same_w o hq mkInt⟩
theorem opd_cmp {f : Value → Value → Sem Value} {g g' : Int → Int → Bool} (h : OpR X f (rI0 fun i j => .bl (g' i j))) (e : ∀ i j, g' i j = g i j) : OpR X f (r2 X.K N (fB2 g)) := OpR.imp h fun x y H Q q => by
  obtain ⟨W, dx, dy, d, η', rfl, o, rx, ry, hf, hq⟩ := q
  obtain ⟨i, j, rfl, rfl, rfl, rfl⟩ := fB2_inv hf
  rw [relInt rx, relInt ry]
  exact ⟨i, j, rfl, rfl, by show Q (.bl (g' i j)) W.H; rw [e]; exact same_w o hq mkBl⟩

/-- either of two -/
def fOr (f g : F2) : F2 := fun x y η => match f x y η with
  | some p => some p
  | none => g x y η
theorem opd_or {fv : Value → Value → Sem Value} {f g : F2} (hf : OpR X fv (r2 X.K N f)) (hg : OpR X fv (r2 X.K N g)) : OpR X fv (r2 X.K N (fOr f g)) := OpR.imp (OpR.or hf hg) fun x y H Q q => by
  obtain ⟨W, dx, dy, d, η', rfl, o, rx, ry, h, hq⟩ := q
  unfold fOr at h
  cases e : f dx dy W.η with
  | some p => rw [e] at h; exact .inl ⟨W, dx, dy, d, η', rfl, o, rx, ry, by rw [e]; exact h, hq⟩
  | none => rw [e] at h; exact .inr ⟨W, dx, dy, d, η', rfl, o, rx, ry, h, hq⟩

/-! tuples, lists, texts -/
def fCatT : F2 := fun x y η => match x, y with
  | .tup a, .tup b => match Nat.ble (a.length + b.length) line with
    | true => some (.tup (a ++ b), η)
    | false => none
  | _, _ => none
def fCatL : F2 := fun x y η => match x, y with
  | .ref r, .ref s => match η.get r, η.get s with
    | some (.lst a), some (.lst b) => match Nat.ble (a.length + b.length) line with
      | true => some (.ref η.nx, η.new (.lst (a ++ b)))
      | false => none
    | _, _ => none
  | _, _ => none
def fCatS : F2 := fun x y η => match x, y with
  | .str a, .str b => match Nat.ble (a.length + b.length) line with
    | true => some (.str (a ++ b), η)
    | false => none
  | _, _ => none
def fRepL : F2 := fun x y η => match x, y with
  | .ref r, .int k => match η.get r with
    | some (.lst a) => match Nat.ble k.natAbs 100000, Nat.ble (a.length * k.toNat) line with
      | true, true => some (.ref η.nx, η.new (.lst (List.replicate k.toNat a).flatten))
      | _, _ => none
    | _ => none
  | _, _ => none
theorem relFtup {W : Wl} {ds : List D} {v : V} (h : RelD W (.ftup ds) v) : ∃ a vs o, v = .ref a ∧ W.H a = some (.frz o (.tup vs)) ∧ o.dict = none ∧ RelDs W ds vs := by rw [RelD] at h; exact h
theorem relTup {W : Wl} {ds : List D} {v : V} (h : RelD W (.tup ds) v) : ∃ a vs, v = .ref a ∧ W.H a = some (.tup vs) ∧ RelDs W ds vs := by rw [RelD] at h; exact h
theorem mkTup {W : Wl} {ds : List D} {a : Addr} {vs : List V} (h : W.H a = some (.tup vs)) (r : RelDs W ds vs) : RelD W (.tup ds) (.ref a) := by rw [RelD]; exact ⟨a, vs, rfl, h, r⟩
/-- a new tuple -/
theorem new_tup {K : PySem.W.Frag} {W : Wl} {Q : VK} {ds : List D} {vs : List V} {p : Addr} (o : W.Ok K N.toNames) (q : ∀ W' v, Ext W W' → W'.Ok K N.toNames → W'.η = W.η → RelD W' (.tup ds) v → Q v W'.H) (hp : W.H p = none) (r : RelDs W ds vs) : Q (.ref p) (upd W.H p (.tup vs)) := by
  obtain ⟨x, o'⟩ := o.lay (ob := .tup vs) hp
  exact q (W.lay p (.tup vs)) (.ref p) x o' rfl (mkTup upd_same (r.mono o x))
/-- a new list -/
theorem new_lst {K : PySem.W.Frag} {W : Wl} {Q : VK} {ds : List D} {vs : List V} {p : Addr} (o : W.Ok K N.toNames) (q : ∀ W' v, Ext W W' → W'.Ok K N.toNames → W'.η = W.η.new (.lst ds) → RelD W' (.ref W.η.nx) v → Q v W'.H) (hp : W.H p = none) (r : RelDs W ds vs) (hl : ds.length ≤ sizeLine) : Q (.ref p) (upd W.H p (.lst vs)) := by
  have y : Ext W (W.lay p (.lst vs)) := (o.lay hp).1
  have pre : RelC K N.toNames (W.new p (.lst ds) (.lst vs)) p (.lst ds) := by
    refine ⟨vs, upd_same, ?_, hl⟩
    -- the world before the cell's own relation
    have x : Ext W (W.new p (.lst ds) (.lst vs)) := by
      refine ⟨Nat.le_succ _, fun r h => ?_, fun a u h _ _ => ?_, fun a u h t => ⟨u, ?_, t⟩, fun r d h => ?_⟩
      · show (if r = W.η.nx then p else W.μ r) = W.μ r
        rw [if_neg (Nat.ne_of_lt h)]
      · show upd W.H p _ a = some u
        rw [upd_ne (ne_of_none h hp)]; exact h
      · show upd W.H p _ a = some u
        rw [upd_ne (ne_of_none h hp)]; exact h
      · have h' : (W.η.new (.lst ds)).get r = some d := h
        rw [Hd.get_new] at h'
        by_cases e : r = W.η.nx
        · refine .inr ⟨Nat.le_of_eq e.symm, ?_⟩
          show NoC W.H (if r = W.η.nx then p else W.μ r)
          rw [if_pos e]; exact NoC.of hp
        · rw [if_neg e] at h'
          exact .inl ⟨d, h', id⟩
    exact r.mono o x
  obtain ⟨x, o'⟩ := o.new hp pre
  exact q (W.new p (.lst ds) (.lst vs)) (.ref p) x o' rfl (Wl.new_ref W p _ _)
theorem opd_catT : OpR X (binaryOp .Add) (r2 X.K N fCatT) := OpR.imp op_catA fun x y H Q q => by
  obtain ⟨W, dx, dy, d, η', rfl, o, rx, ry, hf, hq⟩ := q
  cases dx with
  | tup a =>
    cases dy with
    | tup b =>
      simp only [fCatT] at hf
      cases e : Nat.ble (a.length + b.length) line with
      | false => rw [e] at hf; cases hf
      | true =>
        rw [e] at hf
        simp only [Option.some.injEq, Prod.mk.injEq] at hf
        obtain ⟨rfl, rfl⟩ := hf
        obtain ⟨pa, va, rfl, sa, ra⟩ := relTup rx
        obtain ⟨pb, vb, rfl, sb, rb⟩ := relTup ry
        have hl : va.length + vb.length ≤ sizeLine := by
          rw [← ra.length, ← rb.length]; exact Nat.le_of_ble_eq_true e
        refine ⟨pa, pb, va, vb, rfl, rfl, SqT.of sa, SqT.of sb, hl, fun z => ?_, fun _ z => ?_, fun _ _ p hp => new_tup o hq hp (ra.append rb)⟩
        · subst z
          have ea : a = [] := List.eq_nil_of_length_eq_zero (by rw [ra.length]; rfl)
          subst ea
          exact same_w o hq (mkTup sb rb)
        · subst z
          have eb : b = [] := List.eq_nil_of_length_eq_zero (by rw [rb.length]; rfl)
          subst eb
          rw [List.append_nil] at hq
          exact same_w o hq (mkTup sa ra)
    | _ => cases hf
  | _ => cases hf
/-- what is read as a list -/
def Hd.list (η : Hd) (r : Nat) : Option (List D) := match η.get r with
  | some (.lst l) => some l
  | some (.frz l) => some l
  | _ => none
theorem list_of {K : PySem.W.Frag} {W : Wl} {r : Nat} {l : List D} (o : W.Ok K N.toNames) (h : W.η.list r = some l) : ∃ vs, SqL K W.H (W.μ r) vs ∧ RelDs W l vs ∧ l.length ≤ sizeLine := by
  unfold Hd.list at h
  cases e : W.η.get r with
  | none => rw [e] at h; cases h
  | some c =>
    have q := o.cell r c e
    rw [e] at h
    cases c with
    | lst l' => cases h; obtain ⟨vs, h1, h2, h3⟩ := q; exact ⟨vs, .inl (.inl h1), h2, h3⟩
    | frz l' => cases h; obtain ⟨vs, h1, h2, h3⟩ := q; exact ⟨vs, .inl (.inl h1), h2, h3⟩
    | _ => cases h
theorem opd_catL : OpR X (binaryOp .Add) (r2 X.K N fCatL) := OpR.imp op_cat fun x y H Q q => by
  obtain ⟨W, dx, dy, d, η', rfl, o, rx, ry, hf, hq⟩ := q
  cases dx with
  | ref r =>
    cases dy with
    | ref s =>
      simp only [fCatL] at hf
      cases e1 : W.η.get r with
      | none => rw [e1] at hf; cases hf
      | some c1 =>
        cases e2 : W.η.get s with
        | none => rw [e1, e2] at hf; cases c1 <;> cases hf
        | some c2 =>
          rw [e1, e2] at hf
          cases c1 with
          | lst a =>
            cases c2 with
            | lst b =>
              simp only at hf
              cases e : Nat.ble (a.length + b.length) line with
              | false => rw [e] at hf; cases hf
              | true =>
                rw [e] at hf
                simp only [Option.some.injEq, Prod.mk.injEq] at hf
                obtain ⟨rfl, rfl⟩ := hf
                obtain ⟨va, ha, ra, _⟩ := o.cell r _ e1
                obtain ⟨vb, hb, rb, _⟩ := o.cell s _ e2
                have hl : a.length + b.length ≤ sizeLine := Nat.le_of_ble_eq_true e
                rw [relRef rx, relRef ry]
                exact ⟨_, _, va, vb, rfl, rfl, ha, hb, by rw [← ra.length, ← rb.length]; exact hl, fun p hp => new_lst o hq hp (ra.append rb) (by rw [List.length_append]; exact hl)⟩
            | _ => cases hf
          | _ => cases hf
    | _ => cases hf
  | _ => cases hf
theorem opd_catS : OpR X (binaryOp .Add) (r2 X.K N fCatS) := OpR.imp op_add_str fun x y H Q q => by
  obtain ⟨W, dx, dy, d, η', rfl, o, rx, ry, hf, hq⟩ := q
  cases dx with
  | str a =>
    cases dy with
    | str b =>
      simp only [fCatS] at hf
      cases e : Nat.ble (a.length + b.length) line with
      | false => rw [e] at hf; cases hf
      | true =>
        rw [e] at hf
        simp only [Option.some.injEq, Prod.mk.injEq] at hf
        obtain ⟨rfl, rfl⟩ := hf
        rw [relStr rx, relStr ry]
        exact ⟨a, b, rfl, rfl, Nat.le_of_ble_eq_true e, same_w o hq mkStr'⟩
    | _ => cases hf
  | _ => cases hf
theorem RelDs.rep {W : Wl} {ds : List D} {vs : List V} (h : RelDs W ds vs) : ∀ n : Nat, RelDs W (List.replicate n ds).flatten (List.replicate n vs).flatten
  | 0 => .nil
  | n + 1 => by
    rw [List.replicate_succ, List.replicate_succ, List.flatten_cons, List.flatten_cons]
    exact h.append (RelDs.rep h n)
theorem len_rep (a : List D) : ∀ n : Nat, (List.replicate n a).flatten.length = n * a.length
  | 0 => by simp
  | n + 1 => by rw [List.replicate_succ, List.flatten_cons, List.length_append, len_rep a n, Nat.succ_mul, Nat.add_comm]
theorem opd_repL : OpR X (binaryOp .Mult) (r2 X.K N fRepL) := OpR.imp op_rep fun x y H Q q => by
  obtain ⟨W, dx, dy, d, η', rfl, o, rx, ry, hf, hq⟩ := q
  cases dx with
  | ref r =>
    cases dy with
    | int k =>
      simp only [fRepL] at hf
      cases e1 : W.η.get r with
      | none => rw [e1] at hf; cases hf
      | some c1 =>
        rw [e1] at hf
        cases c1 with
        | lst a =>
          simp only at hf
          cases e : Nat.ble k.natAbs 100000 with
          | false => rw [e] at hf; cases hf
          | true =>
            cases e' : Nat.ble (a.length * k.toNat) line with
            | false => rw [e, e'] at hf; cases hf
            | true =>
              rw [e, e'] at hf
              simp only [Option.some.injEq, Prod.mk.injEq] at hf
              obtain ⟨rfl, rfl⟩ := hf
              obtain ⟨va, ha, ra, _⟩ := o.cell r _ e1
              have hk : k.natAbs ≤ 100000 := Nat.le_of_ble_eq_true e
              have hl : a.length * k.toNat ≤ sizeLine := Nat.le_of_ble_eq_true e'
              rw [relRef rx, relInt ry]
              refine ⟨_, k, va, rfl, rfl, ha, by omega, by omega, by rw [← ra.length]; exact hl, fun p hp => new_lst o hq hp (ra.rep _) ?_⟩
              rw [len_rep, Nat.mul_comm]; exact hl
        | _ => cases hf
    | _ => cases hf
  | _ => cases hf

def iadd (i j : Int) : Int := i + j
def fAdd : F2 := fOr (fI2 iadd) (fOr fCatT (fOr fCatL fCatS))
theorem opd_add : OpR X (binaryOp .Add) (r2 X.K N fAdd) := opd_or (opd_int op_add fun _ _ => rfl) (opd_or opd_catT (opd_or opd_catL opd_catS))
def isub (i j : Int) : Int := i - j
def fSub : F2 := fI2 isub
theorem opd_sub : OpR X (binaryOp .Sub) (r2 X.K N fSub) := opd_int op_sub fun _ _ => rfl
def imul (i j : Int) : Int := i * j
def mulOk (i j : Int) : Bool := Nat.ble i.natAbs 1000000000000000000 || Nat.ble j.natAbs 1000000000000000000
theorem mulOk_ok (i j : Int) (h : mulOk i j = true) : CMul i j := by
  unfold mulOk at h
  rcases Bool.or_eq_true_iff.mp h with h | h
  · have := Nat.le_of_ble_eq_true h; exact .inl ⟨by omega, by omega⟩
  · have := Nat.le_of_ble_eq_true h; exact .inr ⟨by omega, by omega⟩
def fMul : F2 := fOr (fI2c mulOk imul) fRepL
theorem opd_mul : OpR X (binaryOp .Mult) (r2 X.K N fMul) := opd_or (opd_intc op_mul mulOk_ok fun _ _ => rfl) opd_repL
def idiv (i j : Int) : Int := i / j
def divOk (i j : Int) : Bool := match j with
  | .ofNat (n + 1) => Nat.ble n 1000000000
  | _ => false
theorem divOk_ok (i j : Int) (h : divOk i j = true) : CDiv i j := by
  unfold divOk at h
  split at h
  · rename_i n
    have := Nat.le_of_ble_eq_true h
    exact ⟨by show (0 : Int) < ((n + 1 : Nat) : Int); omega, by show ((n + 1 : Nat) : Int) < _; omega⟩
  · cases h
def fDiv : F2 := fI2c divOk idiv
theorem opd_div : OpR X (binaryOp .FloorDiv) (r2 X.K N fDiv) := opd_intc op_fdiv divOk_ok fun _ _ => rfl
def imod (i j : Int) : Int := i % j
def modOk (i j : Int) : Bool := match j with
  | .ofNat (_ + 1) => true
  | _ => false
theorem modOk_ok (i j : Int) (h : modOk i j = true) : 0 < j := by
  unfold modOk at h
  split at h
  · rename_i n; show (0 : Int) < ((n + 1 : Nat) : Int); omega
  · cases h
def fMod : F2 := fI2c modOk imod
theorem opd_mod : OpR X (binaryOp .Mod) (r2 X.K N fMod) := opd_intc op_mod modOk_ok fun _ _ => rfl
def ilt (i j : Int) : Bool := decide (i < j)
def igt (i j : Int) : Bool := decide (j < i)
def ige (i j : Int) : Bool := decide (j ≤ i)
theorem opd_lt : OpR X (compareOp .Lt) (r2 X.K N (fB2 ilt)) := opd_cmp op_lt fun _ _ => rfl
theorem opd_gt : OpR X (compareOp .Gt) (r2 X.K N (fB2 igt)) := opd_cmp op_gt fun _ _ => rfl
theorem opd_ge : OpR X (compareOp .GtE) (r2 X.K N (fB2 ige)) := opd_cmp op_ge fun _ _ => rfl
end
end DL

/-! ==, in -/
namespace DL
open PySem PySem.Spec L2

mutual
def toPy : D → PyData
  | .non => .none
  | .bl b => .bool b
  | .int i => .int i
  | .str x => .str x
  | .tup l => .tuple (toPys l)
  | .ftup l => .tuple (toPys l)
  | .ref _ => .none
def toPys : List D → List PyData
  | [] => []
  | d :: ds => toPy d :: toPys ds
end
/-- data without a cell, not deeper than n -/
def pur : Nat → D → Bool
  | _, .non => true
  | _, .bl _ => true
  | _, .int _ => true
  | _, .str x => PyData.strOk x
  | n + 1, .tup l => l.all (pur n)
  | n + 1, .ftup l => l.all (pur n)
  | _, _ => false
def purs (n : Nat) (l : List D) : Bool := l.all (pur n)
def ieq : Int → Int → Bool
  | .ofNat a, .ofNat b => Nat.beq a b
  | .negSucc a, .negSucc b => Nat.beq a b
  | _, _ => false
theorem ieq_eq (i j : Int) : ieq i j = (i == j) := by
  cases i with
  | ofNat a =>
    cases j with
    | ofNat b =>
      show Nat.beq a b = _
      by_cases h : a = b
      · subst h; simp
      · have h' : ¬ ((Int.ofNat a) = (Int.ofNat b)) := fun z => h (Int.ofNat.inj z)
        rw [beq_eq_false_iff_ne.mpr h']
        cases e : Nat.beq a b with
        | false => rfl
        | true => exact absurd (Nat.eq_of_beq_eq_true e) h
    | negSucc b =>
      have h' : ¬ (Int.ofNat a = Int.negSucc b) := by intro z; cases z
      rw [beq_eq_false_iff_ne.mpr h']; rfl
  | negSucc a =>
    cases j with
    | ofNat b =>
      have h' : ¬ (Int.negSucc a = Int.ofNat b) := by intro z; cases z
      rw [beq_eq_false_iff_ne.mpr h']; rfl
    | negSucc b =>
      show Nat.beq a b = _
      by_cases h : a = b
      · subst h; simp
      · have h' : ¬ ((Int.negSucc a) = (Int.negSucc b)) := fun z => h (Int.negSucc.inj z)
        rw [beq_eq_false_iff_ne.mpr h']
        cases e : Nat.beq a b with
        | false => rfl
        | true => exact absurd (Nat.eq_of_beq_eq_true e) h
def eqL (f : D → D → Bool) : List D → List D → Bool
  | [], [] => true
  | x :: xs, y :: ys => match f x y with
    | true => eqL f xs ys
    | false => false
  | _, _ => false
def eqn : Nat → D → D → Bool
  | _, .int i, .int j => ieq i j
  | _, .non, .non => true
  | _, .bl a, .bl b => a == b
  | _, .bl a, .int j => (if a then 1 else 0) == j
  | _, .int i, .bl b => i == (if b then 1 else 0)
  | _, .str x, .str y => x == y
  | n + 1, .tup a, .tup b => eqL (eqn n) a b
  | n + 1, .ftup a, .tup b => eqL (eqn n) a b
  | n + 1, .tup a, .ftup b => eqL (eqn n) a b
  | n + 1, .ftup a, .ftup b => eqL (eqn n) a b
  | _, _, _ => false
theorem eqn_py : ∀ (n : Nat) (x y : D), pur n x = true → pur n y = true → eqn n x y = PyData.eqv (toPy x) (toPy y) := by
  intro n
  induction n with
  | zero =>
    intro x y hx hy
    cases x with
    | tup l => cases hx
    | ftup l => cases hx
    | ref r => cases hx
    | non => cases y with
      | tup l => cases hy
      | ftup l => cases hy
      | ref r => cases hy
      | _ => simp [eqn, toPy, PyData.eqv]
    | bl b => cases y with
      | tup l => cases hy
      | ftup l => cases hy
      | ref r => cases hy
      | _ => simp [eqn, toPy, PyData.eqv]
    | int i => cases y with
      | tup l => cases hy
      | ftup l => cases hy
      | ref r => cases hy
      | int j => simp only [eqn, toPy, PyData.eqv]; exact ieq_eq i j
      | _ => simp [eqn, toPy, PyData.eqv]
    | str i => cases y with
      | tup l => cases hy
      | ftup l => cases hy
      | ref r => cases hy
      | _ => simp [eqn, toPy, PyData.eqv]
  | succ n ih =>
    intro x y hx hy
    have all : ∀ (a b : List D), a.all (pur n) = true → b.all (pur n) = true → eqL (eqn n) a b = PyData.eqvAll (toPys a) (toPys b) := by
      intro a
      induction a with
      | nil => intro b _ _; cases b <;> simp [eqL, toPys, PyData.eqvAll]
      | cons u us ihu =>
        intro b ha hb
        cases b with
        | nil => simp [eqL, toPys, PyData.eqvAll]
        | cons v vs =>
          simp only [List.all_cons, Bool.and_eq_true] at ha hb
          simp only [eqL, toPys, PyData.eqvAll]
          rw [← ih u v ha.1 hb.1, ← ihu vs ha.2 hb.2]
          cases eqn n u v <;> rfl
    cases x with
    | ref r => cases hx
    | tup l => cases y with
      | ref r => cases hy
      | tup l' => simp only [eqn, toPy, PyData.eqv]; exact all l l' hx hy
      | ftup l' => simp only [eqn, toPy, PyData.eqv]; exact all l l' hx hy
      | _ => simp [eqn, toPy, PyData.eqv]
    | ftup l => cases y with
      | ref r => cases hy
      | tup l' => simp only [eqn, toPy, PyData.eqv]; exact all l l' hx hy
      | ftup l' => simp only [eqn, toPy, PyData.eqv]; exact all l l' hx hy
      | _ => simp [eqn, toPy, PyData.eqv]
    | non => cases y with
      | ref r => cases hy
      | _ => simp [eqn, toPy, PyData.eqv]
    | bl b => cases y with
      | ref r => cases hy
      | _ => simp [eqn, toPy, PyData.eqv]
    | int i => cases y with
      | ref r => cases hy
      | int j => simp only [eqn, toPy, PyData.eqv]; exact ieq_eq i j
      | _ => simp [eqn, toPy, PyData.eqv]
    | str i => cases y with
      | ref r => cases hy
      | _ => simp [eqn, toPy, PyData.eqv]
theorem eqL_py (n : Nat) : ∀ (a b : List D), purs n a = true → purs n b = true → eqL (eqn n) a b = PyData.eqvAll (toPys a) (toPys b)
  | [], b, _, _ => by cases b <;> simp [eqL, toPys, PyData.eqvAll]
  | u :: us, [], _, _ => by simp [eqL, toPys, PyData.eqvAll]
  | u :: us, v :: vs, ha, hb => by
    simp only [purs, List.all_cons, Bool.and_eq_true] at ha hb
    simp only [eqL, toPys, PyData.eqvAll]
    rw [← eqn_py n u v ha.1 hb.1, ← eqL_py n us vs ha.2 hb.2]
    cases eqn n u v <;> rfl
/-- pure data is data in the machine -/
theorem pur_dp {K : PySem.W.Frag} {W : Wl} : ∀ (n : Nat) (d : D) (v : V), pur n d = true → RelD W d v → Dp K W.H v (toPy d) ∧ PyData.canLay0 (toPy d) = true ∧ PyData.depth (toPy d) ≤ n := by
  intro n
  induction n with
  | zero =>
    intro d v h r
    cases d with
    | tup l => cases h
    | ftup l => cases h
    | ref r => cases h
    | non => rw [RelD] at r; subst r; exact ⟨by rw [toPy]; exact .non, by simp [toPy, PyData.canLay0], by simp [toPy, PyData.depth]⟩
    | bl b => rw [RelD] at r; subst r; exact ⟨by rw [toPy]; exact .bl b, by simp [toPy, PyData.canLay0], by simp [toPy, PyData.depth]⟩
    | int b => rw [RelD] at r; subst r; exact ⟨by rw [toPy]; exact .int b, by simp [toPy, PyData.canLay0], by simp [toPy, PyData.depth]⟩
    | str b => rw [RelD] at r; subst r; exact ⟨by rw [toPy]; exact .str b, by simpa [toPy, PyData.canLay0, pur] using h, by simp [toPy, PyData.depth]⟩
  | succ n ih =>
    intro d v h r
    cases d with
    | ref r => cases h
    | non => rw [RelD] at r; subst r; exact ⟨by rw [toPy]; exact .non, by simp [toPy, PyData.canLay0], by simp [toPy, PyData.depth]⟩
    | bl b => rw [RelD] at r; subst r; exact ⟨by rw [toPy]; exact .bl b, by simp [toPy, PyData.canLay0], by simp [toPy, PyData.depth]⟩
    | int b => rw [RelD] at r; subst r; exact ⟨by rw [toPy]; exact .int b, by simp [toPy, PyData.canLay0], by simp [toPy, PyData.depth]⟩
    | str b => rw [RelD] at r; subst r; exact ⟨by rw [toPy]; exact .str b, by simpa [toPy, PyData.canLay0, pur] using h, by simp [toPy, PyData.depth]⟩
    | ftup l =>
      obtain ⟨a, vs, ob, rfl, hs, _, rs⟩ := relFtup r
      have all : ∀ (l : List D) (vs : List V), l.all (pur n) = true → RelDs W l vs → DpAll K W.H vs (toPys l) ∧ PyData.canLayAll0 (toPys l) = true ∧ PyData.depthAll (toPys l) ≤ n := by
        intro l
        induction l with
        | nil => intro vs _ r; rw [RelDs] at r; subst r; exact ⟨by rw [toPys]; exact .nil, by simp [toPys, PyData.canLayAll0], by simp [toPys, PyData.depthAll]⟩
        | cons x xs ihx =>
          intro vs h r
          rw [RelDs] at r
          obtain ⟨v, vs', rfl, r1, r2⟩ := r
          simp only [List.all_cons, Bool.and_eq_true] at h
          obtain ⟨h1, h2, h3⟩ := ih x v h.1 r1
          obtain ⟨h4, h5, h6⟩ := ihx vs' h.2 r2
          exact ⟨by rw [toPys]; exact .cons h1 h4, by simp [toPys, PyData.canLayAll0, h2, h5], by simp only [toPys, PyData.depthAll]; omega⟩
      obtain ⟨h1, h2, h3⟩ := all l vs h rs
      exact ⟨by rw [toPy]; exact .tup (.inl (.inr ⟨ob, hs⟩)) h1, by simpa [toPy, PyData.canLay0] using h2, by simp only [toPy, PyData.depth]; omega⟩
    | tup l =>
      obtain ⟨a, vs, rfl, hs, rs⟩ := relTup r
      have all : ∀ (l : List D) (vs : List V), l.all (pur n) = true → RelDs W l vs → DpAll K W.H vs (toPys l) ∧ PyData.canLayAll0 (toPys l) = true ∧ PyData.depthAll (toPys l) ≤ n := by
        intro l
        induction l with
        | nil => intro vs _ r; rw [RelDs] at r; subst r; exact ⟨by rw [toPys]; exact .nil, by simp [toPys, PyData.canLayAll0], by simp [toPys, PyData.depthAll]⟩
        | cons x xs ihx =>
          intro vs h r
          rw [RelDs] at r
          obtain ⟨v, vs', rfl, r1, r2⟩ := r
          simp only [List.all_cons, Bool.and_eq_true] at h
          obtain ⟨h1, h2, h3⟩ := ih x v h.1 r1
          obtain ⟨h4, h5, h6⟩ := ihx vs' h.2 r2
          exact ⟨by rw [toPys]; exact .cons h1 h4, by simp [toPys, PyData.canLayAll0, h2, h5], by simp only [toPys, PyData.depthAll]; omega⟩
      obtain ⟨h1, h2, h3⟩ := all l vs h rs
      exact ⟨by rw [toPy]; exact .tup (SqT.of hs) h1, by simpa [toPy, PyData.canLay0] using h2, by simp only [toPy, PyData.depth]; omega⟩
theorem purs_dp {K : PySem.W.Frag} {W : Wl} (n : Nat) : ∀ (l : List D) (vs : List V), purs n l = true → RelDs W l vs → DpAll K W.H vs (toPys l) ∧ PyData.canLayAll0 (toPys l) = true ∧ PyData.depthAll (toPys l) ≤ n
  | [], vs, _, r => by rw [RelDs] at r; subst r; exact ⟨by rw [toPys]; exact .nil, by simp [toPys, PyData.canLayAll0], by simp [toPys, PyData.depthAll]⟩
  | x :: xs, vs, h, r => by
    rw [RelDs] at r
    obtain ⟨v, vs', rfl, r1, r2⟩ := r
    simp only [purs, List.all_cons, Bool.and_eq_true] at h
    obtain ⟨h1, h2, h3⟩ := pur_dp (K := K) n x v h.1 r1
    obtain ⟨h4, h5, h6⟩ := purs_dp n xs vs' h.2 r2
    exact ⟨by rw [toPys]; exact .cons h1 h4, by simp [toPys, PyData.canLayAll0, h2, h5], by simp only [toPys, PyData.depthAll]; omega⟩
theorem shaped_of {d : PyData} (h : d.canLay0 = true) (h2 : d.depth ≤ 64) : SeqAt.shaped d = true := by simp [SeqAt.shaped, h, h2]

/-- what two values' == tells -/
def eqF (η : Hd) : D → D → Option Bool
  | .ref r, .ref s => match η.list r, η.list s with
    | some a, some b => match purs 8 a, purs 8 b with
      | true, true => some (eqL (eqn 8) a b)
      | _, _ => none
    | _, _ => none
  | .ref r, y => match η.list r with
    | some a => match purs 8 a, pur 8 y with
      | true, true => some false
      | _, _ => none
    | _ => none
  | x, .ref r => match η.list r with
    | some a => match purs 8 a, pur 8 x with
      | true, true => some false
      | _, _ => none
    | _ => none
  | x, y => match pur 8 x, pur 8 y with
    | true, true => some (eqn 8 x y)
    | _, _ => none
/-- data of a value: pure, or a list of pure ones -/
def pyOf (η : Hd) : D → Option PyData
  | .ref r => match η.list r with
    | some a => match purs 8 a with
      | true => some (.list (toPys a))
      | false => none
    | none => none
  | x => match pur 8 x with
    | true => some (toPy x)
    | false => none
section
variable {X : Cx} {N : Nm} {E : XK} {K : PySem.W.Frag} {W : Wl}
theorem pyOf_dp (o : W.Ok K N.toNames) {d : D} {v : V} {p : PyData} (r : RelD W d v) (h : pyOf W.η d = some p) : Dp K W.H v p ∧ SeqAt.shaped p = true := by
  have flat : ∀ {d : D}, RelD W d v → pur 8 d = true → some (toPy d) = some p → Dp K W.H v p ∧ SeqAt.shaped p = true := fun {d} r hh e => by
    cases e
    obtain ⟨h1, h2, h3⟩ := pur_dp (K := K) 8 d v hh r
    exact ⟨h1, shaped_of h2 (by omega)⟩
  cases d with
  | ref q =>
    simp only [pyOf] at h
    cases e : W.η.list q with
    | none => rw [e] at h; cases h
    | some a =>
      rw [e] at h
      simp only at h
      cases e2 : purs 8 a with
      | false => rw [e2] at h; cases h
      | true =>
        rw [e2] at h
        cases h
        obtain ⟨vs, h1, h2, h3⟩ := list_of o e
        obtain ⟨g1, g2, g3⟩ := purs_dp (K := K) 8 a vs e2 h2
        rw [relRef r]
        refine ⟨.lst h1 g1, shaped_of (by simpa [PyData.canLay0] using g2) (by simp only [PyData.depth]; omega)⟩
  | non => exact flat r rfl h
  | bl b => exact flat r rfl h
  | int b => exact flat r rfl h
  | str b =>
    simp only [pyOf] at h
    cases e : pur 8 (.str b) with
    | false => rw [e] at h; cases h
    | true => rw [e] at h; exact flat r e h
  | tup b =>
    simp only [pyOf] at h
    cases e : pur 8 (.tup b) with
    | false => rw [e] at h; cases h
    | true => rw [e] at h; exact flat r e h
  | ftup b =>
    simp only [pyOf] at h
    cases e : pur 8 (.ftup b) with
    | false => rw [e] at h; cases h
    | true => rw [e] at h; exact flat r e h
theorem toPy_nolist : ∀ (x : D) (l : List PyData), PyData.eqv (.list l) (toPy x) = false ∧ PyData.eqv (toPy x) (.list l) = false := by
  intro x l
  cases x <;> simp [toPy, PyData.eqv]
theorem eqF_py {η : Hd} {x y : D} {b : Bool} (h : eqF η x y = some b) : ∃ p q, pyOf η x = some p ∧ pyOf η y = some q ∧ PyData.eqv p q = b := by
  have flat : ∀ {x y : D}, (∀ r, x ≠ .ref r) → (∀ r, y ≠ .ref r) → (match pur 8 x, pur 8 y with | true, true => some (eqn 8 x y) | _, _ => none) = some b → ∃ p q, pyOf η x = some p ∧ pyOf η y = some q ∧ PyData.eqv p q = b := by
    intro x y nx ny h
    cases ex : pur 8 x with
    | false => rw [ex] at h; cases h
    | true =>
      cases ey : pur 8 y with
      | false => rw [ex, ey] at h; cases h
      | true =>
        rw [ex, ey] at h
        cases h
        refine ⟨toPy x, toPy y, ?_, ?_, (eqn_py 8 x y ex ey).symm⟩
        · cases x <;> first | exact absurd rfl (nx _) | (simp only [pyOf, ex])
        · cases y <;> first | exact absurd rfl (ny _) | (simp only [pyOf, ey])
  have one : ∀ {r : Nat} {y : D}, (∀ r, y ≠ .ref r) → (match η.list r with | some a => (match purs 8 a, pur 8 y with | true, true => some false | _, _ => none) | _ => none) = some b →
      b = false ∧ ∃ l, pyOf η (.ref r) = some (.list l) ∧ pyOf η y = some (toPy y) := by
    intro r y ny h
    cases e : η.list r with
    | none => rw [e] at h; cases h
    | some a =>
      rw [e] at h
      simp only at h
      cases ex : purs 8 a with
      | false => rw [ex] at h; cases h
      | true =>
        cases ey : pur 8 y with
        | false => rw [ex, ey] at h; cases h
        | true =>
          rw [ex, ey] at h
          cases h
          refine ⟨rfl, toPys a, by simp only [pyOf, e, ex], ?_⟩
          cases y <;> first | exact absurd rfl (ny _) | (simp only [pyOf, ey])
  cases x with
  | ref r =>
    cases y with
    | ref s =>
      simp only [eqF] at h
      cases e1 : η.list r with
      | none => rw [e1] at h; cases h
      | some a =>
        cases e2 : η.list s with
        | none => rw [e1, e2] at h; cases h
        | some c =>
          rw [e1, e2] at h
          simp only at h
          cases ex : purs 8 a with
          | false => rw [ex] at h; cases h
          | true =>
            cases ey : purs 8 c with
            | false => rw [ex, ey] at h; cases h
            | true =>
              rw [ex, ey] at h
              cases h
              refine ⟨.list (toPys a), .list (toPys c), by simp only [pyOf, e1, ex], by simp only [pyOf, e2, ey], ?_⟩
              simp only [PyData.eqv]; exact (eqL_py 8 a c ex ey).symm
    | _ =>
      simp only [eqF] at h
      obtain ⟨rfl, l, h1, h2⟩ := one (by intro r z; cases z) h
      exact ⟨_, _, h1, h2, (toPy_nolist _ l).1⟩
  | non =>
    cases y with
    | ref s =>
      simp only [eqF] at h
      obtain ⟨rfl, l, h1, h2⟩ := one (by intro r z; cases z) h
      exact ⟨_, _, h2, h1, (toPy_nolist _ l).2⟩
    | _ => exact flat (by intro r z; cases z) (by intro r z; cases z) h
  | bl b =>
    cases y with
    | ref s =>
      simp only [eqF] at h
      obtain ⟨rfl, l, h1, h2⟩ := one (by intro r z; cases z) h
      exact ⟨_, _, h2, h1, (toPy_nolist _ l).2⟩
    | _ => exact flat (by intro r z; cases z) (by intro r z; cases z) h
  | int b =>
    cases y with
    | ref s =>
      simp only [eqF] at h
      obtain ⟨rfl, l, h1, h2⟩ := one (by intro r z; cases z) h
      exact ⟨_, _, h2, h1, (toPy_nolist _ l).2⟩
    | _ => exact flat (by intro r z; cases z) (by intro r z; cases z) h
  | str b =>
    cases y with
    | ref s =>
      simp only [eqF] at h
      obtain ⟨rfl, l, h1, h2⟩ := one (by intro r z; cases z) h
      exact ⟨_, _, h2, h1, (toPy_nolist _ l).2⟩
    | _ => exact flat (by intro r z; cases z) (by intro r z; cases z) h
  | ftup b =>
    cases y with
    | ref s =>
      simp only [eqF] at h
      obtain ⟨rfl, l, h1, h2⟩ := one (by intro r z; cases z) h
      exact ⟨_, _, h2, h1, (toPy_nolist _ l).2⟩
    | _ => exact flat (by intro r z; cases z) (by intro r z; cases z) h
  | tup b =>
    cases y with
    | ref s =>
      simp only [eqF] at h
      obtain ⟨rfl, l, h1, h2⟩ := one (by intro r z; cases z) h
      exact ⟨_, _, h2, h1, (toPy_nolist _ l).2⟩
    | _ => exact flat (by intro r z; cases z) (by intro r z; cases z) h
def fEq : F2 := fun x y η => match eqF η x y with
  | some b => some (.bl b, η)
  | none => none
def fNe : F2 := fun x y η => match eqF η x y with
  | some b => some (.bl (!b), η)
  | none => none
theorem opd_eq (hu : X.A.units + 64 < cLine) : OpR X (compareOp .Eq) (r2 X.K N fEq) := OpR.imp (op_eqD hu) fun x y H Q q => by
  obtain ⟨W, dx, dy, d, η', rfl, o, rx, ry, hf, hq⟩ := q
  unfold fEq at hf
  cases e : eqF W.η dx dy with
  | none => rw [e] at hf; cases hf
  | some b =>
    rw [e] at hf
    simp only [Option.some.injEq, Prod.mk.injEq] at hf
    obtain ⟨rfl, rfl⟩ := hf
    obtain ⟨p, q, h1, h2, rfl⟩ := eqF_py e
    obtain ⟨a1, a2⟩ := pyOf_dp o rx h1
    obtain ⟨b1, b2⟩ := pyOf_dp o ry h2
    exact ⟨p, q, a1, b1, a2, b2, same_w o hq mkBl⟩
theorem opd_ne (hu : X.A.units + 64 < cLine) : OpR X (compareOp .NotEq) (r2 X.K N fNe) := OpR.imp (op_neD hu) fun x y H Q q => by
  obtain ⟨W, dx, dy, d, η', rfl, o, rx, ry, hf, hq⟩ := q
  unfold fNe at hf
  cases e : eqF W.η dx dy with
  | none => rw [e] at hf; cases hf
  | some b =>
    rw [e] at hf
    simp only [Option.some.injEq, Prod.mk.injEq] at hf
    obtain ⟨rfl, rfl⟩ := hf
    obtain ⟨p, q, h1, h2, rfl⟩ := eqF_py e
    obtain ⟨a1, a2⟩ := pyOf_dp o rx h1
    obtain ⟨b1, b2⟩ := pyOf_dp o ry h2
    exact ⟨p, q, a1, b1, a2, b2, same_w o hq mkBl⟩
/-! in: lists and tuples of pure data -/
end
end DL

/-! expressions -/
namespace DL
open PySem PySem.Spec L2
section
variable {X : Cx} {N : Nm} {E : XK}

/-! ### arguments, displays -/
def cNil : CA := fun _ η k _ => k [] η
def cCons (a : CE) (r : CA) : CA := fun σ η k kx => a σ η (fun x η1 => r σ η1 (fun xs η2 => k (x :: xs) η2) kx) kx
theorem ja_nil : JA X N E [] cNil := PA.imp pa_nil fun σ H Q q => by
  obtain ⟨W, σd, kv, kx, rfl, o, s, h, hv, hx⟩ := q
  exact hv W [] [] (Ext.refl W) o .nil h
theorem ja_cons {e : Expr} {es : List Expr} {c : CE} {cs : CA} (ha : JE X N E e c) (hr : JA X N E es cs) (hs : starEach (e :: es) X.env = (false, eval e X.env) :: starEach es X.env := by rfl) : JA X N E (e :: es) (cCons c cs) :=
  PA.imp (pa_cons ha hr hs) fun σ H Q q => by
    obtain ⟨W, σd, kv, kx, rfl, o, s, h, hv, hx⟩ := q
    refine tE.bind o s hx h fun W1 d v x1 o1 r1 s1 hx1 h1 => ?_
    refine tAr.bind o1 s1 hx1 h1 fun W2 ds vs x2 o2 r2 s2 hx2 h2 => ?_
    exact hv W2 (d :: ds) (v :: vs) (x1.trans o o1 x2) o2 (.cons (r1.mono o1 x2) r2) h2
def cTup (a : CA) : CE := fun σ η kv kx => a σ η (fun ds η1 => match Nat.ble ds.length line with
  | true => kv (.tup ds) η1
  | false => false) kx
def cLst (a : CA) : CE := fun σ η kv kx => a σ η (fun ds η1 => match Nat.ble ds.length line with
  | true => kv (.ref η1.nx) (η1.new (.lst ds))
  | false => false) kx
theorem Vk.tup {K : PySem.W.Frag} {W W0 : Wl} {kv : KV} {Q : VK} {ds : List D} {vs : List V} {p : Addr} (o : W.Ok K N.toNames) (hv : Vk K N W kv Q) (h : kv (.tup ds) W.η = true) (hp : W.H p = none) (r : RelDs W ds vs) : Q (.ref p) (upd W.H p (.tup vs)) :=
  new_tup (N := N) o (fun W' v x o' e r' => hv W' _ v x o' r' (by rw [e]; exact h)) hp r
theorem Vk.lst {K : PySem.W.Frag} {W : Wl} {kv : KV} {Q : VK} {ds : List D} {vs : List V} {p : Addr} (o : W.Ok K N.toNames) (hv : Vk K N W kv Q) (h : kv (.ref W.η.nx) (W.η.new (.lst ds)) = true) (hp : W.H p = none) (r : RelDs W ds vs) (hl : ds.length ≤ sizeLine) : Q (.ref p) (upd W.H p (.lst vs)) :=
  new_lst (N := N) o (fun W' v x o' e r' => hv W' _ v x o' r' (by rw [e]; exact h)) hp r hl
theorem je_tup {es : List Expr} {x1 : Nat} {pos : Pos} {c : CA} (h : JA X N E es c) : JE X N E (.Tuple es x1 pos) (cTup c) := PE.imp (pe_tup h) fun σ H Q q => by
  obtain ⟨W, σd, kv, kx, rfl, o, s, h, hv, hx⟩ := q
  refine tAr.bind o s hx h fun W1 ds vs x1 o1 r1 s1 hx1 h1 => ?_
  cases e : Nat.ble ds.length line with
  | false => rw [e] at h1; cases h1
  | true =>
    rw [e] at h1
    exact ⟨by rw [← r1.length]; exact Nat.le_of_ble_eq_true e, fun p hp => Vk.tup (W0 := W) o1 (hv.mono o o1 x1) h1 hp r1⟩
theorem je_lst {es : List Expr} {pos : Pos} {c : CA} (h : JA X N E es c) : JE X N E (.List es pos) (cLst c) := PE.imp (pe_lst h) fun σ H Q q => by
  obtain ⟨W, σd, kv, kx, rfl, o, s, h, hv, hx⟩ := q
  refine tAr.bind o s hx h fun W1 ds vs x1 o1 r1 s1 hx1 h1 => ?_
  cases e : Nat.ble ds.length line with
  | false => rw [e] at h1; cases h1
  | true =>
    rw [e] at h1
    have hl : ds.length ≤ sizeLine := Nat.le_of_ble_eq_true e
    exact ⟨by rw [← r1.length]; exact hl, fun p hp => Vk.lst o1 (hv.mono o o1 x1) h1 hp r1 hl⟩

/-! ### unary -/
def cNeg (a : CE) : CE := fun σ η kv kx => a σ η (fun x η1 => match x with
  | .int i => kv (.int (Int.neg i)) η1
  | _ => false) kx
theorem je_neg {a : Expr} {c : CE} {pos : Pos} (h : JE X N E a c) : JE X N E (.UnaryOp .USub a pos) (cNeg c) := PE.imp (pe_un un_neg h) fun σ H Q q => by
  obtain ⟨W, σd, kv, kx, rfl, o, s, h, hv, hx⟩ := q
  refine tE.bind o s hx h fun W1 d v x1 o1 r1 s1 hx1 h1 => ?_
  cases d with
  | int i => rw [relInt r1]; exact ⟨i, rfl, (hv.mono o o1 x1).here o1 mkInt h1⟩
  | _ => cases h1
/-! ### tests -/
def cTst (a : CE) : CT := fun σ η k kx => a σ η (fun x η1 => match x with
  | .bl b => k b η1
  | _ => false) kx
def ctAnd (a b : CT) : CT := fun σ η k kx => a σ η (fun x η1 => match x with
  | true => b σ η1 k kx
  | false => k false η1) kx
def ctOr (a b : CT) : CT := fun σ η k kx => a σ η (fun x η1 => match x with
  | true => k true η1
  | false => b σ η1 k kx) kx
def JW (X : Cx) (N : Nm) (E : XK) (e : Expr) (c : CT) : Prop := PW X e (tT X.K N E c)
theorem jt_of {e : Expr} {c : CT} (h : JW X N E e c) : JT X N E e c := PW.pt h
theorem jw_and1 {a : Expr} {c : CT} {pos : Pos} (h : JT X N E a c) : JW X N E (.BoolOp .And [a] pos) c := pw_and1 h
theorem jw_or1 {a : Expr} {c : CT} {pos : Pos} (h : JT X N E a c) : JW X N E (.BoolOp .Or [a] pos) c := pw_or1 h
theorem jw_and {a b : Expr} {rest : List Expr} {c d : CT} {pos : Pos} (h : JT X N E a c) (h2 : JW X N E (.BoolOp .And (b :: rest) pos) d) : JW X N E (.BoolOp .And (a :: b :: rest) pos) (ctAnd c d) := PW.imp (pw_and h h2) fun σ H Q q => by
  obtain ⟨W, σd, kv, kx, rfl, o, s, h, hv, hx⟩ := q
  refine tT.bind o s hx h fun W1 b x1 o1 s1 hx1 h1 => ?_
  cases b with
  | true => rw [if_pos rfl]; exact tT.bind o1 s1 hx1 h1 fun W2 b2 x2 o2 _ _ h2 => hv W2 b2 (x1.trans o o1 x2) o2 h2
  | false => rw [if_neg (by decide)]; exact hv W1 false x1 o1 h1
theorem jw_or {a b : Expr} {rest : List Expr} {c d : CT} {pos : Pos} (h : JT X N E a c) (h2 : JW X N E (.BoolOp .Or (b :: rest) pos) d) : JW X N E (.BoolOp .Or (a :: b :: rest) pos) (ctOr c d) := PW.imp (pw_or h h2) fun σ H Q q => by
  obtain ⟨W, σd, kv, kx, rfl, o, s, h, hv, hx⟩ := q
  refine tT.bind o s hx h fun W1 b x1 o1 s1 hx1 h1 => ?_
  cases b with
  | true => rw [if_pos rfl]; exact hv W1 true x1 o1 h1
  | false => rw [if_neg (by decide)]; exact tT.bind o1 s1 hx1 h1 fun W2 b2 x2 o2 _ _ h2 => hv W2 b2 (x1.trans o o1 x2) o2 h2
def cIf (t : CT) (a b : CE) : CE := fun σ η kv kx => t σ η (fun x η1 => match x with
  | true => a σ η1 kv kx
  | false => b σ η1 kv kx) kx
theorem je_if {c a b : Expr} {ct : CT} {ca cb : CE} {pos : Pos} (hc : JT X N E c ct) (ha : JE X N E a ca) (hb : JE X N E b cb) : JE X N E (.IfExp c a b pos) (cIf ct ca cb) := PE.imp (pe_ifExp hc ha hb) fun σ H Q q => by
  obtain ⟨W, σd, kv, kx, rfl, o, s, h, hv, hx⟩ := q
  refine tT.bind o s hx h fun W1 b x1 o1 s1 hx1 h1 => ?_
  cases b with
  | true => rw [if_pos rfl]; exact tE.bind o1 s1 hx1 h1 fun W2 d2 v2 x2 o2 r2 _ _ h2 => hv W2 d2 v2 (x1.trans o o1 x2) o2 r2 h2
  | false => rw [if_neg (by decide)]; exact tE.bind o1 s1 hx1 h1 fun W2 d2 v2 x2 o2 r2 _ _ h2 => hv W2 d2 v2 (x1.trans o o1 x2) o2 r2 h2
/-- a < b < c -/
def cChain (f g : F2) (a b c : CE) : CE := fun σ η kv kx => a σ η (fun x η1 => b σ η1 (fun y η2 => match f x y η2 with
  | some (.bl true, η3) => c σ η3 (fun z η4 => match g y z η4 with
    | some (d, η5) => kv d η5
    | none => false) kx
  | some (.bl false, η3) => kv (.bl false) η3
  | _ => false) kx) kx
theorem tChain_of {f g : F2} {ca cb cc : CE} {K : PySem.W.Frag} {σ : St} {H : Hp} {Q : VK} (h : tE K N E (cChain f g ca cb cc) σ H Q) : tChain (r2 K N f) (r2 K N g) (tE K N E ca) (tE K N E cb) (tE K N E cc) σ H Q := by
  obtain ⟨W, σd, kv, kx, rfl, o, s, h, hv, hx⟩ := h
  refine tE.bind o s hx h fun W1 dx x x1 o1 r1 s1 hx1 h1 => ?_
  refine tE.bind o1 s1 hx1 h1 fun W2 dy y x2 o2 r2' s2 hx2 h2 => ?_
  have x02 := x1.trans o o1 x2
  cases e : f dx dy W2.η with
  | none => rw [e] at h2; cases h2
  | some p =>
    obtain ⟨d, η'⟩ := p
    rw [e] at h2
    refine ⟨W2, dx, dy, d, η', rfl, o2, r1.mono o1 x2, r2', e, fun W3 v x3 o3 e3 r3 => ?_⟩
    cases d with
    | bl b =>
      rw [relBl r3]
      cases b with
      | true =>
        refine ⟨true, rfl, ?_⟩
        rw [if_pos rfl]
        refine tE.bind o3 (s2.mono o2 x3) (hx2.mono o2 o3 x3) (by rw [e3]; exact h2) fun W4 dz z x4 o4 r4 s4 hx4 h4 => ?_
        have ry : RelD W4 dy y := (r2'.mono o2 x3).mono o3 x4
        cases e4 : g dy dz W4.η with
        | none => rw [e4] at h4; cases h4
        | some p =>
          obtain ⟨d, η'⟩ := p
          rw [e4] at h4
          exact ⟨W4, dy, dz, d, η', rfl, o4, ry, r4, e4, fun W5 v x5 o5 e5 r5 => hv W5 d v (x02.trans o o2 (x3.trans o2 o3 (x4.trans o3 o4 x5))) o5 r5 (by rw [e5]; exact h4)⟩
      | false =>
        refine ⟨false, rfl, ?_⟩
        rw [if_neg (by decide)]
        exact (hv.mono o o3 (x02.trans o o2 x3)).here o3 mkBl (by rw [e3]; exact h2)
    | _ => cases h2
end
end DL

/-! tests by comparison, subscripts, slices, built-ins, methods -/
namespace DL
open PySem PySem.Spec L2
section
variable {X : Cx} {N : Nm} {E : XK}
theorem tTest_of {c : CE} {K : PySem.W.Frag} {σ : St} {H : Hp} {Q : Bool → Hp → Prop} (h : tT K N E (cTst c) σ H Q) : tE K N E c σ H (fun x H' => ∃ k, x = .bl k ∧ Q k H') := by
  obtain ⟨W, σd, kv, kx, rfl, o, s, h, hv, hx⟩ := h
  refine tE.bind o s hx h fun W1 d v x1 o1 r1 s1 hx1 h1 => ?_
  cases d with
  | bl i => rw [relBl r1]; exact ⟨i, rfl, hv W1 i x1 o1 h1⟩
  | _ => cases h1
theorem jt_cmp {op : CmpOp} {f : F2} {a b : Expr} {ca cb : CE} {pos : Pos} (ho : OpR X (compareOp op) (r2 X.K N f)) (ha : JE X N E a ca) (hb : JE X N E b cb) (hm : behindInMarks op b = false) : JT X N E (.Compare a [op] [b] pos) (cTst (cOp f ca cb)) :=
  PT.imp (pt_cmpR ho ha hb hm) fun σ H Q q => tOp_of (tTest_of q)
theorem jt_chain {op op' : CmpOp} {f g : F2} {a b c : Expr} {ca cb cc : CE} {pos : Pos} (ho : OpR X (compareOp op) (r2 X.K N f)) (ho' : OpR X (compareOp op') (r2 X.K N g)) (ha : JE X N E a ca) (hb : JE X N E b cb) (hc : JE X N E c cc)
    (hm : lastMarks [op, op'] [b, c] = false := by with_unfolding_all rfl) : JT X N E (.Compare a [op, op'] [b, c] pos) (cTst (cChain f g ca cb cc)) :=
  PT.imp (pt_chain ho ho' ha hb hc hm) fun σ H Q q => tChain_of (tTest_of q)

/-! ### subscripts -/
def atD (l : List D) : Int → Option D
  | .ofNat n => l[n]?
  | .negSucc n => match Nat.ble (n + 1) l.length with
    | true => l[l.length - (n + 1)]?
    | false => none
theorem atD_atI {W : Wl} {l : List D} {vs : List V} {i : Int} {d : D} (r : RelDs W l vs) (h : atD l i = some d) : ∃ v, atI vs i = some v ∧ RelD W d v := by
  have hl := r.length
  cases i with
  | ofNat n =>
    have h' : l[n]? = some d := h
    obtain ⟨v, e, rv⟩ := r.get' h'
    have hn : n < vs.length := (List.getElem?_eq_some_iff.mp e).1
    refine ⟨v, ?_, rv⟩
    unfold atI ixN
    rw [if_pos (show (0 : Int) ≤ Int.ofNat n from Int.natCast_nonneg n), if_pos (show Int.ofNat n < (vs.length : Int) from by show ((n : Nat) : Int) < _; omega)]
    exact e
  | negSucc n =>
    simp only [atD] at h
    cases e : Nat.ble (n + 1) l.length with
    | false => rw [e] at h; cases h
    | true =>
      rw [e] at h
      have hb : n + 1 ≤ l.length := Nat.le_of_ble_eq_true e
      obtain ⟨v, ev, rv⟩ := r.get' h
      refine ⟨v, ?_, rv⟩
      unfold atI ixN
      have e1 : Int.negSucc n = -((n + 1 : Nat) : Int) := rfl
      rw [if_neg (show ¬ (0 : Int) ≤ Int.negSucc n from by rw [e1]; omega), if_pos (show -(vs.length : Int) ≤ Int.negSucc n from by rw [e1]; omega)]
      have e2 : (Int.negSucc n + (vs.length : Int)).toNat = l.length - (n + 1) := by rw [e1]; omega
      show vs[(Int.negSucc n + (vs.length : Int)).toNat]? = some v
      rw [e2]; exact ev
/-- the value under a key -/
def eqK1 : D → D → Bool
  | .int i, .int j => ieq i j
  | .str a, .str b => decide (a = b)
  | _, _ => false
def eqK : D → D → Bool
  | .tup a, .tup b => eqL eqK1 a b
  | x, y => eqK1 x y
def isKey : Bool → D → Bool
  | false, .int _ => true
  | false, .str _ => true
  | true, .tup l => l.all fun x => match x with
    | .int _ => true
    | .str _ => true
    | _ => false
  | _, _ => false
def dlook (k : D) : List (D × D) → Option D
  | [] => none
  | p :: r => match eqK p.1 k with
    | true => some p.2
    | false => dlook k r
theorem ieq_iff {i j : Int} : ieq i j = true ↔ i = j := by rw [ieq_eq]; exact beq_iff_eq
theorem key0_eq {x y : D} {a b : Key} (hx : D.key x = some a) (hy : D.key y = some b) : eqK1 x y = decide (a = b) := by
  cases x with
  | int i =>
    cases hx
    cases y with
    | int j =>
      cases hy
      show ieq i j = decide ((Sum.inl i : Key) = Sum.inl j)
      rw [ieq_eq, key_ll]
    | str s => cases hy; exact (key_lr i s).symm
    | _ => cases hy
  | str s =>
    cases hx
    cases y with
    | int j => cases hy; exact (key_rl s j).symm
    | str t => cases hy; exact (key_rr s t).symm
    | _ => cases hy
  | _ => cases hx
theorem key1_eq {x y : D} {a b : Key} (hx : D.key x = some a) (hy : D.key y = some b) : eqK x y = decide (a = b) := by
  rw [← key0_eq hx hy]
  cases x <;> cases y <;> first | rfl | (cases hx) | (cases hy)
theorem keysOf_cons {x : D} {xs : List D} {a : List Key} (h : keysOf (x :: xs) = some a) : ∃ k ks, a = k :: ks ∧ D.key x = some k ∧ keysOf xs = some ks := by
  simp only [keysOf] at h
  cases e : D.key x with
  | none => rw [e] at h; cases h
  | some k =>
    cases e2 : keysOf xs with
    | none => rw [e, e2] at h; cases h
    | some ks => rw [e, e2] at h; cases h; exact ⟨k, ks, rfl, rfl, rfl⟩
theorem keyT_eq : ∀ {l m : List D} {a b : List Key}, keysOf l = some a → keysOf m = some b → eqK (.tup l) (.tup m) = decide (a = b)
  | [], m, a, b, hx, hy => by
    cases hx
    cases m with
    | nil => cases hy; rfl
    | cons y ys => obtain ⟨k, ks, rfl, _, _⟩ := keysOf_cons hy; simp [eqK, eqL]
  | x :: xs, m, a, b, hx, hy => by
    obtain ⟨k, ks, rfl, h1, h2⟩ := keysOf_cons hx
    cases m with
    | nil => cases hy; simp [eqK, eqL]
    | cons y ys =>
      obtain ⟨k', ks', rfl, g1, g2⟩ := keysOf_cons hy
      have e1 := key0_eq h1 g1
      have e2 : eqL eqK1 xs ys = decide (ks = ks') := keyT_eq h2 g2
      show eqL eqK1 (x :: xs) (y :: ys) = _
      unfold eqL
      rw [e1]
      by_cases hk : k = k'
      · rw [decide_eq_true hk]
        show eqL eqK1 xs ys = _
        rw [e2]
        by_cases hks : ks = ks'
        · rw [decide_eq_true hks, decide_eq_true (by rw [hk, hks])]
        · rw [decide_eq_false hks, decide_eq_false (by intro z; cases z; exact hks rfl)]
      · rw [decide_eq_false hk]
        exact (decide_eq_false (by intro z; cases z; exact hk rfl)).symm
theorem dlookK {W : Wl} {k : D} {k' : Key} (hk : D.key k = some k') : ∀ {kvs : List (D × D)} {ps : List (Key × V)}, RelK W kvs ps → (∀ d, dlook k kvs = some d → ∃ v, valV ps k' = some v ∧ RelD W d v) ∧ (dlook k kvs = none → valV ps k' = none)
  | [], ps, h => by rw [RelK] at h; subst h; exact ⟨fun d e => (nomatch e), fun _ => rfl⟩
  | (a, b) :: r, ps, h => by
    rw [RelK] at h
    obtain ⟨a', v, ps', rfl, h1, h2, h3⟩ := h
    obtain ⟨ih1, ih2⟩ := dlookK hk h3
    have e := key1_eq h1 hk
    unfold dlook
    by_cases z : a' = k'
    · have e2 : eqK a k = true := by rw [e, decide_eq_true z]
      simp only [e2]
      exact ⟨fun d q => by cases q; exact ⟨v, valV_pos z, h2⟩, fun q => by cases q⟩
    · have e2 : eqK a k = false := by rw [e, decide_eq_false z]
      simp only [e2]
      rw [valV_neg z]
      exact ⟨ih1, ih2⟩
theorem dlookT {W : Wl} {k : D} {k' : List Key} (hk : D.tkey k = some k') : ∀ {kvs : List (D × D)} {ps : List (List Key × V)}, RelT W kvs ps → (∀ d, dlook k kvs = some d → ∃ v, valV ps k' = some v ∧ RelD W d v) ∧ (dlook k kvs = none → valV ps k' = none)
  | [], ps, h => by rw [RelT] at h; subst h; exact ⟨fun d e => (nomatch e), fun _ => rfl⟩
  | (a, b) :: r, ps, h => by
    rw [RelT] at h
    obtain ⟨a', v, ps', rfl, h1, h2, h3⟩ := h
    obtain ⟨ih1, ih2⟩ := dlookT hk h3
    have e : eqK a k = decide (a' = k') := by
      cases a with
      | tup l =>
        cases k with
        | tup m => exact keyT_eq h1 hk
        | _ => cases hk
      | _ => cases h1
    unfold dlook
    by_cases z : a' = k'
    · have e2 : eqK a k = true := by rw [e, decide_eq_true z]
      simp only [e2]
      exact ⟨fun d q => by cases q; exact ⟨v, valV_pos z, h2⟩, fun q => by cases q⟩
    · have e2 : eqK a k = false := by rw [e, decide_eq_false z]
      simp only [e2]
      rw [valV_neg z]
      exact ⟨ih1, ih2⟩
theorem key_rel {W : Wl} {k : D} {k' : Key} {v : V} (hk : D.key k = some k') (r : RelD W k v) : v = kV k' := by
  cases k with
  | int i => cases hk; exact relInt r
  | str i => cases hk; exact relStr r
  | _ => cases hk
theorem keys_rel {W : Wl} : ∀ {l : List D} {ks : List Key} {vs : List V}, keysOf l = some ks → RelDs W l vs → vs = ks.map kV
  | [], ks, vs, h, r => by cases h; rw [RelDs] at r; subst r; rfl
  | x :: xs, ks, vs, h, r => by
    obtain ⟨k, ks', rfl, h1, h2⟩ := keysOf_cons h
    rw [RelDs] at r
    obtain ⟨v, vs', rfl, r1, r2⟩ := r
    rw [key_rel h1 r1, keys_rel h2 r2]; rfl
theorem isKey_key {k : D} (h : isKey false k = true) : ∃ k', D.key k = some k' := by
  cases k with
  | int i => exact ⟨_, rfl⟩
  | str i => exact ⟨_, rfl⟩
  | _ => cases h
theorem isKey_keys : ∀ {l : List D}, isKey true (.tup l) = true → ∃ k', keysOf l = some k'
  | [], _ => ⟨[], rfl⟩
  | x :: xs, h => by
    simp only [isKey, List.all_cons, Bool.and_eq_true] at h
    obtain ⟨ks, e⟩ := isKey_keys (l := xs) h.2
    cases x with
    | int i => exact ⟨.inl i :: ks, by simp only [keysOf, D.key, e]⟩
    | str i => exact ⟨.inr i :: ks, by simp only [keysOf, D.key, e]⟩
    | _ => exact absurd h.1 (by simp)
theorem isKey_tkey {k : D} (h : isKey true k = true) : ∃ k', D.tkey k = some k' := by
  cases k with
  | tup l => exact isKey_keys h
  | _ => cases h
/-- what a dict's cell tells of a key -/
theorem dget_of {K : PySem.W.Frag} {W : Wl} {r : Nat} {t : Bool} {kvs : List (D × D)} {k : D} {v : V} (o : W.Ok K N.toNames) (h : W.η.get r = some (.dct t kvs)) (hk : isKey t k = true) (rk : RelD W k v) :
    (∀ d, dlook k kvs = some d → ∃ w, DGet W.H (W.μ r) v (some w) ∧ RelD W d w) ∧ (dlook k kvs = none → DGet W.H (W.μ r) v none) := by
  have c := o.cell r _ h
  cases t with
  | false =>
    obtain ⟨ps, h1, h2, h3⟩ := c
    obtain ⟨k', hk'⟩ := isKey_key hk
    obtain ⟨a, b⟩ := dlookK hk' h2
    have ev := key_rel hk' rk
    subst ev
    exact ⟨fun d e => by obtain ⟨w, e1, e2⟩ := a d e; exact ⟨w, .inl ⟨ps, k', .inl h1, rfl, e1.symm⟩, e2⟩, fun e => .inl ⟨ps, k', .inl h1, rfl, (b e).symm⟩⟩
  | true =>
    obtain ⟨ps, h1, h2, h3⟩ := c
    obtain ⟨k', hk'⟩ := isKey_tkey hk
    obtain ⟨a, b⟩ := dlookT hk' h2
    cases k with
    | tup l =>
      obtain ⟨q, vs, rfl, hq, rq⟩ := relTup rk
      have ev := keys_rel hk' rq
      subst ev
      exact ⟨fun d e => by obtain ⟨w, e1, e2⟩ := a d e; exact ⟨w, .inr ⟨ps, k', q, .inl h1, rfl, hq, e1.symm⟩, e2⟩, fun e => .inr ⟨ps, k', q, .inl h1, rfl, hq, (b e).symm⟩⟩
    | _ => cases hk
/-- o[i] -/
def fIx : F2 := fun x y η => match x, y with
  | .tup l, .int i => match atD l i with
    | some d => some (d, η)
    | none => none
  | .ftup l, .int i => match atD l i with
    | some d => some (d, η)
    | none => none
  | .ref r, k => match η.get r with
    | some (.lst l) => match k with
      | .int i => match atD l i with
        | some d => some (d, η)
        | none => none
      | _ => none
    | some (.frz l) => match k with
      | .int i => match atD l i with
        | some d => some (d, η)
        | none => none
      | _ => none
    | some (.dct t kvs) => match isKey t k with
      | true => match dlook k kvs with
        | some d => some (d, η)
        | none => none
      | false => none
    | some (.ldc t kvs) => match isKey t k with
      | true => match dlook k kvs with
        | some d => some (d, η)
        | none => none
      | false => none
    | _ => none
  | _, _ => none
/-- the same of a dict that is walked meanwhile -/
theorem dget_ofL {K : PySem.W.Frag} {W : Wl} {r : Nat} {t : Bool} {kvs : List (D × D)} {k : D} {v : V} (o : W.Ok K N.toNames) (h : W.η.get r = some (.ldc t kvs)) (hk : isKey t k = true) (rk : RelD W k v) :
    (∀ d, dlook k kvs = some d → ∃ w, DGet W.H (W.μ r) v (some w) ∧ RelD W d w) ∧ (dlook k kvs = none → DGet W.H (W.μ r) v none) := by
  have c := o.cell r _ h
  cases t with
  | false =>
    obtain ⟨ps, ob, h1, h2, h3⟩ := c
    obtain ⟨k', hk'⟩ := isKey_key hk
    obtain ⟨a, b⟩ := dlookK hk' h2
    have ev := key_rel hk' rk
    subst ev
    exact ⟨fun d e => by obtain ⟨w, e1, e2⟩ := a d e; exact ⟨w, .inl ⟨ps, k', .inr ⟨ob, h1⟩, rfl, e1.symm⟩, e2⟩, fun e => .inl ⟨ps, k', .inr ⟨ob, h1⟩, rfl, (b e).symm⟩⟩
  | true =>
    obtain ⟨ps, ob, h1, h2, h3⟩ := c
    obtain ⟨k', hk'⟩ := isKey_tkey hk
    obtain ⟨a, b⟩ := dlookT hk' h2
    cases k with
    | tup l =>
      obtain ⟨q, vs, rfl, hq, rq⟩ := relTup rk
      have ev := keys_rel hk' rq
      subst ev
      exact ⟨fun d e => by obtain ⟨w, e1, e2⟩ := a d e; exact ⟨w, .inr ⟨ps, k', q, .inr ⟨ob, h1⟩, rfl, hq, e1.symm⟩, e2⟩, fun e => .inr ⟨ps, k', q, .inr ⟨ob, h1⟩, rfl, hq, (b e).symm⟩⟩
    | _ => cases hk
theorem ix_dict (hu : X.A.units + 1 < cLine) : IxR X (fun x y H Q => ∃ a v, x = .ref a ∧ DGet H a y (some v) ∧ Q v H) := by
  intro value slice pins s σ H x y v u Q I rx ry h hs
  obtain ⟨a, w, rfl, g, q⟩ := h
  obtain rfl : v = Value.ref a := rx
  have ht := dict_typeIs I g
  exact PyProof.Rows.tail_any ht PySem.F.slot_dict_getitem.lookup (d_getItem hu I g ry fun w' s3 I3 rw' => ⟨w, H, I3, rw', q⟩) hs
theorem IxR.or {r r' : R2} (h : IxR X r) (h' : IxR X r') : IxR X (fun x y H Q => r x y H Q ∨ r' x y H Q) := by
  intro value slice pins s σ H x y v u Q I rx ry hh hs
  rcases hh with hh | hh
  · exact h value slice pins s σ H x y v u Q I rx ry hh hs
  · exact h' value slice pins s σ H x y v u Q I rx ry hh hs
theorem fIx_ok {K : PySem.W.Frag} {x y : V} {H : Hp} {Q : VK} (q : r2 K N fIx x y H Q) : (rIxL K x y H Q ∨ rIxT K x y H Q) ∨ ∃ a v, x = .ref a ∧ DGet H a y (some v) ∧ Q v H := by
  obtain ⟨W, dx, dy, d, η', rfl, o, rx, ry, hf, hq⟩ := q
  have lcase : ∀ {r : Nat} {l : List D} {k : D}, W.η.list r = some l → RelD W (.ref r) x → RelD W k y → (match k with | .int i => (match atD l i with | some d => some (d, W.η) | none => none) | _ => none) = some (d, η') → rIxL K x y W.H Q := by
    intro r l k hl rx ry hf
    cases k with
    | int i =>
      simp only at hf
      cases e : atD l i with
      | none => rw [e] at hf; cases hf
      | some d' =>
        rw [e] at hf
        simp only [Option.some.injEq, Prod.mk.injEq] at hf
        obtain ⟨rfl, rfl⟩ := hf
        obtain ⟨vs, h1, h2, h3⟩ := list_of o hl
        obtain ⟨v, e1, e2⟩ := atD_atI h2 e
        rw [relRef rx, relInt ry]
        exact ⟨_, vs, i, v, rfl, rfl, h1, e1, same_w o hq e2⟩
    | _ => cases hf
  cases dx with
  | tup l =>
    cases dy with
    | int i =>
      simp only [fIx] at hf
      cases e : atD l i with
      | none => rw [e] at hf; cases hf
      | some d' =>
        rw [e] at hf
        simp only [Option.some.injEq, Prod.mk.injEq] at hf
        obtain ⟨rfl, rfl⟩ := hf
        obtain ⟨p, vs, rfl, hs, rs⟩ := relTup rx
        obtain ⟨v, e1, e2⟩ := atD_atI rs e
        rw [relInt ry]
        exact .inl (.inr ⟨p, vs, i, v, rfl, rfl, SqT.of hs, e1, same_w o hq e2⟩)
    | _ => cases hf
  | ftup l =>
    cases dy with
    | int i =>
      simp only [fIx] at hf
      cases e : atD l i with
      | none => rw [e] at hf; cases hf
      | some d' =>
        rw [e] at hf
        simp only [Option.some.injEq, Prod.mk.injEq] at hf
        obtain ⟨rfl, rfl⟩ := hf
        obtain ⟨p, vs, ob, rfl, hs, _, rs⟩ := relFtup rx
        obtain ⟨v, e1, e2⟩ := atD_atI rs e
        rw [relInt ry]
        exact .inl (.inr ⟨p, vs, i, v, rfl, rfl, (.inl (.inr ⟨ob, hs⟩)), e1, same_w o hq e2⟩)
    | _ => cases hf
  | ref r =>
    simp only [fIx] at hf
    cases e : W.η.get r with
    | none => rw [e] at hf; cases hf
    | some c =>
      rw [e] at hf
      cases c with
      | lst l => exact .inl (.inl (lcase (r := r) (l := l) (k := dy) (by unfold Hd.list; rw [e]) rx ry hf))
      | frz l => exact .inl (.inl (lcase (r := r) (l := l) (k := dy) (by unfold Hd.list; rw [e]) rx ry hf))
      | dct t kvs =>
        simp only at hf
        cases ek : isKey t dy with
        | false => rw [ek] at hf; cases hf
        | true =>
          rw [ek] at hf
          simp only at hf
          cases el : dlook dy kvs with
          | none => rw [el] at hf; cases hf
          | some d' =>
            rw [el] at hf
            simp only [Option.some.injEq, Prod.mk.injEq] at hf
            obtain ⟨rfl, rfl⟩ := hf
            obtain ⟨w, g, rw'⟩ := (dget_of o e ek ry).1 _ el
            rw [relRef rx]
            exact .inr ⟨_, w, rfl, g, same_w o hq rw'⟩
      | ldc t kvs =>
        simp only at hf
        cases ek : isKey t dy with
        | false => rw [ek] at hf; cases hf
        | true =>
          rw [ek] at hf
          simp only at hf
          cases el : dlook dy kvs with
          | none => rw [el] at hf; cases hf
          | some d' =>
            rw [el] at hf
            simp only [Option.some.injEq, Prod.mk.injEq] at hf
            obtain ⟨rfl, rfl⟩ := hf
            obtain ⟨w, g, rw'⟩ := (dget_ofL o e ek ry).1 _ el
            rw [relRef rx]
            exact .inr ⟨_, w, rfl, g, same_w o hq rw'⟩
      | _ => cases hf
  | _ => cases hf
theorem je_ix {a b : Expr} {ca cb : CE} {pos : Pos} (hu : X.A.units + 1 < cLine) (ha : JE X N E a ca) (hb : JE X N E b cb) (hs : PlainIx b) : JE X N E (.Subscript a b pos) (cOp fIx ca cb) :=
  PE.imp (pe_ix (IxR.or (IxR.or ix_list ix_tup) (ix_dict hu)) ha hb hs) fun σ H Q q => by
    have h := tOp_of q
    obtain ⟨W, σd, kv, kx, e1, o, s, h1, hv, hx⟩ := h
    exact ⟨W, σd, kv, kx, e1, o, s, h1, fun W1 d v x1 o1 r1 h2 => by
      obtain ⟨W', σd', kv', kx', e1', o', s', h1', hv', hx'⟩ := hv W1 d v x1 o1 r1 h2
      exact ⟨W', σd', kv', kx', e1', o', s', h1', fun W2 d2 v2 x2 o2 r2 h3 => fIx_ok (hv' W2 d2 v2 x2 o2 r2 h3), hx'⟩, hx⟩
end
end DL

/-! slices, built-ins, methods -/
namespace DL
open PySem PySem.Spec L2
section
variable {X : Cx} {N : Nm} {E : XK}
/-! ### slices -/
abbrev CO := SD → Hd → (Option Int → Hd → Bool) → KX → Bool
def tO (K : PySem.W.Frag) (N : Nm) (E : XK) (c : CO) : TO := fun σ H Q => ∃ W σd kv kx, W.H = H ∧ W.Ok K N.toNames ∧ RelS W σd σ ∧ c σd W.η kv kx = true ∧ (∀ W' b, Ext W W' → W'.Ok K N.toNames → kv b W'.η = true → Q b W'.H) ∧ Xk K N E W kx
theorem PO.imp {X : Cx} {e : Option Expr} {t t' : TO} (h : PO X e t) (f : ∀ σ H Q, t' σ H Q → t σ H Q) : PO X e t' := ⟨fun pins s σ H Q I q => h.run pins s σ H Q I (f σ H Q q)⟩
theorem tO.bind {K : PySem.W.Frag} {W : Wl} {kx : KX} {c : CO} {kt : Option Int → Hd → Bool} {σ : St} {σd : SD} {Q' : Option Int → Hp → Prop} (o : W.Ok K N.toNames) (s : RelS W σd σ) (hx : Xk K N E W kx) (h : c σd W.η kt kx = true)
    (hq : ∀ W' b, Ext W W' → W'.Ok K N.toNames → RelS W' σd σ → Xk K N E W' kx → kt b W'.η = true → Q' b W'.H) : tO K N E c σ W.H Q' :=
  ⟨W, σd, kt, kx, rfl, o, s, h, fun W' b x o' e => hq W' b x o' (s.mono o x) (hx.mono o o' x) e, hx⟩
theorem SlR.or {r r' : V → Option Int → Option Int → Hp → VK → Prop} (h : SlR X r) (h' : SlR X r') : SlR X (fun x l u H Q => r x l u H Q ∨ r' x l u H Q) := by
  intro pins s σ H x v vl vu lo hi sl Q I rx hs p1 p2 hh
  rcases hh with hh | hh
  · exact h pins s σ H x v vl vu lo hi sl Q I rx hs p1 p2 hh
  · exact h' pins s σ H x v vl vu lo hi sl Q I rx hs p1 p2 hh
/-! ### built-ins by values -/
abbrev FN := List D → Hd → Option (D × Hd)
def rN (K : PySem.W.Frag) (N : Nm) (f : FN) : List V → Hp → VK → Prop := fun xs H Q => ∃ W ds d η', W.H = H ∧ W.Ok K N.toNames ∧ RelDs W ds xs ∧ f ds W.η = some (d, η') ∧
  (∀ W' v, Ext W W' → W'.Ok K N.toNames → W'.η = η' → RelD W' d v → Q v W'.H)
def cFn (f : FN) (a : CA) : CE := fun σ η kv kx => a σ η (fun ds η1 => match f ds η1 with
  | some (d, η2) => kv d η2
  | none => false) kx
theorem CallR.imp {f : Value} {r r' : List V → Hp → VK → Prop} (h : CallR X f r) (i : ∀ x H Q, r' x H Q → r x H Q) : CallR X f r' :=
  fun pins s σ H x v Q I rx q => h pins s σ H x v Q I rx (i x H Q q)
theorem CallR.or {f : Value} {r r' : List V → Hp → VK → Prop} (h : CallR X f r) (h' : CallR X f r') : CallR X f (fun x H Q => r x H Q ∨ r' x H Q) :=
  fun pins s σ H x v Q I rx q => q.elim (h pins s σ H x v Q I rx) (h' pins s σ H x v Q I rx)
theorem tCB_of {f : FN} {c : CA} {K : PySem.W.Frag} {σ : St} {H : Hp} {Q : VK} (h : tE K N E (cFn f c) σ H Q) : tCB (rN K N f) (tAr K N E c) σ H Q := by
  obtain ⟨W, σd, kv, kx, rfl, o, s, h, hv, hx⟩ := h
  refine tAr.bind o s hx h fun W1 ds vs x1 o1 r1 s1 hx1 h1 => ?_
  cases e : f ds W1.η with
  | none => rw [e] at h1; cases h1
  | some p =>
    obtain ⟨d, η'⟩ := p
    rw [e] at h1
    exact ⟨W1, ds, d, η', rfl, o1, r1, e, fun W' v x3 o3 e3 r3 => hv W' d v (x1.trans o o1 x3) o3 r3 (by rw [e3]; exact h1)⟩
theorem je_blt {x : Str} {id : String} {f : FN} {e : Expr} {es : List Expr} {c : CA} {p pos : Pos} (hc : CallR X (.builtin id) (rN X.K N f)) (hg : Gl X x) (hm : X.mg x = none) (hv : bootBuiltins x = some (.builtin id)) (ha : JA X N E (e :: es) c)
    (hn : x ≠ "__name__" := by decide) (hdb : (x == ("__debug__" : Str)) = false := by decide) (hs : starEach (e :: es) X.env = (false, eval e X.env) :: starEach es X.env := by rfl)
    (hpl : (backTo pos (starEach es X.env)).any (·.1) = false := by rfl) : JE X N E (.Call (.Name x p) (e :: es) [] pos) (cFn f c) :=
  PE.imp (pe_callB hc hg hm hv ha hn hdb hs hpl) fun σ H Q q => tCB_of q
theorem je_ty {x : Str} {T : String} {f : FN} {e : Expr} {es : List Expr} {c : CA} {p pos : Pos} (hc : CallR X (.type T) (rN X.K N f)) (hg : Gl X x) (hm : X.mg x = none) (hv : bootBuiltins x = some (.type T)) (ha : JA X N E (e :: es) c)
    (hn : x ≠ "__name__" := by decide) (hdb : (x == ("__debug__" : Str)) = false := by decide) (hs : starEach (e :: es) X.env = (false, eval e X.env) :: starEach es X.env := by rfl)
    (hpl : (backTo pos (starEach es X.env)).any (·.1) = false := by rfl) : JE X N E (.Call (.Name x p) (e :: es) [] pos) (cFn f c) :=
  PE.imp (pe_callTy hc hg hm hv ha hn hdb hs hpl) fun σ H Q q => tCB_of q
theorem rel1 {W : Wl} {d : D} {vs : List V} (h : RelDs W [d] vs) : ∃ v, vs = [v] ∧ RelD W d v := by
  rw [RelDs] at h
  obtain ⟨v, vs', rfl, h1, h2⟩ := h
  rw [RelDs] at h2
  subst h2
  exact ⟨v, rfl, h1⟩
theorem rel2 {W : Wl} {d e : D} {vs : List V} (h : RelDs W [d, e] vs) : ∃ v u, vs = [v, u] ∧ RelD W d v ∧ RelD W e u := by
  rw [RelDs] at h
  obtain ⟨v, vs', rfl, h1, h2⟩ := h
  obtain ⟨u, rfl, h3⟩ := rel1 h2
  exact ⟨v, u, rfl, h1, h3⟩
/-- f(one thing) -/
def f1 (g : D → Hd → Option (D × Hd)) : FN := fun ds η => match ds with
  | [d] => g d η
  | _ => none
theorem f1_inv {g : D → Hd → Option (D × Hd)} {ds : List D} {η : Hd} {p : D × Hd} (h : f1 g ds η = some p) : ∃ d, ds = [d] ∧ g d η = some p := by
  match ds, h with
  | [d], h => exact ⟨d, rfl, h⟩
  | [], h => cases h
  | _ :: _ :: _, h => cases h
def gLen (d : D) (η : Hd) : Option (D × Hd) := match d with
  | .tup l => some (.int (Int.ofNat l.length), η)
  | .ref r => match η.get r with
    | some (.lst l) => some (.int (Int.ofNat l.length), η)
    | some (.frz l) => some (.int (Int.ofNat l.length), η)
    | _ => none
  | .str z => match Nat.ble z.length line with
    | true => some (.int (Int.ofNat z.length), η)
    | false => none
  | _ => none
def fLen : FN := f1 gLen
theorem blt_len : CallR X (.builtin "len") (rN X.K N fLen) := CallR.imp (CallR.or call_len_seq call_len_str) fun xs H Q q => by
  obtain ⟨W, ds, d, η', rfl, o, rs, hf, hq⟩ := q
  obtain ⟨x, rfl, hg⟩ := f1_inv hf
  clear hf
  have hf := hg
  clear hg
  obtain ⟨v, rfl, rx⟩ := rel1 rs
  cases x with
  | tup l =>
    simp only [gLen, Option.some.injEq, Prod.mk.injEq] at hf
    obtain ⟨rfl, rfl⟩ := hf
    obtain ⟨p, vs, rfl, hs, rs⟩ := relTup rx
    refine .inl ⟨p, vs, rfl, .inr (SqT.of hs), ?_⟩
    rw [← rs.length]; exact same_w o hq mkInt
  | ref r =>
    simp only [gLen] at hf
    cases e : W.η.get r with
    | none => rw [e] at hf; cases hf
    | some c =>
      rw [e] at hf
      have go : ∀ {l : List D}, W.η.list r = some l → some (D.int (Int.ofNat l.length), W.η) = some (d, η') → (∃ p ys, [v] = [V.ref p] ∧ (SqL X.K W.H p ys ∨ SqT X.K W.H p ys) ∧ Q (.int ys.length) W.H) ∨ (∃ z, [v] = [V.str z] ∧ z.length ≤ sizeLine ∧ Q (.int z.length) W.H) := fun {l} hl hf => by
        simp only [Option.some.injEq, Prod.mk.injEq] at hf
        obtain ⟨rfl, rfl⟩ := hf
        obtain ⟨vs, g1, g2, g3⟩ := list_of o hl
        rw [relRef rx]
        refine .inl ⟨_, vs, rfl, .inl g1, ?_⟩
        rw [← g2.length]; exact same_w o hq mkInt
      cases c with
      | lst l => exact go (by unfold Hd.list; rw [e]) hf
      | frz l => exact go (by unfold Hd.list; rw [e]) hf
      | _ => cases hf
  | str z =>
    simp only [gLen] at hf
    cases e : Nat.ble z.length line with
    | false => rw [e] at hf; cases hf
    | true =>
      rw [e] at hf
      simp only [Option.some.injEq, Prod.mk.injEq] at hf
      obtain ⟨rfl, rfl⟩ := hf
      rw [relStr rx]
      exact .inr ⟨z, rfl, Nat.le_of_ble_eq_true e, same_w o hq mkInt⟩
  | _ => cases hf
def gAbs (d : D) (η : Hd) : Option (D × Hd) := match d with
  | .int i => some (.int (if i < 0 then -i else i), η)
  | _ => none
theorem blt_abs : CallR X (.builtin "abs") (rN X.K N (f1 gAbs)) := CallR.imp call_abs fun xs H Q q => by
  obtain ⟨W, ds, d, η', rfl, o, rs, hf, hq⟩ := q
  obtain ⟨x, rfl, hg⟩ := f1_inv hf
  clear hf
  have hf := hg
  clear hg
  obtain ⟨v, rfl, rx⟩ := rel1 rs
  cases x with
  | int i =>
    simp only [gAbs, Option.some.injEq, Prod.mk.injEq] at hf
    obtain ⟨rfl, rfl⟩ := hf
    rw [relInt rx]
    exact ⟨i, rfl, same_w o hq mkInt⟩
  | _ => cases hf
def gInt (d : D) (η : Hd) : Option (D × Hd) := match d with
  | .int i => some (.int i, η)
  | .bl true => some (.int 1, η)
  | .bl false => some (.int 0, η)
  | _ => none
theorem ty_int : CallR X (.type "int") (rN X.K N (f1 gInt)) := CallR.imp call_int1 fun xs H Q q => by
  obtain ⟨W, ds, d, η', rfl, o, rs, hf, hq⟩ := q
  obtain ⟨x, rfl, hg⟩ := f1_inv hf
  clear hf
  have hf := hg
  clear hg
  obtain ⟨v, rfl, rx⟩ := rel1 rs
  cases x with
  | int i =>
    simp only [gInt, Option.some.injEq, Prod.mk.injEq] at hf
    obtain ⟨rfl, rfl⟩ := hf
    rw [relInt rx]
    exact .inl ⟨i, rfl, same_w o hq mkInt⟩
  | bl b =>
    rw [relBl rx]
    cases b with
    | true =>
      simp only [gInt, Option.some.injEq, Prod.mk.injEq] at hf
      obtain ⟨rfl, rfl⟩ := hf
      exact .inr ⟨true, rfl, same_w o hq mkInt⟩
    | false =>
      simp only [gInt, Option.some.injEq, Prod.mk.injEq] at hf
      obtain ⟨rfl, rfl⟩ := hf
      exact .inr ⟨false, rfl, same_w o hq mkInt⟩
  | _ => cases hf
/-- tuple(x), list(x) of a list, a tuple -/
def gTuple (d : D) (η : Hd) : Option (D × Hd) := match d with
  | .tup l => some (.tup l, η)
  | .ref r => match η.list r with
    | some l => some (.tup l, η)
    | none => none
  | _ => none
theorem ty_tuple : CallR X (.type "tuple") (rN X.K N (f1 gTuple)) := CallR.imp call_tuple_of fun xs H Q q => by
  obtain ⟨W, ds, d, η', rfl, o, rs, hf, hq⟩ := q
  obtain ⟨x, rfl, hg⟩ := f1_inv hf
  clear hf
  have hf := hg
  clear hg
  obtain ⟨v, rfl, rx⟩ := rel1 rs
  cases x with
  | tup l =>
    simp only [gTuple, Option.some.injEq, Prod.mk.injEq] at hf
    obtain ⟨rfl, rfl⟩ := hf
    obtain ⟨p, vs, rfl, hs, rs⟩ := relTup rx
    exact ⟨p, vs, rfl, .inr ⟨SqT.of hs, same_w o hq (mkTup hs rs)⟩⟩
  | ref r =>
    simp only [gTuple] at hf
    cases e : W.η.list r with
    | none => rw [e] at hf; cases hf
    | some l =>
      rw [e] at hf
      simp only [Option.some.injEq, Prod.mk.injEq] at hf
      obtain ⟨rfl, rfl⟩ := hf
      obtain ⟨vs, g1, g2, g3⟩ := list_of o e
      rw [relRef rx]
      exact ⟨_, vs, rfl, .inl ⟨g1, fun p hp => new_tup o hq hp g2⟩⟩
  | _ => cases hf
def gList (d : D) (η : Hd) : Option (D × Hd) := match d with
  | .tup l => match Nat.ble l.length line with
    | true => some (.ref η.nx, η.new (.lst l))
    | false => none
  | .ref r => match η.list r with
    | some l => some (.ref η.nx, η.new (.lst l))
    | none => none
  | _ => none
theorem ty_list : CallR X (.type "list") (rN X.K N (f1 gList)) := CallR.imp call_list_of fun xs H Q q => by
  obtain ⟨W, ds, d, η', rfl, o, rs, hf, hq⟩ := q
  obtain ⟨x, rfl, hg⟩ := f1_inv hf
  clear hf
  have hf := hg
  clear hg
  obtain ⟨v, rfl, rx⟩ := rel1 rs
  cases x with
  | tup l =>
    simp only [gList] at hf
    cases e : Nat.ble l.length line with
    | false => rw [e] at hf; cases hf
    | true =>
      rw [e] at hf
      simp only [Option.some.injEq, Prod.mk.injEq] at hf
      obtain ⟨rfl, rfl⟩ := hf
      obtain ⟨p, vs, rfl, hs, rs⟩ := relTup rx
      exact ⟨p, vs, rfl, .inr (SqT.of hs), fun p hp => new_lst o hq hp rs (Nat.le_of_ble_eq_true e)⟩
  | ref r =>
    simp only [gList] at hf
    cases e : W.η.list r with
    | none => rw [e] at hf; cases hf
    | some l =>
      rw [e] at hf
      simp only [Option.some.injEq, Prod.mk.injEq] at hf
      obtain ⟨rfl, rfl⟩ := hf
      obtain ⟨vs, g1, g2, g3⟩ := list_of o e
      rw [relRef rx]
      exact ⟨_, vs, rfl, .inl g1, fun p hp => new_lst o hq hp g2 g3⟩
  | _ => cases hf

/-! ### methods of lists -/
abbrev FM := D → List D → Hd → Option (D × Hd)
def rM (K : PySem.W.Frag) (N : Nm) (f : FM) : V → List V → Hp → VK → Prop := fun x xs H Q => ∃ W dx ds d η', W.H = H ∧ W.Ok K N.toNames ∧ RelD W dx x ∧ RelDs W ds xs ∧ f dx ds W.η = some (d, η') ∧
  (∀ W' v, Ext W W' → W'.Ok K N.toNames → W'.η = η' → RelD W' d v → Q v W'.H)
def isL (η : Hd) : D → Bool
  | .ref r => (η.list r).isSome
  | _ => false
def cMt (f : FM) (o : CE) (a : CA) : CE := fun σ η kv kx => o σ η (fun x η1 => match isL η1 x with
  | true => a σ η1 (fun ds η2 => match f x ds η2 with
    | some (d, η3) => kv d η3
    | none => false) kx
  | false => false) kx
theorem MtR.imp {id : String} {r r' : V → List V → Hp → VK → Prop} (h : MtR X id r) (i : ∀ x xs H Q, r' x xs H Q → r x xs H Q) : MtR X id r' :=
  fun pins s σ H x xs v us Q I rx rxs q => h pins s σ H x xs v us Q I rx rxs (i x xs H Q q)
theorem isL_ty {K : PySem.W.Frag} {W : Wl} {d : D} {v : V} (o : W.Ok K N.toNames) (r : RelD W d v) (h : isL W.η d = true) : tyV K "list" v W.H := by
  cases d with
  | ref q =>
    simp only [isL] at h
    obtain ⟨l, e⟩ := Option.isSome_iff_exists.mp h
    obtain ⟨vs, g1, g2, g3⟩ := list_of o e
    rw [relRef r]
    exact .inl ⟨rfl, vs, g1⟩
  | _ => cases h
theorem tBM_of {f : FM} {co : CE} {c : CA} {K : PySem.W.Frag} {σ : St} {H : Hp} {Q : VK} (h : tE K N E (cMt f co c) σ H Q) : tBM K "list" (rM K N f) (tE K N E co) (tAr K N E c) σ H Q := by
  obtain ⟨W, σd, kv, kx, rfl, o, s, h, hv, hx⟩ := h
  refine tE.bind o s hx h fun W1 d v x1 o1 r1 s1 hx1 h1 => ?_
  cases el : isL W1.η d with
  | false => rw [el] at h1; cases h1
  | true =>
    rw [el] at h1
    refine ⟨isL_ty o1 r1 el, ?_⟩
    refine tAr.bind o1 s1 hx1 h1 fun W2 ds vs x2 o2 r2 s2 hx2 h2 => ?_
    cases e : f d ds W2.η with
    | none => rw [e] at h2; cases h2
    | some p =>
      obtain ⟨d', η'⟩ := p
      rw [e] at h2
      exact ⟨W2, d, ds, d', η', rfl, o2, r1.mono o1 x2, r2, e, fun W' v x3 o3 e3 r3 => hv W' d' v ((x1.trans o o1 x2).trans o o2 x3) o3 r3 (by rw [e3]; exact h2)⟩
/-- a list's cell changed -/
theorem put_lst {K : PySem.W.Frag} {W : Wl} {Q : VK} {r : Nat} {l l' : List D} {vs' : List V} {d : D} {v : V} (o : W.Ok K N.toNames) (e : W.η.get r = some (.lst l))
    (q : ∀ W' v, Ext W W' → W'.Ok K N.toNames → W'.η = W.η.set r (.lst l') → RelD W' d v → Q v W'.H) (rl : RelDs W l' vs') (hl : l'.length ≤ sizeLine) (rd : RelD W d v) : Q v (upd W.H (W.μ r) (.lst vs')) := by
  obtain ⟨x, o'⟩ := o.put (c := .lst l') (ob := .lst vs') e rfl (fun x => ⟨vs', upd_same, rl.mono o x, hl⟩)
  exact q (W.put r (.lst l') (.lst vs')) v x o' rfl (rd.mono o x)
def fAppend : FM := fun x ds η => match x, ds with
  | .ref r, [d] => match η.get r with
    | some (.lst l) => match Nat.blt l.length line with
      | true => some (.non, η.set r (.lst (l ++ [d])))
      | false => none
    | _ => none
  | _, _ => none
theorem mtd_append : MtR X "list.append" (rM X.K N fAppend) := MtR.imp mt_append fun x xs H Q q => by
  obtain ⟨W, dx, ds, d, η', rfl, o, rx, rs, hf, hq⟩ := q
  cases dx with
  | ref r =>
    match ds, rs, hf with
    | [y], rs, hf =>
      obtain ⟨v, rfl, ry⟩ := rel1 rs
      simp only [fAppend] at hf
      cases e : W.η.get r with
      | none => rw [e] at hf; cases hf
      | some c =>
        rw [e] at hf
        cases c with
        | lst l =>
          simp only at hf
          cases eb : Nat.blt l.length line with
          | false => rw [eb] at hf; cases hf
          | true =>
            rw [eb] at hf
            simp only [Option.some.injEq, Prod.mk.injEq] at hf
            obtain ⟨rfl, rfl⟩ := hf
            obtain ⟨vs, g1, g2, g3⟩ := o.cell r _ e
            have hb : l.length < sizeLine := Nat.le_of_ble_eq_true eb
            rw [relRef rx]
            refine ⟨_, vs, v, rfl, rfl, g1, by rw [← g2.length]; exact hb, ?_⟩
            exact put_lst o e hq (g2.append (.cons ry .nil)) (by rw [List.length_append]; show l.length + 1 ≤ sizeLine; omega) mkNon
        | _ => cases hf
    | [], rs, hf => cases hf
    | _ :: _ :: _, rs, hf => cases hf
  | _ => cases hf
def ixD (n : Nat) : Int → Option Nat
  | .ofNat k => match Nat.blt k n with
    | true => some k
    | false => none
  | .negSucc k => match Nat.ble (k + 1) n with
    | true => some (n - (k + 1))
    | false => none
end
end DL

/-! cells frozen, dropped and laid again -/
namespace DL
open PySem PySem.Spec L2
section
variable {K : PySem.W.Frag} {N : Names} {W W1 W2 Wg : Wl}
/-! ### what a value's relation leans on -/
structure Tx (W W' : Wl) : Prop where
  nx : W.η.nx ≤ W'.η.nx
  mu : ∀ r, r < W.η.nx → W'.μ r = W.μ r
  tp : ∀ a vs, W.H a = some (.tup vs) → W'.H a = some (.tup vs)
  tf : ∀ a ob vs, W.H a = some (.frz ob (.tup vs)) → W'.H a = some (.frz ob (.tup vs))
theorem Ext.tx (o : W.Ok K N) (x : Ext W W1) : Tx W W1 := ⟨x.nx, x.mu, fun a vs h => x.sqT o h, fun a ob vs h => x.fr a _ h (fun _ z => nomatch z) (o.nocell h (.inr (.inl ⟨_, _, rfl⟩)))⟩
mutual
theorem RelD.tx (x : Tx W W1) : ∀ {d : D} {v : V}, RelD W d v → RelD W1 d v
  | .non, v, h => by rw [RelD] at *; exact h
  | .bl b, v, h => by rw [RelD] at *; exact h
  | .int i, v, h => by rw [RelD] at *; exact h
  | .str s, v, h => by rw [RelD] at *; exact h
  | .ref r, v, h => by rw [RelD] at *; exact ⟨Nat.lt_of_lt_of_le h.1 x.nx, by rw [x.mu r h.1]; exact h.2⟩
  | .tup ds, v, h => by
    rw [RelD] at *
    obtain ⟨a, vs, e, h1, h2⟩ := h
    exact ⟨a, vs, e, x.tp a vs h1, RelDs.tx x h2⟩
  | .ftup ds, v, h => by
    rw [RelD] at *
    obtain ⟨a, vs, ob, e, h1, h3, h2⟩ := h
    exact ⟨a, vs, ob, e, x.tf a ob vs h1, h3, RelDs.tx x h2⟩
theorem RelDs.tx (x : Tx W W1) : ∀ {ds : List D} {vs : List V}, RelDs W ds vs → RelDs W1 ds vs
  | [], vs, h => by rw [RelDs] at *; exact h
  | d :: ds, vs, h => by
    rw [RelDs] at *
    obtain ⟨v, vs', e, h1, h2⟩ := h
    exact ⟨v, vs', e, RelD.tx x h1, RelDs.tx x h2⟩
end
theorem RelFs.tx (x : Tx W W1) : ∀ {fs : List (Nat × D)} {gs : List (Str × V)}, RelFs W N fs gs → RelFs W1 N fs gs
  | [], vs, h => by rw [RelFs] at *; exact h
  | (k, d) :: ds, vs, h => by
    rw [RelFs] at *
    obtain ⟨v, vs', e, h1, h2⟩ := h
    exact ⟨v, vs', e, RelD.tx x h1, RelFs.tx x h2⟩
theorem RelK.tx (x : Tx W W1) : ∀ {fs : List (D × D)} {gs : List (Key × V)}, RelK W fs gs → RelK W1 fs gs
  | [], vs, h => by rw [RelK] at *; exact h
  | (k, d) :: ds, vs, h => by
    rw [RelK] at *
    obtain ⟨k', v, vs', e, h0, h1, h2⟩ := h
    exact ⟨k', v, vs', e, h0, RelD.tx x h1, RelK.tx x h2⟩
theorem RelT.tx (x : Tx W W1) : ∀ {fs : List (D × D)} {gs : List (List Key × V)}, RelT W fs gs → RelT W1 fs gs
  | [], vs, h => by rw [RelT] at *; exact h
  | (k, d) :: ds, vs, h => by
    rw [RelT] at *
    obtain ⟨k', v, vs', e, h0, h1, h2⟩ := h
    exact ⟨k', v, vs', e, h0, RelD.tx x h1, RelT.tx x h2⟩
theorem TupA.tx (x : Tx W W1) {a : Addr} {vs : List V} (h : TupA W.H a vs) : TupA W1.H a vs := h.imp (x.tp a vs) fun ⟨ob, h⟩ => ⟨ob, x.tf a ob vs h⟩
theorem RowsV.tx (x : Tx W W1) : ∀ {k : RK} {vs : List V}, RowsV W.H k vs → RowsV W1.H k vs
  | [], vs, h => by rw [RowsV] at *; exact h
  | k :: ks, vs, h => by
    rw [RowsV] at *
    obtain ⟨c, vs', e, h1, h2⟩ := h
    exact ⟨c, vs', e, h1.tx x, RowsV.tx x h2⟩
theorem RowsA.tx (x : Tx W W1) {a : Addr} {k : RK} (h : RowsA W.H a k) : RowsA W1.H a k := by
  obtain ⟨vs, h1, h2⟩ := h
  exact ⟨vs, h1.tx x, h2.tx x⟩
theorem RelC.tx (x : Tx W W1) {a : Addr} {c : Cell} (h : RelC K N W a c) (e : ∀ ob, noT ob → W.H a = some ob → W1.H a = some ob) : RelC K N W1 a c := by
  cases c with
  | lst l => obtain ⟨vs, h1, h2, h3⟩ := h; exact ⟨vs, e _ (fun _ z => nomatch z) h1, h2.tx x, h3⟩
  | frz l => obtain ⟨vs, h1, h2, h3⟩ := h; exact ⟨vs, e _ (fun _ z => nomatch z) h1, h2.tx x, h3⟩
  | dice => obtain ⟨p, q, r, h⟩ := h; exact ⟨p, q, r, e _ (fun _ z => nomatch z) h⟩
  | dct t l =>
    cases t
    · obtain ⟨vs, h1, h2, h3⟩ := h; exact ⟨vs, e _ (fun _ z => nomatch z) h1, h2.tx x, h3⟩
    · obtain ⟨vs, h1, h2, h3⟩ := h; exact ⟨vs, e _ (fun _ z => nomatch z) h1, h2.tx x, h3⟩
  | ldc t l =>
    cases t
    · obtain ⟨vs, ob, h1, h2, h3⟩ := h; exact ⟨vs, ob, e _ (fun _ z => nomatch z) h1, h2.tx x, h3⟩
    · obtain ⟨vs, ob, h1, h2, h3⟩ := h; exact ⟨vs, ob, e _ (fun _ z => nomatch z) h1, h2.tx x, h3⟩
  | dcr ks => obtain ⟨xs, h1, h2, h3, h4⟩ := h; exact ⟨xs, e _ (fun _ z => nomatch z) h1, h2, fun y hy => (h3 y hy).tx x, h4⟩
  | ins c l => obtain ⟨dx, vs, h1, h2, h3⟩ := h; exact ⟨dx, vs, e _ (fun _ z => nomatch z) h1, h2.tx x, h3⟩
/-! ### a cell dropped and laid again -/
def Hd.add (η : Hd) (g : Nat) (c : Cell) : Hd := ⟨η.nx, (g, c) :: η.cs⟩
theorem Hd.get_add (η : Hd) (g : Nat) (c : Cell) (q : Nat) : (η.add g c).get q = if q = g then some c else η.get q := by
  unfold Hd.get Hd.add
  by_cases h : q = g
  · subst h
    have e2 : Nat.beq q q = true := Nat.beq_refl _
    simp [look, e2]
  · have e2 : Nat.beq g q = false := by
      cases z : Nat.beq g q with
      | false => rfl
      | true => exact absurd (Nat.eq_of_beq_eq_true z).symm h
    simp [look, e2, h]
/-- W is Wg without the cell g; behind a step the cell is laid again -/
theorem Wl.Ok.readd (o : Wg.Ok K N) {g : Nat} {c : Cell} (h : Wg.η.get g = some c) {η0 : Hd} (hn : η0.nx = Wg.η.nx) (h0 : ∀ q, η0.get q = if q = g then none else Wg.η.get q)
    (x : Ext ⟨Wg.μ, η0, Wg.H⟩ W2) (o2 : W2.Ok K N) : Ext Wg ⟨W2.μ, W2.η.add g c, W2.H⟩ ∧ Wl.Ok K N ⟨W2.μ, W2.η.add g c, W2.H⟩ := by
  have hg : g < Wg.η.nx := o.lt g c h
  have nx : Wg.η.nx ≤ W2.η.nx := by have := x.nx; show Wg.η.nx ≤ _; rw [← hn]; exact this
  have mu : ∀ r, r < Wg.η.nx → W2.μ r = Wg.μ r := fun r hr => x.mu r (by show r < η0.nx; rw [hn]; exact hr)
  have keep : ∀ ob, noT ob → Wg.H (Wg.μ g) = some ob → W2.H (Wg.μ g) = some ob := fun ob ht hb => x.fr _ _ hb ht fun q d e md => by
    have e' : η0.get q = some d := e
    rw [h0] at e'
    by_cases z : q = g
    · rw [if_pos z] at e'; cases e'
    · rw [if_neg z] at e'; exact o.apart h e' z
  have ga : ∀ q, (W2.η.add g c).get q = if q = g then some c else W2.η.get q := fun q => Hd.get_add _ _ _ _
  have xx : Ext Wg ⟨W2.μ, W2.η.add g c, W2.H⟩ := by
    refine ⟨nx, mu, fun a u ha ht hna => ?_, fun a u ha => x.th a u ha, fun q d e => ?_⟩
    · exact x.fr a u ha ht fun q d e md => by
        have e' : η0.get q = some d := e
        rw [h0] at e'
        by_cases z : q = g
        · rw [if_pos z] at e'; cases e'
        · rw [if_neg z] at e'; exact hna q d e' md
    · have e' : (W2.η.add g c).get q = some d := e
      rw [ga] at e'
      by_cases z : q = g
      · rw [if_pos z] at e'; cases e'; exact .inl ⟨c, by rw [z]; exact h, id⟩
      · rw [if_neg z] at e'
        rcases x.cs q d e' with ⟨c0, e0, m0⟩ | ⟨h1, h2⟩
        · have e0' : η0.get q = some c0 := e0
          rw [h0, if_neg z] at e0'
          exact .inl ⟨c0, e0', m0⟩
        · exact .inr ⟨by have : η0.nx ≤ q := h1; omega, h2⟩
  have tg : Tx Wg ⟨W2.μ, W2.η.add g c, W2.H⟩ := xx.tx o
  have t2 : Tx W2 ⟨W2.μ, W2.η.add g c, W2.H⟩ := ⟨Nat.le_refl _, fun _ _ => rfl, fun _ _ e => e, fun _ _ _ e => e⟩
  have ap : ∀ q d, W2.η.get q = some d → q ≠ g → W2.μ q ≠ Wg.μ g := fun q d e y z => by
    rcases x.cs q d e with ⟨c0, e0, m0⟩ | ⟨h1, h2⟩
    · have e0' : η0.get q = some c0 := e0
      rw [h0, if_neg y] at e0'
      rw [mu q (o.lt q c0 e0')] at z
      exact o.apart h e0' y z
    · obtain ⟨ob, hob, ht⟩ := o.there h
      have h2' : NoC Wg.H (W2.μ q) := h2
      rw [z] at h2'; exact h2' ob hob ht
  refine ⟨xx, fun q d e => ?_, fun q d e => ?_, fun q s d1 d2 e1 e2 e => ?_, o2.tab⟩
  · have e' : (W2.η.add g c).get q = some d := e
    rw [ga] at e'
    show q < W2.η.nx
    by_cases z : q = g
    · omega
    · rw [if_neg z] at e'; exact o2.lt q d e'
  · have e' : (W2.η.add g c).get q = some d := e
    rw [ga] at e'
    by_cases z : q = g
    · rw [if_pos z] at e'; cases e'
      show RelC K N _ (W2.μ q) c
      rw [z, mu g hg]
      exact (o.cell g c h).tx tg keep
    · rw [if_neg z] at e'; exact (o2.cell q d e').tx t2 (fun _ _ e => e)
  · have e1' : (W2.η.add g c).get q = some d1 := e1
    have e2' : (W2.η.add g c).get s = some d2 := e2
    have e' : W2.μ q = W2.μ s := e
    rw [ga] at e1' e2'
    by_cases z : q = g
    · by_cases y : s = g
      · exact z.trans y.symm
      · rw [if_neg y] at e2'
        rw [z, mu g hg] at e'
        exact absurd e'.symm (ap s d2 e2' y)
    · rw [if_neg z] at e1'
      by_cases y : s = g
      · rw [y, mu g hg] at e'
        exact absurd e' (ap q d1 e1' z)
      · rw [if_neg y] at e2'
        exact o2.inj q s d1 d2 e1' e2' e'
/-! ### freeze -/
def frzAt (r : Nat) (l : List D) (η : Hd) : Hd := η.set r (.frz l)
def unfAt (r : Nat) (l : List D) (η : Hd) : Hd := η.set r (.lst l)
theorem Wl.Ok.freeze (o : W.Ok K N) {r : Nat} {l : List D} (h : W.η.get r = some (.lst l)) : Ext W ⟨W.μ, frzAt r l W.η, W.H⟩ ∧ Wl.Ok K N ⟨W.μ, frzAt r l W.η, W.H⟩ := by
  have gs : ∀ q, (frzAt r l W.η).get q = if q = r then some (.frz l) else W.η.get q := fun q => by
    have := Hd.get_set W.η r (.frz l) q
    rw [h] at this
    exact this
  have x : Ext W ⟨W.μ, frzAt r l W.η, W.H⟩ := by
    refine ⟨Nat.le_refl _, fun _ _ => rfl, fun _ _ e _ _ => e, fun a u e t => ⟨u, e, t⟩, fun q c e => ?_⟩
    have e' : (frzAt r l W.η).get q = some c := e
    rw [gs] at e'
    by_cases z : q = r
    · rw [if_pos z] at e'; cases e'; exact .inl ⟨.lst l, by rw [z]; exact h, fun m => by cases m⟩
    · rw [if_neg z] at e'; exact .inl ⟨c, e', id⟩
  have orig : ∀ q c, (frzAt r l W.η).get q = some c → ∃ c0, W.η.get q = some c0 := fun q c e => by
    rw [gs] at e
    by_cases z : q = r
    · exact ⟨_, by rw [z]; exact h⟩
    · rw [if_neg z] at e; exact ⟨c, e⟩
  refine ⟨x, fun q c e => ?_, fun q c e => ?_, fun q s c d e1 e2 e => ?_, o.tab⟩
  · obtain ⟨c0, e0⟩ := orig q c e; exact o.lt q c0 e0
  · have e' : (frzAt r l W.η).get q = some c := e
    rw [gs] at e'
    by_cases z : q = r
    · rw [if_pos z] at e'; cases e'
      obtain ⟨vs, h1, h2, h3⟩ := o.cell r _ h
      exact ⟨vs, by rw [z]; exact h1, h2.mono o x, h3⟩
    · rw [if_neg z] at e'; exact (o.cell q c e').mono o x (fun _ _ e => e)
  · obtain ⟨c0, e0⟩ := orig q c e1
    obtain ⟨d0, f0⟩ := orig s d e2
    exact o.inj q s c0 d0 e0 f0 e
theorem Wl.Ok.unfreeze (o : W.Ok K N) {r : Nat} {l : List D} (h : W.η.get r = some (.lst l)) (x1 : Ext ⟨W.μ, frzAt r l W.η, W.H⟩ W1) (o1 : W1.Ok K N) : Ext W ⟨W1.μ, unfAt r l W1.η, W1.H⟩ ∧ Wl.Ok K N ⟨W1.μ, unfAt r l W1.η, W1.H⟩ := by
  obtain ⟨xf, of⟩ := o.freeze h
  have x01 : Ext W W1 := xf.trans o of x1
  have hr : r < W.η.nx := o.lt r _ h
  have hm : W1.μ r = W.μ r := x01.mu r hr
  obtain ⟨vs, h1, h2, h3⟩ := o.cell r _ h
  have gf : ∀ q, (frzAt r l W.η).get q = if q = r then some (.frz l) else W.η.get q := fun q => by
    have := Hd.get_set W.η r (.frz l) q
    rw [h] at this
    exact this
  have hH : W1.H (W.μ r) = some (.lst vs) := x1.fr _ _ h1 (fun _ z => nomatch z) fun q c e m z => by
    have e' : (frzAt r l W.η).get q = some c := e
    rw [gf] at e'
    by_cases y : q = r
    · rw [if_pos y] at e'; cases e'; cases m
    · rw [if_neg y] at e'
      exact o.apart h e' y z
  have gs : ∀ q, (unfAt r l W1.η).get q = if q = r then (W1.η.get r).map (fun _ => Cell.lst l) else W1.η.get q := fun q => Hd.get_set W1.η r (.lst l) q
  have x2 : Ext W ⟨W1.μ, unfAt r l W1.η, W1.H⟩ := by
    refine ⟨x01.nx, x01.mu, x01.fr, x01.th, fun q c e => ?_⟩
    have e' : (unfAt r l W1.η).get q = some c := e
    rw [gs] at e'
    by_cases z : q = r
    · exact .inl ⟨.lst l, by rw [z]; exact h, fun _ => rfl⟩
    · rw [if_neg z] at e'; exact x01.cs q c e'
  have t2 : Tx W1 ⟨W1.μ, unfAt r l W1.η, W1.H⟩ := ⟨Nat.le_refl _, fun _ _ => rfl, fun _ _ e => e, fun _ _ _ e => e⟩
  have orig : ∀ q c, (unfAt r l W1.η).get q = some c → ∃ c0, W1.η.get q = some c0 := fun q c e => by
    rw [gs] at e
    by_cases z : q = r
    · rw [if_pos z] at e
      cases y : W1.η.get r with
      | none => rw [y] at e; cases e
      | some c0 => exact ⟨c0, by rw [z]; exact y⟩
    · rw [if_neg z] at e; exact ⟨c, e⟩
  refine ⟨x2, fun q c e => ?_, fun q c e => ?_, fun q s c d e1 e2 e => ?_, o1.tab⟩
  · obtain ⟨c0, e0⟩ := orig q c e; exact o1.lt q c0 e0
  · have e' : (unfAt r l W1.η).get q = some c := e
    rw [gs] at e'
    by_cases z : q = r
    · rw [if_pos z] at e'
      cases y : W1.η.get r with
      | none => rw [y] at e'; cases e'
      | some c0 =>
        rw [y] at e'; cases e'
        refine ⟨vs, ?_, h2.mono o x2, h3⟩
        show W1.H (W1.μ q) = some (.lst vs)
        rw [z, hm]; exact hH
    · rw [if_neg z] at e'; exact (o1.cell q c e').tx t2 (fun _ _ e => e)
  · obtain ⟨c0, e0⟩ := orig q c e1
    obtain ⟨d0, f0⟩ := orig s d e2
    exact o1.inj q s c0 d0 e0 f0 e
end
end DL

/-! statements, loops -/
namespace DL
open PySem PySem.Spec L2
section
variable {X : Cx} {N : Nm} {E : XK}
/-! ### blocks -/
def sNil : CS := fun σ η k => k.nx σ η
def sSeq (a b : CS) : CS := fun σ η k => a σ η { k with nx := fun σ1 η1 => b σ1 η1 k }
theorem Sk.next {K : PySem.W.Frag} {W : Wl} {k : KS} {Z : Ends} {nx : SD → Hd → Bool} {Qn : St → Hp → Prop} (h : Sk K N E W k Z) (hn : ∀ W' σd σ, Ext W W' → W'.Ok K N.toNames → RelS W' σd σ → nx σd W'.η = true → Qn σ W'.H) : Sk K N E W { k with nx := nx } { Z with nx := Qn } :=
  ⟨hn, h.rt, h.bk, h.ct, h.xc⟩
theorem jb_nil : JB X N E [] sNil := PSs.imp pss_nil fun Z σ H q => by
  obtain ⟨W, σd, k, rfl, o, s, h, hk⟩ := q
  exact hk.nx W σd σ (Ext.refl W) o s h
theorem jb_cons {st : Stmt} {rest : List Stmt} {a b : CS} (h1 : JS X N E st a) (h2 : JB X N E rest b) : JB X N E (st :: rest) (sSeq a b) := PSs.imp (pss_cons h1 h2) fun Z σ H q => by
  obtain ⟨W, σd, k, rfl, o, s, h, hk⟩ := q
  exact ⟨W, σd, { k with nx := fun σ1 η1 => b σ1 η1 k }, rfl, o, s, h, hk.next fun W1 σd1 σ1 x1 o1 s1 e1 => ⟨W1, σd1, k, rfl, o1, s1, e1, hk.mono o o1 x1⟩⟩
theorem jb_one {st : Stmt} {a : CS} (h1 : JS X N E st a) : JB X N E [st] a := pss_one h1
def sCont : CS := fun σ η k => k.ct σ η
theorem js_cont {pos : Pos} : JS X N E (.Continue pos) sCont := PS.imp ps_continue fun Z σ H q => by
  obtain ⟨W, σd, k, rfl, o, s, h, hk⟩ := q
  exact hk.ct W σd σ (Ext.refl W) o s h
def sExpr (c : CE) : CS := fun σ η k => c σ η (fun _ η1 => k.nx σ η1) k.xc
theorem js_expr {e : Expr} {c : CE} {pos : Pos} (h : JE X N E e c) (hs : swapsWith e none pos.line X.env = pure false := by rfl) : JS X N E (.Expr e pos) (sExpr c) := PS.imp (ps_expr h hs) fun Z σ H q => by
  obtain ⟨W, σd, k, rfl, o, s, h, hk⟩ := q
  exact tE.bind o s hk.xc h fun W1 d v x1 o1 r1 s1 hx1 h1 => hk.nx W1 σd σ x1 o1 s1 h1
def sRet (c : CE) : CS := fun σ η k => c σ η k.rt k.xc
theorem js_ret {e : Expr} {c : CE} {pos : Pos} (h : JE X N E e c) : JS X N E (.Return (some e) pos) (sRet c) := PS.imp (ps_ret h) fun Z σ H q => by
  obtain ⟨W, σd, k, rfl, o, s, h, hk⟩ := q
  exact tE.bind o s hk.xc h fun W1 d v x1 o1 r1 s1 hx1 h1 => hk.rt W1 d v x1 o1 r1 h1
def sIf (t : CT) (a b : CS) : CS := fun σ η k => t σ η (fun x η1 => match x with
  | true => a σ η1 k
  | false => b σ η1 k) k.xc
theorem js_if {c : Expr} {a b : List Stmt} {ct : CT} {ca cb : CS} {pos : Pos} (hc : JT X N E c ct) (ha : JB X N E a ca) (hb : JB X N E b cb) : JS X N E (.If c a b pos) (sIf ct ca cb) := PS.imp (ps_if hc ha hb) fun Z σ H q => by
  obtain ⟨W, σd, k, rfl, o, s, h, hk⟩ := q
  refine tT.bind o s hk.xc h fun W1 b x1 o1 s1 hx1 h1 => ?_
  cases b with
  | true => rw [if_pos rfl]; exact ⟨W1, σd, k, rfl, o1, s1, h1, hk.mono o o1 x1⟩
  | false => rw [if_neg (by decide)]; exact ⟨W1, σd, k, rfl, o1, s1, h1, hk.mono o o1 x1⟩

/-! ### targets -/
abbrev CG := D → SD → Hd → (SD → Hd → Bool) → KX → Bool
abbrev CGs := List D → SD → Hd → (SD → Hd → Bool) → KX → Bool
def Gk (K : PySem.W.Frag) (N : Nm) (W : Wl) (k : SD → Hd → Bool) (Q : St → Hp → Prop) : Prop := ∀ W' σd σ, Ext W W' → W'.Ok K N.toNames → RelS W' σd σ → k σd W'.η = true → Q σ W'.H
theorem Gk.mono {K : PySem.W.Frag} {W W' : Wl} {k : SD → Hd → Bool} {Q : St → Hp → Prop} (o : W.Ok K N.toNames) (o' : W'.Ok K N.toNames) (x : Ext W W') (h : Gk K N W k Q) : Gk K N W' k Q := fun W2 a b y => h W2 a b (x.trans o o' y)
def tG (K : PySem.W.Frag) (N : Nm) (E : XK) (c : CG) : TG := fun v σ H Q => ∃ W d σd k kx, W.H = H ∧ W.Ok K N.toNames ∧ RelD W d v ∧ RelS W σd σ ∧ c d σd W.η k kx = true ∧ Gk K N W k Q ∧ Xk K N E W kx
def tGs (K : PySem.W.Frag) (N : Nm) (E : XK) (c : CGs) : TGs := fun vs σ H Q => ∃ W ds σd k kx, W.H = H ∧ W.Ok K N.toNames ∧ RelDs W ds vs ∧ RelS W σd σ ∧ c ds σd W.η k kx = true ∧ Gk K N W k Q ∧ Xk K N E W kx
def JG (X : Cx) (N : Nm) (E : XK) (e : Expr) (c : CG) : Prop := PG X e (tG X.K N E c)
def JGs (X : Cx) (N : Nm) (E : XK) (e : List Expr) (c : CGs) : Prop := PGs X e (tGs X.K N E c)
theorem PG.imp {e : Expr} {t t' : TG} (h : PG X e t) (f : ∀ v σ H Q, t' v σ H Q → t v σ H Q) : PG X e t' := ⟨fun pins s σ H v u Q I r q => h.run pins s σ H v u Q I r (f v σ H Q q)⟩
theorem PGs.imp {e : List Expr} {t t' : TGs} (h : PGs X e t) (f : ∀ v σ H Q, t' v σ H Q → t v σ H Q) : PGs X e t' := ⟨fun pins s σ H v u Q I r q => h.run pins s σ H v u Q I r (f v σ H Q q)⟩
def gNm (i : Nat) : CG := fun d σ η k _ => k (σ.set i (some d)) η
theorem jg_name {i : Nat} {x : Str} {pos : Pos} (h : PG X (.Name x pos) (gName i)) : JG X N E (.Name x pos) (gNm i) := PG.imp h fun v σ H Q q => by
  obtain ⟨W, d, σd, k, kx, rfl, o, r, s, h, hk, hx⟩ := q
  exact hk W _ _ (Ext.refl W) o (s.set i r) h
def gsNil : CGs := fun ds σ η k _ => match ds with
  | [] => k σ η
  | _ => false
def gsCons (g : CG) (r : CGs) : CGs := fun ds σ η k kx => match ds with
  | d :: ds' => g d σ η (fun σ1 η1 => r ds' σ1 η1 k kx) kx
  | [] => false
theorem jgs_nil : JGs X N E [] gsNil := PGs.imp pgs_nil fun v σ H Q q => by
  obtain ⟨W, ds, σd, k, kx, rfl, o, r, s, h, hk, hx⟩ := q
  cases ds with
  | nil => rw [RelDs] at r; exact ⟨r, hk W _ _ (Ext.refl W) o s h⟩
  | cons _ _ => cases h
theorem jgs_cons {e : Expr} {es : List Expr} {g : CG} {r : CGs} (hg : JG X N E e g) (hr : JGs X N E es r) (ha : ((assignEach (e :: es) X.env).map (·.2)) = assign e X.env :: ((assignEach es X.env).map (·.2)) := by rfl) : JGs X N E (e :: es) (gsCons g r) := PGs.imp (pgs_cons hg hr ha) fun v σ H Q q => by
  obtain ⟨W, ds, σd, k, kx, rfl, o, rr, s, h, hk, hx⟩ := q
  cases ds with
  | nil => cases h
  | cons d ds =>
    rw [RelDs] at rr
    obtain ⟨v, vs, rfl, r1, r2⟩ := rr
    exact ⟨v, vs, rfl, W, d, σd, _, kx, rfl, o, r1, s, h, fun W1 σd1 σ1 x1 o1 s1 h1 => ⟨W1, ds, σd1, k, kx, rfl, o1, r2.mono o x1, s1, h1, hk.mono o o1 x1, hx.mono o o1 x1⟩, hx⟩
def gTp (n : Nat) (r : CGs) : CG := fun d σ η k kx => match d with
  | .tup ds => match Nat.beq ds.length n with
    | true => r ds σ η k kx
    | false => false
  | _ => false
theorem jg_tup {es : List Expr} {kk : Nat} {pos : Pos} {r : CGs} {n : Nat} (hc : X.calm = true) (h : JGs X N E es r) (hl : (assignEach es X.env).length = n := by rfl) (hf : (assignEach es X.env).findIdx? (·.1) = none := by rfl) : JG X N E (.Tuple es kk pos) (gTp n r) :=
  PG.imp (pg_tup (n := n) hc h hl hf) fun v σ H Q q => by
    obtain ⟨W, d, σd, k, kx, rfl, o, rr, s, h, hk, hx⟩ := q
    cases d with
    | tup ds =>
      simp only [gTp] at h
      cases e : Nat.beq ds.length n with
      | false => rw [e] at h; cases h
      | true =>
        rw [e] at h
        obtain ⟨a, vs, rfl, hs, rs⟩ := relTup rr
        exact ⟨a, vs, rfl, SqT.of hs, by rw [← rs.length]; exact Nat.eq_of_beq_eq_true e, W, ds, σd, k, kx, rfl, o, rs, s, h, hk, hx⟩
    | _ => cases h
/-! a store to o[i] -/
def dput (k v : D) (kvs : List (D × D)) : List (D × D) := match kvs.any (fun p => eqK p.1 k) with
  | true => kvs.map fun p => match eqK p.1 k with
    | true => (p.1, v)
    | false => p
  | false => kvs ++ [(k, v)]
theorem any_relK {W : Wl} {k : D} {k' : Key} (hk : D.key k = some k') : ∀ {kvs : List (D × D)} {ps : List (Key × V)}, RelK W kvs ps → kvs.any (fun p => eqK p.1 k) = ps.any (fun kv => decide (kv.1 = k'))
  | [], ps, h => by rw [RelK] at h; subst h; rfl
  | (a, b) :: r, ps, h => by
    rw [RelK] at h
    obtain ⟨a', v, ps', rfl, h1, h2, h3⟩ := h
    simp only [List.any_cons]
    rw [key1_eq h1 hk, any_relK hk h3]
theorem any_relT {W : Wl} {l : List D} {k' : List Key} (hk : keysOf l = some k') : ∀ {kvs : List (D × D)} {ps : List (List Key × V)}, RelT W kvs ps → kvs.any (fun p => eqK p.1 (.tup l)) = ps.any (fun kv => decide (kv.1 = k'))
  | [], ps, h => by rw [RelT] at h; subst h; rfl
  | (a, b) :: r, ps, h => by
    rw [RelT] at h
    obtain ⟨a', v, ps', rfl, h1, h2, h3⟩ := h
    simp only [List.any_cons]
    cases a with
    | tup m => rw [keyT_eq h1 hk, any_relT hk h3]
    | _ => cases h1
theorem map_relK {W : Wl} {k : D} {k' : Key} {d : D} {w : V} (hk : D.key k = some k') (rd : RelD W d w) : ∀ {kvs : List (D × D)} {ps : List (Key × V)}, RelK W kvs ps →
    RelK W (kvs.map fun p => match eqK p.1 k with | true => (p.1, d) | false => p) (ps.map fun kv => if kv.1 = k' then (kv.1, w) else kv)
  | [], ps, h => by rw [RelK] at h; subst h; rw [List.map_nil, List.map_nil, RelK]
  | (a, b) :: r, ps, h => by
    rw [RelK] at h
    obtain ⟨a', v, ps', rfl, h1, h2, h3⟩ := h
    rw [List.map_cons, List.map_cons]
    have e := key1_eq h1 hk
    by_cases z : a' = k'
    · have e2 : eqK a k = true := by rw [e, decide_eq_true z]
      simp only [e2, if_pos z]
      rw [RelK]; exact ⟨a', w, _, rfl, h1, rd, map_relK hk rd h3⟩
    · have e2 : eqK a k = false := by rw [e, decide_eq_false z]
      simp only [e2, if_neg z]
      rw [RelK]; exact ⟨a', v, _, rfl, h1, h2, map_relK hk rd h3⟩
theorem map_relT {W : Wl} {l : List D} {k' : List Key} {d : D} {w : V} (hk : keysOf l = some k') (rd : RelD W d w) : ∀ {kvs : List (D × D)} {ps : List (List Key × V)}, RelT W kvs ps →
    RelT W (kvs.map fun p => match eqK p.1 (.tup l) with | true => (p.1, d) | false => p) (ps.map fun kv => if kv.1 = k' then (kv.1, w) else kv)
  | [], ps, h => by rw [RelT] at h; subst h; rw [List.map_nil, List.map_nil, RelT]
  | (a, b) :: r, ps, h => by
    rw [RelT] at h
    obtain ⟨a', v, ps', rfl, h1, h2, h3⟩ := h
    rw [List.map_cons, List.map_cons]
    have e : eqK a (.tup l) = decide (a' = k') := by
      cases a with
      | tup m => exact keyT_eq h1 hk
      | _ => cases h1
    by_cases z : a' = k'
    · have e2 : eqK a (.tup l) = true := by rw [e, decide_eq_true z]
      simp only [e2, if_pos z]
      rw [RelT]; exact ⟨a', w, _, rfl, h1, rd, map_relT hk rd h3⟩
    · have e2 : eqK a (.tup l) = false := by rw [e, decide_eq_false z]
      simp only [e2, if_neg z]
      rw [RelT]; exact ⟨a', v, _, rfl, h1, h2, map_relT hk rd h3⟩
theorem app_relK {W : Wl} {k : D} {k' : Key} {d : D} {w : V} (hk : D.key k = some k') (rd : RelD W d w) : ∀ {kvs : List (D × D)} {ps : List (Key × V)}, RelK W kvs ps → RelK W (kvs ++ [(k, d)]) (ps ++ [(k', w)])
  | [], ps, h => by rw [RelK] at h; subst h; rw [List.nil_append, List.nil_append, RelK]; exact ⟨k', w, [], rfl, hk, rd, by rw [RelK]⟩
  | (a, b) :: r, ps, h => by
    rw [RelK] at h
    obtain ⟨a', v, ps', rfl, h1, h2, h3⟩ := h
    rw [List.cons_append, List.cons_append, RelK]
    exact ⟨a', v, _, rfl, h1, h2, app_relK hk rd h3⟩
theorem app_relT {W : Wl} {k : D} {k' : List Key} {d : D} {w : V} (hk : D.tkey k = some k') (rd : RelD W d w) : ∀ {kvs : List (D × D)} {ps : List (List Key × V)}, RelT W kvs ps → RelT W (kvs ++ [(k, d)]) (ps ++ [(k', w)])
  | [], ps, h => by rw [RelT] at h; subst h; rw [List.nil_append, List.nil_append, RelT]; exact ⟨k', w, [], rfl, hk, rd, by rw [RelT]⟩
  | (a, b) :: r, ps, h => by
    rw [RelT] at h
    obtain ⟨a', v, ps', rfl, h1, h2, h3⟩ := h
    rw [List.cons_append, List.cons_append, RelT]
    exact ⟨a', v, _, rfl, h1, h2, app_relT hk rd h3⟩
theorem dput_relK {W : Wl} {k : D} {k' : Key} {d : D} {w : V} {kvs : List (D × D)} {ps : List (Key × V)} (hk : D.key k = some k') (rd : RelD W d w) (h : RelK W kvs ps) : RelK W (dput k d kvs) (putK ps k' w) := by
  unfold dput putK
  rw [any_relK hk h]
  cases e : ps.any (fun kv => decide (kv.1 = k')) with
  | true => rw [if_pos rfl]; exact map_relK hk rd h
  | false => rw [if_neg (by decide)]; exact app_relK hk rd h
theorem dput_relT {W : Wl} {l : List D} {k' : List Key} {d : D} {w : V} {kvs : List (D × D)} {ps : List (List Key × V)} (hk : keysOf l = some k') (rd : RelD W d w) (h : RelT W kvs ps) : RelT W (dput (.tup l) d kvs) (putK ps k' w) := by
  unfold dput putK
  rw [any_relT hk h]
  cases e : ps.any (fun kv => decide (kv.1 = k')) with
  | true => rw [if_pos rfl]; exact map_relT hk rd h
  | false => rw [if_neg (by decide)]; exact app_relT (k := .tup l) hk rd h
theorem dput_len (k d : D) (kvs : List (D × D)) : (dput k d kvs).length ≤ kvs.length + 1 := by
  unfold dput
  split
  · rw [List.length_map]; omega
  · rw [List.length_append]; exact Nat.le_refl _
theorem relK_len {W : Wl} : ∀ {kvs : List (D × D)} {ps : List (Key × V)}, RelK W kvs ps → kvs.length = ps.length
  | [], ps, h => by rw [RelK] at h; subst h; rfl
  | (a, b) :: r, ps, h => by rw [RelK] at h; obtain ⟨a', v, ps', rfl, h1, h2, h3⟩ := h; simp [relK_len h3]
theorem relT_len {W : Wl} : ∀ {kvs : List (D × D)} {ps : List (List Key × V)}, RelT W kvs ps → kvs.length = ps.length
  | [], ps, h => by rw [RelT] at h; subst h; rfl
  | (a, b) :: r, ps, h => by rw [RelT] at h; obtain ⟨a', v, ps', rfl, h1, h2, h3⟩ := h; simp [relT_len h3]
def fSet (o i v : D) (η : Hd) : Option Hd := match o with
  | .ref r => match η.get r with
    | some (.lst l) => match i with
      | .int j => match ixD l.length j with
        | some n => some (η.set r (.lst (l.set n v)))
        | none => none
      | _ => none
    | some (.dct t kvs) => match isKey t i, Nat.blt kvs.length line with
      | true, true => some (η.set r (.dct t (dput i v kvs)))
      | _, _ => none
    | _ => none
  | _ => none
theorem ixD_ixN {n : Nat} {i : Int} {k : Nat} (h : ixD n i = some k) : ixN n i = some k := by
  unfold ixN
  cases i with
  | ofNat j =>
    simp only [ixD] at h
    cases e : Nat.blt j n with
    | false => rw [e] at h; cases h
    | true =>
      rw [e] at h
      have hb : j < n := Nat.le_of_ble_eq_true e
      rw [if_pos (show (0 : Int) ≤ Int.ofNat j from Int.natCast_nonneg j), if_pos (show Int.ofNat j < (n : Int) from by show ((j : Nat) : Int) < _; omega)]
      exact h
  | negSucc j =>
    simp only [ixD] at h
    cases e : Nat.ble (j + 1) n with
    | false => rw [e] at h; cases h
    | true =>
      rw [e] at h
      have hb : j + 1 ≤ n := Nat.le_of_ble_eq_true e
      have e1 : Int.negSucc j = -((j + 1 : Nat) : Int) := rfl
      rw [if_neg (show ¬ (0 : Int) ≤ Int.negSucc j from by rw [e1]; omega), if_pos (show -(n : Int) ≤ Int.negSucc j from by rw [e1]; omega), ← h]
      congr 1; rw [e1]; omega
def tSet (K : PySem.W.Frag) (N : Nm) : TSet := fun o i v H Q => ∃ W dq di dv η', W.H = H ∧ W.Ok K N.toNames ∧ RelD W dq o ∧ RelD W di i ∧ RelD W dv v ∧ fSet dq di dv W.η = some η' ∧ (∀ W', Ext W W' → W'.Ok K N.toNames → W'.η = η' → Q W'.H)
theorem PSet.or {t t' : TSet} (h : PSet X t) (h' : PSet X t') : PSet X (fun o i v H Q => t o i v H Q ∨ t' o i v H Q) :=
  fun pins s σ H o i v ov iv u Q I r1 r2 r3 q => q.elim (h pins s σ H o i v ov iv u Q I r1 r2 r3) (h' pins s σ H o i v ov iv u Q I r1 r2 r3)
theorem PSet.imp {t t' : TSet} (h : PSet X t) (f : ∀ o i v H Q, t' o i v H Q → t o i v H Q) : PSet X t' :=
  fun pins s σ H o i v ov iv u Q I r1 r2 r3 q => h pins s σ H o i v ov iv u Q I r1 r2 r3 (f o i v H Q q)
theorem pset_all (hu : X.A.units + 1 < cLine) : PSet X (tSet X.K N) := PSet.imp (PSet.or set_list (set_dict hu)) fun vo vi vv H Q q => by
  obtain ⟨W, dq, di, dv, η', rfl, o, ro, ri, rv, hf, hq⟩ := q
  cases dq with
  | ref r =>
    simp only [fSet] at hf
    cases e : W.η.get r with
    | none => rw [e] at hf; cases hf
    | some c =>
      rw [e] at hf
      rw [relRef ro]
      cases c with
      | lst l =>
        cases di with
        | int j =>
          simp only at hf
          cases ek : ixD l.length j with
          | none => rw [ek] at hf; cases hf
          | some n =>
            rw [ek] at hf
            cases hf
            obtain ⟨vs, g1, g2, g3⟩ := o.cell r _ e
            rw [relInt ri]
            refine .inl ⟨_, vs, j, n, rfl, rfl, g1, by rw [← g2.length]; exact ixD_ixN ek, ?_⟩
            obtain ⟨x, o'⟩ := o.put (c := .lst (l.set n dv)) (ob := .lst (vs.set n vv)) e rfl (fun x => ⟨_, upd_same, (g2.mono o x).set (rv.mono o x) n, by rw [List.length_set]; exact g3⟩)
            exact hq _ x o' rfl
        | _ => cases hf
      | dct t kvs =>
        simp only at hf
        cases ek : isKey t di with
        | false => rw [ek] at hf; cases hf
        | true =>
          cases el : Nat.blt kvs.length line with
          | false => rw [ek, el] at hf; cases hf
          | true =>
            rw [ek, el] at hf
            cases hf
            have hl : kvs.length < sizeLine := Nat.le_of_ble_eq_true el
            have hl2 : (dput di dv kvs).length ≤ sizeLine := Nat.le_trans (dput_len _ _ _) hl
            have c := o.cell r _ e
            cases t with
            | false =>
              obtain ⟨ps, h1, h2, h3⟩ := c
              obtain ⟨k', hk'⟩ := isKey_key ek
              have ev := key_rel hk' ri
              subst ev
              refine .inr ⟨W.μ r, _, rfl, .inl ⟨ps, k', h1, rfl, by rw [← relK_len h2]; exact hl, rfl⟩, ?_⟩
              obtain ⟨x, o'⟩ := o.put (c := .dct false (dput di dv kvs)) (ob := .dK (putK ps k' vv)) e rfl (fun x => ⟨_, upd_same, dput_relK hk' (rv.mono o x) (h2.mono o x), hl2⟩)
              exact hq _ x o' rfl
            | true =>
              obtain ⟨ps, h1, h2, h3⟩ := c
              cases di with
              | tup l =>
                obtain ⟨k', hk'⟩ := isKey_keys ek
                obtain ⟨q, vs, rfl, hqs, rq⟩ := relTup ri
                have ev := keys_rel hk' rq
                subst ev
                refine .inr ⟨W.μ r, _, rfl, .inr ⟨ps, k', q, h1, rfl, hqs, by rw [← relT_len h2]; exact hl, rfl⟩, ?_⟩
                obtain ⟨x, o'⟩ := o.put (c := .dct true (dput (.tup l) dv kvs)) (ob := .dT (putK ps k' vv)) e rfl (fun x => ⟨_, upd_same, dput_relT hk' (rv.mono o x) (h2.mono o x), hl2⟩)
                exact hq _ x o' rfl
              | _ => cases ek
      | _ => cases hf
  | _ => cases hf
def gSb (co ci : CE) : CG := fun d σ η k kx => co σ η (fun x η1 => ci σ η1 (fun y η2 => match fSet x y d η2 with
  | some η3 => k σ η3
  | none => false) kx) kx
theorem jg_sub {o i : Expr} {co ci : CE} {pos : Pos} (hu : X.A.units + 1 < cLine) (ho : JE X N E o co) (hi : JE X N E i ci)
    (hs : ∀ v, assign (.Subscript o i pos) X.env v = (do let ov ← holding [v] (eval o X.env); let iv ← holding [v, ov] (eval i X.env); standAt pos; holding [v, ov, iv] (setItem ov iv v); release [v, ov, iv] []) := by intro _; rfl) : JG X N E (.Subscript o i pos) (gSb co ci) :=
  PG.imp (pg_sub ho hi (pset_all (N := N) hu) hs) fun v σ H Q q => by
    obtain ⟨W, d, σd, k, kx, rfl, o, r, s, h, hk, hx⟩ := q
    refine tE.bind o s hx h fun W1 dx x x1 o1 r1 s1 hx1 h1 => ?_
    refine tE.bind o1 s1 hx1 h1 fun W2 dy y x2 o2 r2 s2 hx2 h2 => ?_
    cases e : fSet dx dy d W2.η with
    | none => rw [e] at h2; cases h2
    | some η' =>
      rw [e] at h2
      have x02 := x1.trans o o1 x2
      exact ⟨W2, dx, dy, d, η', rfl, o2, r1.mono o1 x2, r2, r.mono o x02, e, fun W3 x3 o3 e3 => hk W3 σd σ (x02.trans o o2 x3) o3 (s2.mono o2 x3) (by rw [e3]; exact h2)⟩

/-! ### assignments -/
def sAsg (c : CE) (g : CG) : CS := fun σ η k => c σ η (fun d η1 => g d σ η1 k.nx k.xc) k.xc
theorem tAsg_of {K : PySem.W.Frag} {c : CE} {g : CG} {Z : Ends} {σ : St} {H : Hp} (h : tS K N E (sAsg c g) Z σ H) : tAsg (tE K N E c) (tG K N E g) Z σ H := by
  obtain ⟨W, σd, k, rfl, o, s, h, hk⟩ := h
  exact tE.bind o s hk.xc h fun W1 d v x1 o1 r1 s1 hx1 h1 => ⟨W1, d, σd, k.nx, k.xc, rfl, o1, r1, s1, h1, fun W2 σd2 σ2 x2 o2 s2 h2 => hk.nx W2 σd2 σ2 (x1.trans o o1 x2) o2 s2 h2, hx1⟩
theorem js_asg {tg e : Expr} {c : CE} {g : CG} {pos : Pos} (he : JE X N E e c) (hg : JG X N E tg g) (h1 : swapsWithSole [tg] e pos.line X.env = pure false := by rfl) (h2 : swappedStores [tg] e X.env = pure none := by rfl)
    (h3 : (assignEach [tg] X.env).map (·.2) = [assign tg X.env] := by rfl) : JS X N E (.Assign [tg] e pos) (sAsg c g) := PS.imp (ps_asg he hg h1 h2 h3) fun Z σ H q => tAsg_of q
theorem tAsg_name {K : PySem.W.Frag} {c : CE} {i : Nat} {te : TE} {Z : Ends} {σ : St} {H : Hp} (ht : ∀ σ H Q, tE K N E c σ H Q → te σ H Q) (h : tS K N E (sAsg c (gNm i)) Z σ H) : tAsg te (gName i) Z σ H := by
  obtain ⟨W, σd, k, rfl, o, s, h, hk⟩ := h
  exact ht _ _ _ (tE.bind o s hk.xc h fun W1 d v x1 o1 r1 s1 hx1 h1 => hk.nx W1 _ _ x1 o1 (s1.set i r1) h1)
theorem js_set {i : Nat} {x : Str} {e : Expr} {c : CE} {pos pos' : Pos} (hN : X.N.Nodup) (hi : X.N[i]? = some x) (hx : L2.Loc X.env.scope x) (he : JE X N E e c) (h1 : swapsWith e (some (.Name x pos')) pos.line X.env = pure false := by rfl)
    (hf : X.fn x = true ∨ X.env.scope.names.lookup x = some .local := by first | exact .inl rfl | exact .inr rfl | assumption) : JS X N E (.Assign [.Name x pos'] e pos) (sAsg c (gNm i)) := PS.imp (ps_set hN hi hx he h1 hf) fun Z σ H q => tAsg_name (fun _ _ _ h => h) q
def sPar (i j : Nat) (a : CA) : CS := fun σ η k => a σ η (fun ds η1 => match ds with
  | [x, y] => k.nx ((σ.set i (some x)).set j (some y)) η1
  | _ => false) k.xc
theorem js_par {i j : Nat} {x y : Str} {a b : Expr} {ca : CA} {px py pt pos : Pos} {kt k2 pt2} (hc : X.calm = true) (hN : X.N.Nodup) (hi : X.N[i]? = some x) (hj : X.N[j]? = some y) (hij : i ≠ j) (hx : X.env.scope.names.lookup x = some .local) (hy : X.env.scope.names.lookup y = some .local)
    (ha : JA X N E [a, b] ca) (hw : swappedStores [.Tuple [.Name x px, .Name y py] kt pt] (.Tuple [a, b] k2 pt2) X.env = pure (some [x, y])) : JS X N E (.Assign [.Tuple [.Name x px, .Name y py] kt pt] (.Tuple [a, b] k2 pt2) pos) (sPar i j ca) :=
  PS.imp (ps_par hc hN hi hj hij hx hy ha hw) fun Z σ H q => by
    obtain ⟨W, σd, k, rfl, o, s, h, hk⟩ := q
    refine tAr.bind o s hk.xc h fun W1 ds vs x1 o1 r1 s1 hx1 h1 => ?_
    match ds, r1, h1 with
    | [d, e], r1, h1 =>
      obtain ⟨v, u, rfl, ra, rb⟩ := rel2 r1
      exact ⟨v, u, rfl, hk.nx W1 _ _ x1 o1 ((s1.set i ra).set j rb) h1⟩
    | [], _, h1 => cases h1
    | [_], _, h1 => cases h1
    | _ :: _ :: _ :: _, _, h1 => cases h1
theorem rel3 {W : Wl} {d e f : D} {vs : List V} (h : RelDs W [d, e, f] vs) : ∃ v u w, vs = [v, u, w] ∧ RelD W d v ∧ RelD W e u ∧ RelD W f w := by
  rw [RelDs] at h
  obtain ⟨v, vs', rfl, h1, h2⟩ := h
  obtain ⟨u, w, rfl, h3, h4⟩ := rel2 h2
  exact ⟨v, u, w, rfl, h1, h3, h4⟩
def sPar3 (i j l : Nat) (a : CA) : CS := fun σ η k => a σ η (fun ds η1 => match ds with
  | [x, y, z] => k.nx (((σ.set i (some x)).set j (some y)).set l (some z)) η1
  | _ => false) k.xc
/-! x op= e -/
def sAug (i : Nat) (f : F2) (c : CE) : CS := fun σ η k => match σ[i]? with
  | some (some x) => c σ η (fun y η1 => match f x y η1 with
    | some (d, η2) => k.nx (σ.set i (some d)) η2
    | none => false) k.xc
  | _ => false
theorem js_aug {i : Nat} {x : Str} {e : Expr} {c : CE} {op : Operator} {f : F2} {pos pos' : Pos} (hN : X.N.Nodup) (hi : X.N[i]? = some x) (hx : L2.Loc X.env.scope x) (he : JE X N E e c) (ho : OpR X (inplaceOp op) (r2 X.K N f))
    (hf : X.fn x = true ∨ X.env.scope.names.lookup x = some .local := by first | exact .inl rfl | exact .inr rfl | assumption) : JS X N E (.AugAssign (.Name x pos') op e pos) (sAug i f c) :=
  PS.imp (ps_aug hN hi hx he ho hf) fun Z σ H q => by
    obtain ⟨W, σd, k, rfl, o, s, h, hk⟩ := q
    simp only [sAug] at h
    cases e : σd[i]? with
    | none => rw [e] at h; cases h
    | some y =>
      cases y with
      | none => rw [e] at h; cases h
      | some d =>
        rw [e] at h
        obtain ⟨v, ev, rv⟩ := s.get i d e
        refine ⟨v, ev, tE.bind o s hk.xc h fun W1 dy y x1 o1 r1 s1 hx1 h1 => ?_⟩
        cases ef : f d dy W1.η with
        | none => rw [ef] at h1; cases h1
        | some p =>
          obtain ⟨z, η'⟩ := p
          rw [ef] at h1
          exact ⟨W1, d, dy, z, η', rfl, o1, rv.mono o x1, r1, ef, fun W' w x3 o3 e3 r3 => hk.nx W' _ _ (x1.trans o o1 x3) o3 ((s1.mono o1 x3).set i r3) (by rw [e3]; exact h1)⟩
theorem opd_iadd : OpR X (inplaceOp .Add) (r2 X.K N (fI2 iadd)) := opd_int iop_add fun _ _ => rfl
end
end DL

/-! what a for walks, for, while, comprehensions -/
namespace DL
open PySem PySem.Spec L2
/-- what is walked: the items; a cell that must not change meanwhile, with its list -/
structure Its where
  l : List D
  fz : Option (Nat × List D)
def Its.fr (it : Its) (η : Hd) : Hd := match it.fz with
  | none => η
  | some (r, l) => frzAt r l η
def Its.un (it : Its) (η : Hd) : Hd := match it.fz with
  | none => η
  | some (r, l) => unfAt r l η
def FzOk (W : Wl) (it : Its) : Prop := ∀ r l, it.fz = some (r, l) → W.η.get r = some (.lst l)
def Its.w (it : Its) (W : Wl) : Wl := ⟨W.μ, it.fr W.η, W.H⟩
/-- what a walk leans on stays -/
structure Sty (Wf W1 : Wl) : Prop where
  tx : Tx Wf W1
  fz : ∀ r l vs, Wf.η.get r = some (.frz l) → Wf.H (Wf.μ r) = some (.lst vs) → W1.H (Wf.μ r) = some (.lst vs)
  ld : ∀ r t l ob u, Wf.η.get r = some (.ldc t l) → Wf.H (Wf.μ r) = some (.frz ob u) → W1.H (Wf.μ r) = some (.frz ob u)
theorem Ext.sty {K : PySem.W.Frag} {N : Names} {W W1 : Wl} (o : W.Ok K N) (x : Ext W W1) : Sty W W1 := ⟨x.tx o, fun r l vs h hv => x.fr _ _ hv (fun _ z => nomatch z) fun q c e m z => by
  by_cases y : q = r
  · rw [y, h] at e; cases e; cases m
  · exact o.apart h e y z, fun r t l ob u h hv => x.fr _ _ hv (fun _ z => nomatch z) fun q c e m z => by
  by_cases y : q = r
  · rw [y, h] at e; cases e; cases m
  · exact o.apart h e y z⟩
structure WalkD (K : PySem.W.Frag) (N : Nm) (Wf : Wl) (l : List D) (J : It) : Prop where
  go : ∀ W1 i, Sty Wf W1 → W1.Ok K N.toNames → i < l.length → J.go i W1.H
  stop : ∀ W1, Sty Wf W1 → W1.Ok K N.toNames → J.stop l.length W1.H
  yld : ∀ W1 i x H', Sty Wf W1 → W1.Ok K N.toNames → i < l.length → J.yld i W1.H x H' → ∃ W2 d, l[i]? = some d ∧ Ext W1 W2 ∧ W2.Ok K N.toNames ∧ W2.H = H' ∧ W2.η = W1.η ∧ RelD W2 d x
abbrev CI := SD → Hd → (Its → Hd → Bool) → KX → Bool
def tI (K : PySem.W.Frag) (N : Nm) (E : XK) (c : CI) : TI := fun σ H R => ∃ W σd k kx, W.H = H ∧ W.Ok K N.toNames ∧ RelS W σd σ ∧ c σd W.η k kx = true ∧
  (∀ W' it J, Ext W W' → W'.Ok K N.toNames → FzOk W' it → WalkD K N (it.w W') it.l J → k it W'.η = true → R J W'.H) ∧ Xk K N E W kx
def JI (X : Cx) (N : Nm) (E : XK) (tg iter : Expr) (c : CI) : Prop := PI X tg iter (tI X.K N E c)
section
variable {X : Cx} {N : Nm} {E : XK}
theorem PI.imp {tg iter : Expr} {t t' : TI} (h : PI X tg iter t) (f : ∀ σ H R, t' σ H R → t σ H R) : PI X tg iter t' := ⟨fun pins s σ H R I q => h.run pins s σ H R I (f σ H R q)⟩
/-- frozen and thawed -/
theorem Its.froze {K : PySem.W.Frag} {W : Wl} {it : Its} (o : W.Ok K N.toNames) (h : FzOk W it) : Ext W (it.w W) ∧ (it.w W).Ok K N.toNames := by
  unfold Its.w Its.fr
  cases e : it.fz with
  | none => exact ⟨Ext.refl W, o⟩
  | some p => obtain ⟨r, l⟩ := p; exact o.freeze (h r l e)
theorem Its.thaw {K : PySem.W.Frag} {W W1 : Wl} {it : Its} (o : W.Ok K N.toNames) (h : FzOk W it) (x : Ext (it.w W) W1) (o1 : W1.Ok K N.toNames) : Ext W ⟨W1.μ, it.un W1.η, W1.H⟩ ∧ Wl.Ok K N.toNames ⟨W1.μ, it.un W1.η, W1.H⟩ := by
  unfold Its.un
  unfold Its.w Its.fr at x
  cases e : it.fz with
  | none => rw [e] at x; exact ⟨x, o1⟩
  | some p => obtain ⟨r, l⟩ := p; rw [e] at x; exact o.unfreeze (h r l e) x o1
theorem Its.un_nx (it : Its) (η : Hd) : (it.un η).nx = η.nx := by
  unfold Its.un; cases it.fz with
  | none => rfl
  | some p => rfl
theorem thaw_tx {W1 : Wl} (it : Its) : Tx W1 ⟨W1.μ, it.un W1.η, W1.H⟩ := ⟨Nat.le_of_eq (Its.un_nx it W1.η).symm, fun _ _ => rfl, fun _ _ e => e, fun _ _ _ e => e⟩
theorem RelS.tx {W W1 : Wl} {σd : SD} {σ : St} (x : Tx W W1) (h : RelS W σd σ) : RelS W1 σd σ := ⟨h.len, fun i d e => by obtain ⟨v, e', r⟩ := h.get i d e; exact ⟨v, e', r.tx x⟩⟩
theorem RelX.tx {W W1 : Wl} {x : Xc} {cls : Value} {dd : Option Addr} (t : Tx W W1) (hx : ∀ a f, W.H a = some (.xd f) → W1.H a = some (.xd f)) (h : RelX N W x cls dd) : RelX N W1 x cls dd := by
  obtain ⟨h1, h2⟩ := h
  refine ⟨h1, ?_⟩
  cases e : x.p with
  | none => rw [e] at h2; exact h2
  | some d => rw [e] at h2; obtain ⟨a, v, q1, q2, q3⟩ := h2; exact ⟨a, v, q1, hx a _ q2, q3.tx t⟩
/-- what is wanted behind, where a cell is frozen meanwhile -/
def KS.thaw (k : KS) (it : Its) : KS := ⟨fun σ η => k.nx σ (it.un η), fun d η => k.rt d (it.un η), fun σ η => k.bk σ (it.un η), fun σ η => k.ct σ (it.un η), fun x η => k.xc x (it.un η)⟩
theorem Sk.thaw {K : PySem.W.Frag} {W : Wl} {k : KS} {Z : Ends} {it : Its} (o : W.Ok K N.toNames) (h : FzOk W it) (hk : Sk K N E W k Z) : Sk K N E (it.w W) (k.thaw it) Z where
  nx := fun W1 σd σ x o1 s e => by
    obtain ⟨x2, o2⟩ := Its.thaw o h x o1
    exact hk.nx ⟨W1.μ, it.un W1.η, W1.H⟩ σd σ x2 o2 (s.tx (thaw_tx it)) e
  rt := fun W1 d v x o1 r e => by
    obtain ⟨x2, o2⟩ := Its.thaw o h x o1
    exact hk.rt ⟨W1.μ, it.un W1.η, W1.H⟩ d v x2 o2 (r.tx (thaw_tx it)) e
  bk := fun W1 σd σ x o1 s e => by
    obtain ⟨x2, o2⟩ := Its.thaw o h x o1
    exact hk.bk ⟨W1.μ, it.un W1.η, W1.H⟩ σd σ x2 o2 (s.tx (thaw_tx it)) e
  ct := fun W1 σd σ x o1 s e => by
    obtain ⟨x2, o2⟩ := Its.thaw o h x o1
    exact hk.ct ⟨W1.μ, it.un W1.η, W1.H⟩ σd σ x2 o2 (s.tx (thaw_tx it)) e
  xc := fun W1 xx cls dd x o1 r e => by
    obtain ⟨x2, o2⟩ := Its.thaw o h x o1
    exact hk.xc ⟨W1.μ, it.un W1.η, W1.H⟩ xx cls dd x2 o2 (r.tx (thaw_tx it) fun _ _ e => e) e

/-! ### the sources -/
/-- a list or a tuple -/
def iSeq (K : PySem.W.Frag) (tl : TE) : TI := fun σ H R => tl σ H fun x H1 => (∃ a, x = .ref a ∧ (∃ xs, SqL K H1 a xs) ∧ R (Itl K a) H1) ∨ (∃ a, x = .ref a ∧ (∃ xs, SqT K H1 a xs) ∧ R (Itt K a) H1)
theorem pi_seq {tg l : Expr} {tl : TE} (hl : PE X l tl) : PI X tg l (iSeq X.K tl) := by
  refine ⟨fun pins s σ H R I h => ?_⟩
  refine thn (hl.run pins s σ H _ I h) fun v s1 ⟨x, H1, I1, r1, q1⟩ => ?_
  rcases q1 with ⟨a, e, ⟨xs, hq⟩, q⟩ | ⟨a, e, ⟨xs, hq⟩, q⟩
  · subst e
    cases r1
    obtain ⟨its, rv, p, hz⟩ := I1.list hq
    refine wpAny_pyIter_list p.isList ?_
    refine ⟨s1.heap.objs.size, [s1.heap.objs.size], _, _, H1, rfl, I1.kept (t' := s1.toks) fun b o e => Heap.get?_push_of_some _ e, turn_list a _, ⟨_, Heap.get?_push_size _ rfl, rfl, rfl⟩, fun b hb => ?_, q⟩
    have e : b = s1.heap.objs.size := by simpa using hb
    subst e
    exact I1.fpOk (Nat.le_refl _) (I1.hok.fresh (Nat.le_refl _))
  · subst e
    cases r1
    obtain ⟨its, rv, p, hz⟩ := I1.tuple hq
    refine wpAny_pyIter_tuple (show s1.heap.IsTuple a its.toArray from p) ?_
    refine ⟨s1.heap.objs.size, [s1.heap.objs.size], _, _, H1, rfl, I1.kept (t' := s1.toks) fun b o e => Heap.get?_push_of_some _ e, turn_tuple a _, ⟨_, Heap.get?_push_size _ rfl, rfl, rfl⟩, fun b hb => ?_, q⟩
    have e : b = s1.heap.objs.size := by simpa using hb
    subst e
    exact I1.fpOk (Nat.le_refl _) (I1.hok.fresh (Nat.le_refl _))
/-- what a value gives to walk -/
def itsOf (η : Hd) : D → Option Its
  | .tup l => some ⟨l, none⟩
  | .ref r => match η.get r with
    | some (.lst l) => some ⟨l, some (r, l)⟩
    | some (.frz l) => some ⟨l, none⟩
    | _ => none
  | _ => none
def ciSeq (c : CE) : CI := fun σ η k kx => c σ η (fun d η1 => match itsOf η1 d with
  | some it => k it η1
  | none => false) kx
/-- a list that stays -/
theorem walkD_list {K : PySem.W.Frag} {Wf : Wl} {a : Addr} {l : List D} {vs : List V} (st : ∀ W1, Sty Wf W1 → W1.H a = some (.lst vs)) (r : RelDs Wf l vs) : WalkD K N Wf l (Itl K a) := by
  have hl := r.length
  refine ⟨fun W1 i x o hi => ?_, fun W1 x o => ?_, fun W1 i y H' x o hi hy => ?_⟩
  · exact ⟨vs, vs[i]'(by omega), SqL.of (st W1 x), by simp [show i < vs.length by omega]⟩
  · exact ⟨vs, SqL.of (st W1 x), by omega⟩
  · obtain ⟨e1, e2⟩ := hy
    obtain ⟨d, e3, e4⟩ := (r.tx x.tx).get (e2 vs (SqL.of (st W1 x)))
    exact ⟨W1, d, e3, Ext.refl W1, o, e1.symm, rfl, e4⟩
theorem walkD_tup {K : PySem.W.Frag} {Wf : Wl} {a : Addr} {l : List D} {vs : List V} (h : Wf.H a = some (.tup vs)) (r : RelDs Wf l vs) : WalkD K N Wf l (Itt K a) := by
  have hl := r.length
  refine ⟨fun W1 i x o hi => ?_, fun W1 x o => ?_, fun W1 i y H' x o hi hy => ?_⟩
  · exact ⟨vs, vs[i]'(by omega), SqT.of (x.tx.tp _ _ h), by simp [show i < vs.length by omega]⟩
  · exact ⟨vs, SqT.of (x.tx.tp _ _ h), by omega⟩
  · obtain ⟨e1, e2⟩ := hy
    obtain ⟨d, e3, e4⟩ := (r.tx x.tx).get (e2 vs (SqT.of (x.tx.tp _ _ h)))
    exact ⟨W1, d, e3, Ext.refl W1, o, e1.symm, rfl, e4⟩
theorem its_walk {K : PySem.W.Frag} {W : Wl} {d : D} {v : V} {it : Its} (o : W.Ok K N.toNames) (r : RelD W d v) (h : itsOf W.η d = some it) : FzOk W it ∧
    ((∃ a, v = .ref a ∧ (∃ xs, SqL K W.H a xs) ∧ WalkD K N (it.w W) it.l (Itl K a)) ∨ (∃ a, v = .ref a ∧ (∃ xs, SqT K W.H a xs) ∧ WalkD K N (it.w W) it.l (Itt K a))) := by
  cases d with
  | tup l =>
    cases h
    obtain ⟨a, vs, rfl, hs, rs⟩ := relTup r
    exact ⟨(fun r l e => nomatch e), .inr ⟨a, rfl, ⟨vs, SqT.of hs⟩, walkD_tup (Wf := W) hs rs⟩⟩
  | ref q =>
    simp only [itsOf] at h
    cases e : W.η.get q with
    | none => rw [e] at h; cases h
    | some c =>
      rw [e] at h
      rw [relRef r]
      cases c with
      | lst l =>
        cases h
        have fz : FzOk W ⟨l, some (q, l)⟩ := fun r l' e' => by cases e'; exact e
        obtain ⟨vs, h1, h2, h3⟩ := o.cell q _ e
        obtain ⟨xf, of⟩ := Its.froze o fz
        have gq : (Its.w ⟨l, some (q, l)⟩ W).η.get q = some (.frz l) := by
          show (frzAt q l W.η).get q = some (.frz l)
          unfold frzAt
          rw [Hd.get_set, if_pos rfl, e]; rfl
        exact ⟨fz, .inl ⟨_, rfl, ⟨vs, SqL.of h1⟩, walkD_list (fun W1 x => x.fz q l _ gq h1) (h2.mono o xf)⟩⟩
      | frz l =>
        cases h
        obtain ⟨vs, h1, h2, h3⟩ := o.cell q _ e
        exact ⟨(fun r l e => nomatch e), .inl ⟨_, rfl, ⟨vs, SqL.of h1⟩, walkD_list (Wf := W) (fun W1 x => x.fz q l _ e h1) h2⟩⟩
      | _ => cases h
  | _ => cases h
theorem ji_seq {tg e : Expr} {c : CE} (h : JE X N E e c) : JI X N E tg e (ciSeq c) := PI.imp (pi_seq h) fun σ H R q => by
  obtain ⟨W, σd, k, kx, rfl, o, s, h, hk, hx⟩ := q
  refine tE.bind o s hx h fun W1 d v x1 o1 r1 s1 hx1 h1 => ?_
  cases e : itsOf W1.η d with
  | none => rw [e] at h1; cases h1
  | some it =>
    rw [e] at h1
    obtain ⟨fz, h | h⟩ := its_walk o1 r1 e
    · obtain ⟨a, e1, e2, e3⟩ := h
      exact .inl ⟨a, e1, e2, hk W1 it _ x1 o1 fz e3 h1⟩
    · obtain ⟨a, e1, e2, e3⟩ := h
      exact .inr ⟨a, e1, e2, hk W1 it _ x1 o1 fz e3 h1⟩
/-- range -/
def rangeD : Nat → Int → List D
  | 0, _ => []
  | n + 1, i => .int i :: rangeD n (i + 1)
theorem rangeD_len : ∀ (n : Nat) (i : Int), (rangeD n i).length = n
  | 0, _ => rfl
  | n + 1, i => by rw [rangeD, List.length_cons, rangeD_len n (i + 1)]
theorem rangeD_get : ∀ (n : Nat) (i : Int) (k : Nat), k < n → (rangeD n i)[k]? = some (.int (i + k))
  | 0, _, k, h => absurd h (by omega)
  | n + 1, i, 0, h => by rw [rangeD]; simp
  | n + 1, i, k + 1, h => by
    rw [rangeD]
    show (rangeD n (i + 1))[k]? = _
    rw [rangeD_get n (i + 1) k (by omega)]
    congr 2; omega
def rOk (i : Int) : Bool := Nat.ble i.natAbs 1000000000000000000
theorem rOk_ok {i : Int} (h : rOk i = true) : -(2 ^ 62) ≤ i ∧ i < 2 ^ 62 := by
  have := Nat.le_of_ble_eq_true h
  omega
def ciR1 (a : CA) : CI := fun σ η k kx => a σ η (fun ds η1 => match ds with
  | [.int j] => match rOk j with
    | true => k ⟨rangeD j.toNat 0, none⟩ η1
    | false => false
  | _ => false) kx
def ciR2 (a : CA) : CI := fun σ η k kx => a σ η (fun ds η1 => match ds with
  | [.int i, .int j] => match rOk i, rOk j with
    | true, true => k ⟨rangeD (j - i).toNat i, none⟩ η1
    | _, _ => false
  | _ => false) kx
theorem walkD_range {K : PySem.W.Frag} {Wf : Wl} {n : Nat} {i : Int} : WalkD K N Wf (rangeD n i) (Itr i n) := by
  refine ⟨fun W1 k x o hi => ?_, fun W1 x o => ?_, fun W1 k y H' x o hi hy => ?_⟩
  · rw [rangeD_len] at hi; exact hi
  · rw [rangeD_len]; exact Nat.le_refl _
  · obtain ⟨e1, e2⟩ := hy
    rw [rangeD_len] at hi
    exact ⟨W1, .int (i + k), rangeD_get n i k hi, Ext.refl W1, o, e1.symm, rfl, by rw [e2]; exact mkInt⟩
theorem ji_range1 {tg a : Expr} {ca : CA} {p pos : Pos} (hg : Gl X "range") (hm : X.mg "range" = none) (ha : JA X N E [a] ca) (hs : starEach [a] X.env = [(false, eval a X.env)] := by rfl) : JI X N E tg (.Call (.Name "range" p) [a] [] pos) (ciR1 ca) :=
  PI.imp (pi_range1 hg hm ha hs) fun σ H R q => by
    obtain ⟨W, σd, k, kx, rfl, o, s, h, hk, hx⟩ := q
    refine tAr.bind o s hx h fun W1 ds vs x1 o1 r1 s1 hx1 h1 => ?_
    match ds, r1, h1 with
    | [.int j], r1, h1 =>
      simp only at h1
      cases e : rOk j with
      | false => rw [e] at h1; cases h1
      | true =>
        rw [e] at h1
        obtain ⟨v, rfl, r⟩ := rel1 r1
        rw [relInt r]
        exact ⟨j, rfl, (rOk_ok e).1, (rOk_ok e).2, hk W1 _ _ x1 o1 (by intro r l e; cases e) walkD_range h1⟩
    | [], _, h1 => cases h1
    | [.non], _, h1 => cases h1
    | [.bl _], _, h1 => cases h1
    | [.str _], _, h1 => cases h1
    | [.tup _], _, h1 => cases h1
    | [.ref _], _, h1 => cases h1
    | _ :: _ :: _, _, h1 => simp at h1
theorem ji_range2 {tg a b : Expr} {ca : CA} {p pos : Pos} (hg : Gl X "range") (hm : X.mg "range" = none) (ha : JA X N E [a, b] ca) (hs : starEach [a, b] X.env = [(false, eval a X.env), (false, eval b X.env)] := by rfl) (hs2 : starEach [b] X.env = [(false, eval b X.env)] := by rfl) : JI X N E tg (.Call (.Name "range" p) [a, b] [] pos) (ciR2 ca) :=
  PI.imp (pi_range2 hg hm ha hs hs2) fun σ H R q => by
    obtain ⟨W, σd, k, kx, rfl, o, s, h, hk, hx⟩ := q
    refine tAr.bind o s hx h fun W1 ds vs x1 o1 r1 s1 hx1 h1 => ?_
    match ds, r1, h1 with
    | [x, y], r1, h1 =>
      obtain ⟨v, u, rfl, ra, rb⟩ := rel2 r1
      cases x with
      | int i =>
        cases y with
        | int j =>
          simp only at h1
          cases e : rOk i with
          | false => rw [e] at h1; cases h1
          | true =>
            cases e2 : rOk j with
            | false => rw [e, e2] at h1; cases h1
            | true =>
              rw [e, e2] at h1
              rw [relInt ra, relInt rb]
              exact ⟨i, j, rfl, ⟨(rOk_ok e).1, (rOk_ok e).2, (rOk_ok e2).1, (rOk_ok e2).2⟩, hk W1 _ _ x1 o1 (by intro r l e; cases e) walkD_range h1⟩
        | _ => cases h1
      | _ => cases h1
    | [], _, h1 => cases h1
    | [_], _, h1 => simp at h1
    | _ :: _ :: _ :: _, _, h1 => simp at h1
/-! ### for -/
def forD (g : CG) (b : CS) (k : KS) : List D → SD → Hd → Bool
  | [], σ, η => k.nx σ η
  | d :: ds, σ, η => g d σ η (fun σ1 η1 => b σ1 η1 { k with nx := forD g b k ds, ct := forD g b k ds, bk := k.nx }) k.xc
def sFor (i : CI) (g : CG) (b : CS) : CS := fun σ η k => i σ η (fun it η1 => forD g b (k.thaw it) it.l σ (it.fr η1)) k.xc
theorem js_for {tg iter : Expr} {body : List Stmt} {ci : CI} {g : CG} {b : CS} {pos : Pos} (hp : PassesOwn (model X.prog X.w) X.A X.env X.xe) (hc : X.calm = true) (hi : JI X N E tg iter ci) (hg : JG X N E tg g) (hb : JB X N E body b)
    (hs : ∀ x, foldedSetIterable iter X.env x = pure x := by intro _; rfl) : JS X N E (.For tg iter body [] pos) (sFor ci g b) := PS.imp (ps_for hp hc hi hg hb hs) fun Z σ H q => by
  obtain ⟨W, σd, k, rfl, o, s, h, hk⟩ := q
  refine ⟨W, σd, _, k.xc, rfl, o, s, h, fun W1 it J x1 o1 fz wk h1 => ?_, hk.xc⟩
  obtain ⟨xf, of⟩ := Its.froze o1 fz
  have hk1 : Sk X.K N E (it.w W1) (k.thaw it) Z := (hk.mono o o1 x1).thaw o1 fz
  have s1 : RelS (it.w W1) σd σ := ((s.mono o x1).mono o1 xf)
  refine ⟨fun i m σ2 H2 => m = it.l.length - i ∧ i ≤ it.l.length ∧ ∃ W2 σd2, W2.H = H2 ∧ Ext (it.w W1) W2 ∧ W2.Ok X.K N.toNames ∧ RelS W2 σd2 σ2 ∧ forD g b (k.thaw it) (it.l.drop i) σd2 W2.η = true,
    ⟨it.l.length, by omega, Nat.zero_le _, it.w W1, σd, rfl, Ext.refl _, of, s1, h1⟩, ?_⟩
  rintro i m σ2 H2 ⟨rfl, hi, W2, σd2, rfl, x2, o2, s2, h2⟩
  by_cases hlt : i < it.l.length
  · refine .inr ⟨wk.go W2 i (x2.sty of) o2 hlt, fun σ3 H3 => ∃ W3 σd3, W3.H = H3 ∧ Ext (it.w W1) W3 ∧ W3.Ok X.K N.toNames ∧ RelS W3 σd3 σ3 ∧ forD g b (k.thaw it) (it.l.drop (i + 1)) σd3 W3.η = true, fun σ3 H3 p3 => ⟨it.l.length - (i + 1), by omega, rfl, hlt, p3⟩, fun y H3 hy => ?_⟩
    obtain ⟨W3, d, e3, x3, o3, eH, eη, r3⟩ := wk.yld W2 i y H3 (x2.sty of) o2 hlt hy
    subst eH
    have ed : it.l.drop i = d :: it.l.drop (i + 1) := by
      rw [List.drop_eq_getElem_cons hlt]
      have : it.l[i] = d := by
        have := List.getElem?_eq_getElem hlt
        rw [this] at e3; exact Option.some.inj e3
      rw [this]
    rw [ed] at h2
    have x03 := x2.trans of o2 x3
    have hk3 := hk1.mono of o3 x03
    refine ⟨W3, d, σd2, _, (k.thaw it).xc, rfl, o3, r3, s2.mono o2 x3, (by rw [eη]; exact h2), fun W4 σd4 σ4 x4 o4 s4 h4 => ?_, hk3.xc⟩
    have hk4 := hk3.mono o3 o4 x4
    have x04 := x03.trans of o3 x4
    exact ⟨W4, σd4, _, rfl, o4, s4, h4, ⟨fun W5 σd5 σ5 x5 o5 s5 h5 => ⟨W5, σd5, rfl, x04.trans of o4 x5, o5, s5, h5⟩, hk4.rt, hk4.nx, fun W5 σd5 σ5 x5 o5 s5 h5 => ⟨W5, σd5, rfl, x04.trans of o4 x5, o5, s5, h5⟩, hk4.xc⟩⟩
  · have e : i = it.l.length := by omega
    subst e
    rw [List.drop_length] at h2
    exact .inl ⟨wk.stop W2 (x2.sty of) o2, hk1.nx W2 σd2 σ2 x2 o2 s2 h2⟩

/-! ### while -/
end
end DL

/-! comprehensions -/
namespace DL
open PySem PySem.Spec L2
section
variable {X : Cx} {N : Nm} {E : XK}
/-! ### targets that store to slots of vs alone -/
def tGw (K : PySem.W.Frag) (N : Nm) (vs : List Nat) (c : CG) : TG := fun v σ H Q => ∃ W d σd k, W.H = H ∧ W.Ok K N.toNames ∧ RelD W d v ∧ RelS W σd σ ∧ c d σd W.η k (fun _ _ => false) = true ∧
  (∀ W' σd' σ', Ext W W' → W'.Ok K N.toNames → RelS W' σd' σ' → wipe σ' vs = wipe σ vs → k σd' W'.η = true → Q σ' W'.H)
def tGsw (K : PySem.W.Frag) (N : Nm) (vs : List Nat) (c : CGs) : TGs := fun us σ H Q => ∃ W ds σd k, W.H = H ∧ W.Ok K N.toNames ∧ RelDs W ds us ∧ RelS W σd σ ∧ c ds σd W.η k (fun _ _ => false) = true ∧
  (∀ W' σd' σ', Ext W W' → W'.Ok K N.toNames → RelS W' σd' σ' → wipe σ' vs = wipe σ vs → k σd' W'.η = true → Q σ' W'.H)
def JGw (X : Cx) (N : Nm) (vs : List Nat) (e : Expr) (c : CG) : Prop := PG X e (tGw X.K N vs c)
def JGsw (X : Cx) (N : Nm) (vs : List Nat) (e : List Expr) (c : CGs) : Prop := PGs X e (tGsw X.K N vs c)
theorem set_comm' {α : Type} (l : List α) (i j : Nat) (a b : α) (h : i ≠ j) : (l.set i a).set j b = (l.set j b).set i a := List.set_comm a b h
theorem wipe_set : ∀ (vs : List Nat) (σ : St) (i : Nat) (x : Option V), i ∈ vs → wipe (σ.set i x) vs = wipe σ vs
  | [], σ, i, x, h => nomatch h
  | v :: vs, σ, i, x, h => by
    by_cases z : i ∈ vs
    · show (wipe (σ.set i x) vs).set v none = (wipe σ vs).set v none
      rw [wipe_set vs σ i x z]
    · have e : i = v := by
        rcases List.mem_cons.mp h with e | e
        · exact e
        · exact absurd e z
      subst e
      show (wipe (σ.set i x) vs).set i none = (wipe σ vs).set i none
      have gen : ∀ (vs : List Nat) (σ : St), i ∉ vs → (wipe (σ.set i x) vs).set i none = (wipe σ vs).set i none := by
        intro vs
        induction vs with
        | nil => intro σ _; show (σ.set i x).set i none = σ.set i none; exact List.set_set _
        | cons u us ih =>
          intro σ hn
          have hu : u ≠ i := fun z => hn (by rw [z]; exact List.mem_cons_self)
          have hus : i ∉ us := fun z => hn (List.mem_cons_of_mem _ z)
          show ((wipe (σ.set i x) us).set u none).set i none = ((wipe σ us).set u none).set i none
          rw [set_comm' _ _ _ _ _ hu, set_comm' _ _ _ _ _ hu, ih σ hus]
      exact gen vs σ z
theorem wipe_wipe : ∀ (us : List Nat) (σ : St), wipe (wipe σ us) us = wipe σ us := by
  intro us
  induction us with
  | nil => intro σ; rfl
  | cons u us ih =>
    intro σ
    show (wipe ((wipe σ us).set u none) us).set u none = (wipe σ us).set u none
    by_cases z : u ∈ us
    · rw [wipe_set us _ u none z, ih]
    · have gen : ∀ (us : List Nat) (σ : St), u ∉ us → wipe (σ.set u none) us = (wipe σ us).set u none := by
        intro us
        induction us with
        | nil => intro σ _; rfl
        | cons a us ih2 =>
          intro σ hn
          have ha : u ≠ a := fun z => hn (by rw [z]; exact List.mem_cons_self)
          show (wipe (σ.set u none) us).set a none = ((wipe σ us).set a none).set u none
          rw [ih2 σ (fun z => hn (List.mem_cons_of_mem _ z)), set_comm' _ _ _ _ _ ha]
      rw [gen us _ z, ih, List.set_set]
theorem jgw_name {vs : List Nat} {i : Nat} {x : Str} {pos : Pos} (h : PG X (.Name x pos) (gName i)) (hi : i ∈ vs := by decide) : JGw X N vs (.Name x pos) (gNm i) := PG.imp h fun v σ H Q q => by
  obtain ⟨W, d, σd, k, rfl, o, r, s, h, hk⟩ := q
  exact hk W _ _ (Ext.refl W) o (s.set i r) (wipe_set vs σ i _ hi) h
theorem jgsw_nil {vs : List Nat} : JGsw X N vs [] gsNil := PGs.imp pgs_nil fun v σ H Q q => by
  obtain ⟨W, ds, σd, k, rfl, o, r, s, h, hk⟩ := q
  cases ds with
  | nil => rw [RelDs] at r; exact ⟨r, hk W _ _ (Ext.refl W) o s rfl h⟩
  | cons _ _ => cases h
theorem jgsw_cons {vs : List Nat} {e : Expr} {es : List Expr} {g : CG} {r : CGs} (hg : JGw X N vs e g) (hr : JGsw X N vs es r) (ha : ((assignEach (e :: es) X.env).map (·.2)) = assign e X.env :: ((assignEach es X.env).map (·.2)) := by rfl) : JGsw X N vs (e :: es) (gsCons g r) := PGs.imp (pgs_cons hg hr ha) fun v σ H Q q => by
  obtain ⟨W, ds, σd, k, rfl, o, rr, s, h, hk⟩ := q
  cases ds with
  | nil => cases h
  | cons d ds =>
    rw [RelDs] at rr
    obtain ⟨v, vs', rfl, r1, r2⟩ := rr
    exact ⟨v, vs', rfl, W, d, σd, _, rfl, o, r1, s, h, fun W1 σd1 σ1 x1 o1 s1 w1 h1 => ⟨W1, ds, σd1, k, rfl, o1, r2.mono o x1, s1, h1, fun W2 σd2 σ2 x2 o2 s2 w2 h2 => hk W2 σd2 σ2 (x1.trans o o1 x2) o2 s2 (w2.trans w1) h2⟩⟩
theorem jgw_tup {vs : List Nat} {es : List Expr} {kk : Nat} {pos : Pos} {r : CGs} {n : Nat} (hc : X.calm = true) (h : JGsw X N vs es r) (hl : (assignEach es X.env).length = n := by rfl) (hf : (assignEach es X.env).findIdx? (·.1) = none := by rfl) : JGw X N vs (.Tuple es kk pos) (gTp n r) :=
  PG.imp (pg_tup (n := n) hc h hl hf) fun v σ H Q q => by
    obtain ⟨W, d, σd, k, rfl, o, rr, s, h, hk⟩ := q
    cases d with
    | tup ds =>
      simp only [gTp] at h
      cases e : Nat.beq ds.length n with
      | false => rw [e] at h; cases h
      | true =>
        rw [e] at h
        obtain ⟨a, vs', rfl, hs, rs⟩ := relTup rr
        exact ⟨a, vs', rfl, SqT.of hs, by rw [← rs.length]; exact Nat.eq_of_beq_eq_true e, W, ds, σd, k, rfl, o, rs, s, h, hk⟩
    | _ => cases h
/-! ### the tests -/
def JTs (X : Cx) (N : Nm) (E : XK) (ifs : List Expr) (c : CT) : Prop := PTs X ifs (tT X.K N E c)
theorem PTs.imp {ifs : List Expr} {t t' : TT} (h : PTs X ifs t) (f : ∀ σ H Q, t' σ H Q → t σ H Q) : PTs X ifs t' := ⟨fun pins s σ H Q I q => h.run pins s σ H Q I (f σ H Q q)⟩
def ctYes : CT := fun _ η k _ => k true η
theorem jts_nil : JTs X N E [] ctYes := PTs.imp pts_nil fun σ H Q q => by
  obtain ⟨W, σd, k, kx, rfl, o, s, h, hk, hx⟩ := q
  exact hk W true (Ext.refl W) o h
theorem jts_one {c : Expr} {t : CT} (h : JT X N E c t) : JTs X N E [c] t := pts_one h
/-! ### the block -/
def wipeD (σ : SD) : List Nat → SD
  | [] => σ
  | v :: vs => (wipeD σ vs).set v none
theorem RelS.wipe {W : Wl} {σd : SD} {σ : St} (h : RelS W σd σ) : ∀ vs : List Nat, RelS W (wipeD σd vs) (L2.wipe σ vs)
  | [] => h
  | v :: vs => (RelS.wipe h vs).none_at v none
def kF : KX := fun _ _ => false
theorem Xk.never {K : PySem.W.Frag} {W : Wl} : Xk K N E W kF := fun _ _ _ _ _ _ _ h => nomatch h
def lcD (g : CG) (t : CT) (e : CE) (σ : SD) (k : List D → Hd → Bool) : List D → Nat → List D → Hd → Bool
  | [], _, acc, η => k acc.reverse η
  | _ :: _, 0, _, _ => false
  | d :: ds, n + 1, acc, η => g d σ η (fun σ1 η1 => t σ1 η1 (fun b η2 => match b with
    | true => e σ1 η2 (fun y η3 => lcD g t e σ k ds n (y :: acc) η3) kF
    | false => lcD g t e σ k ds n acc η2) kF) kF
def Hd.bump (η : Hd) : Hd := ⟨Nat.succ η.nx, η.cs⟩
def line1 : Nat := 16777215
def cLc (i : CI) (g : CG) (t : CT) (e : CE) (vs : List Nat) : CE := fun σ η kv kx => i σ η (fun it η1 => lcD g t e (wipeD σ vs) (fun acc η2 => kv (.ref η1.nx) ((it.un η2).add η1.nx (.lst acc))) it.l line1 [] (Hd.bump (it.fr η1))) kx
/-- the worlds of a comprehension's loop: the list's own cell g laid aside -/
structure Lc (K : PySem.W.Frag) (N : Nm) (Wb : Wl) (g : Nat) (Da : Addr) (W : Wl) (acc : List D) : Prop where
  ok : W.Ok K N.toNames
  off : W.η.get g = none
  x : Ext Wb ⟨W.μ, W.η.add g (.lst acc.reverse), W.H⟩
  og : Wl.Ok K N.toNames ⟨W.μ, W.η.add g (.lst acc.reverse), W.H⟩
  at_ : W.μ g = Da
theorem Lc.drop {K : PySem.W.Frag} {Wb W0 : Wl} {g : Nat} {Da : Addr} {W : Wl} {acc : List D} (h : Lc K N Wb g Da W acc) (ob : Wb.Ok K N.toNames) (o0 : W0.Ok K N.toNames) (x0 : Ext W0 Wb) : Ext W0 W := by
  have := (x0.trans o0 ob h.x).drop (η' := W.η) h.og rfl (fun r c e => by
    show (W.η.add g (.lst acc.reverse)).get r = some c
    rw [Hd.get_add]
    by_cases z : r = g
    · rw [z, h.off] at e; cases e
    · rw [if_neg z]; exact e)
  exact this.1
theorem Hd.set_add (η : Hd) (g : Nat) (c c' : Cell) : (η.add g c).set g c' = η.add g c' := by
  unfold Hd.add Hd.set put
  simp [Nat.beq_refl]
/-- behind a step, the list's cell laid again and one item more -/
theorem Lc.grow {K : PySem.W.Frag} {Wb : Wl} {g : Nat} {Da : Addr} {W W2 : Wl} {acc : List D} {y : D} {v : V} (h : Lc K N Wb g Da W acc) (ob : Wb.Ok K N.toNames) (x : Ext W W2) (o2 : W2.Ok K N.toNames) (r : RelD W2 y v) (hl : acc.length < sizeLine) :
    ∃ vs, W2.H Da = some (.lst vs) ∧ vs.length < sizeLine ∧ Lc K N Wb g Da ⟨W2.μ, W2.η, upd W2.H Da (.lst (vs ++ [v]))⟩ (y :: acc) ∧ Tx W2 ⟨W2.μ, W2.η, upd W2.H Da (.lst (vs ++ [v]))⟩ := by
  have gg : (W.η.add g (.lst acc.reverse)).get g = some (.lst acc.reverse) := by rw [Hd.get_add, if_pos rfl]
  have gnx : g < W.η.nx := h.og.lt g _ gg
  obtain ⟨x2, og2⟩ := h.og.readd (W2 := W2) (g := g) gg (η0 := W.η) rfl (fun q => by
    show W.η.get q = if q = g then none else (W.η.add g (.lst acc.reverse)).get q
    by_cases z : q = g
    · rw [if_pos z, z, h.off]
    · rw [if_neg z, Hd.get_add, if_neg z]) x o2
  have gg2 : (W2.η.add g (.lst acc.reverse)).get g = some (.lst acc.reverse) := by rw [Hd.get_add, if_pos rfl]
  have ma : W2.μ g = Da := by rw [x.mu g gnx, h.at_]
  obtain ⟨vs, h1, h2, h3⟩ := og2.cell g _ gg2
  have h1' : W2.H Da = some (.lst vs) := by rw [← ma]; exact h1
  have hlen : vs.length = acc.length := by rw [← h2.length, List.length_reverse]
  have t2 : Tx W2 ⟨W2.μ, W2.η.add g (.lst acc.reverse), W2.H⟩ := ⟨Nat.le_refl _, fun _ _ => rfl, fun _ _ e => e, fun _ _ _ e => e⟩
  obtain ⟨x3, og3⟩ := og2.put (r := g) (c0 := .lst acc.reverse) (c := .lst (acc.reverse ++ [y])) (ob := .lst (vs ++ [v])) gg2 rfl (fun xx => ⟨_, upd_same, (h2.mono og2 xx).append (.cons ((r.tx t2).mono og2 xx) .nil), by rw [List.length_append, List.length_reverse]; show acc.length + 1 ≤ sizeLine; omega⟩)
  have eW : Wl.put ⟨W2.μ, W2.η.add g (.lst acc.reverse), W2.H⟩ g (.lst (acc.reverse ++ [y])) (.lst (vs ++ [v])) = ⟨W2.μ, W2.η.add g (.lst (y :: acc).reverse), upd W2.H Da (.lst (vs ++ [v]))⟩ := by
    unfold Wl.put
    show Wl.mk W2.μ ((W2.η.add g (.lst acc.reverse)).set g (.lst (acc.reverse ++ [y]))) (upd W2.H (W2.μ g) (.lst (vs ++ [v]))) = _
    rw [Hd.set_add, ma, List.reverse_cons]
  rw [eW] at x3 og3
  have off2 : W2.η.get g = none := by
    cases e : W2.η.get g with
    | none => rfl
    | some c =>
      rcases x.cs g c e with ⟨c0, e0, _⟩ | ⟨h4, _⟩
      · rw [h.off] at e0; cases e0
      · omega
  have xb : Ext Wb ⟨W2.μ, W2.η.add g (.lst (y :: acc).reverse), upd W2.H Da (.lst (vs ++ [v]))⟩ := (h.x.trans ob h.og x2).trans ob og2 x3
  have sub : ∀ r c, W2.η.get r = some c → (W2.η.add g (.lst (y :: acc).reverse)).get r = some c := fun r c e => by
    rw [Hd.get_add]
    by_cases z : r = g
    · rw [z, off2] at e; cases e
    · rw [if_neg z]; exact e
  have dr := xb.drop (η' := W2.η) og3 rfl sub
  refine ⟨vs, h1', by omega, ⟨dr.2, off2, xb, og3, ma⟩, Nat.le_refl _, fun _ _ => rfl, fun a us e => ?_, fun a _ us e => ?_⟩
  · show upd W2.H Da _ a = some (.tup us)
    rw [upd_ne (fun z => by rw [z, h1'] at e; cases e)]; exact e
  · show upd W2.H Da _ a = _
    rw [upd_ne (fun z => by rw [z, h1'] at e; cases e)]; exact e
/-- behind a step without an item -/
theorem Lc.step {K : PySem.W.Frag} {Wb : Wl} {g : Nat} {Da : Addr} {W W2 : Wl} {acc : List D} (h : Lc K N Wb g Da W acc) (ob : Wb.Ok K N.toNames) (x : Ext W W2) (o2 : W2.Ok K N.toNames) : Lc K N Wb g Da W2 acc := by
  have gg : (W.η.add g (.lst acc.reverse)).get g = some (.lst acc.reverse) := by rw [Hd.get_add, if_pos rfl]
  have gnx : g < W.η.nx := h.og.lt g _ gg
  obtain ⟨x2, og2⟩ := h.og.readd (W2 := W2) (g := g) gg (η0 := W.η) rfl (fun q => by
    show W.η.get q = if q = g then none else (W.η.add g (.lst acc.reverse)).get q
    by_cases z : q = g
    · rw [if_pos z, z, h.off]
    · rw [if_neg z, Hd.get_add, if_neg z]) x o2
  refine ⟨o2, ?_, h.x.trans ob h.og x2, og2, by rw [x.mu g gnx, h.at_]⟩
  cases e : W2.η.get g with
  | none => rfl
  | some c =>
    rcases x.cs g c e with ⟨c0, e0, _⟩ | ⟨h4, _⟩
    · rw [h.off] at e0; cases e0
    · omega
/-- the start of a comprehension's list -/
theorem Lc.start {K : PySem.W.Frag} {Wf : Wl} {Da : Addr} (of : Wf.Ok K N.toNames) (hD : Wf.H Da = none) : (∃ ob : (Wf.new Da (.lst []) (.lst [])).Ok K N.toNames, Ext Wf (Wf.new Da (.lst []) (.lst []))) ∧
    Lc K N (Wf.new Da (.lst []) (.lst [])) Wf.η.nx Da ⟨(Wf.new Da (.lst []) (.lst [])).μ, Hd.bump Wf.η, upd Wf.H Da (.lst [])⟩ [] := by
  obtain ⟨x, o⟩ := of.new (c := .lst []) (ob := .lst []) hD ⟨[], upd_same, .nil, Nat.zero_le _⟩
  have off : (Hd.bump Wf.η).get Wf.η.nx = none := by
    cases e : Wf.η.get Wf.η.nx with
    | none => exact e
    | some c => exact absurd (of.lt _ c e) (Nat.lt_irrefl _)
  have e : Wl.mk (Wf.new Da (.lst []) (.lst [])).μ ((Hd.bump Wf.η).add Wf.η.nx (.lst [])) (upd Wf.H Da (.lst [])) = Wf.new Da (.lst []) (.lst []) := rfl
  have dr := x.drop (η' := Hd.bump Wf.η) o rfl (fun r c h => by
    show (Wf.η.new (.lst [])).get r = some c
    rw [Hd.get_new]
    by_cases z : r = Wf.η.nx
    · rw [z, off] at h; cases h
    · rw [if_neg z]; exact h)
  exact ⟨⟨o, x⟩, dr.2, off, (by rw [List.reverse_nil, e]; exact Ext.refl _), (by rw [List.reverse_nil, e]; exact o), Wl.new_mu Wf Da (.lst []) (.lst [])⟩
theorem Its.un_add (it : Its) (η : Hd) (g : Nat) (c : Cell) (h : ∀ r l, it.fz = some (r, l) → r ≠ g) : it.un (η.add g c) = (it.un η).add g c := by
  unfold Its.un
  cases e : it.fz with
  | none => rfl
  | some p =>
    obtain ⟨r, l⟩ := p
    have hne := h r l e
    have e2 : Nat.beq g r = false := by
      cases z : Nat.beq g r with
      | false => rfl
      | true => exact absurd (Nat.eq_of_beq_eq_true z).symm hne
    show unfAt r l (η.add g c) = (unfAt r l η).add g c
    unfold unfAt Hd.set Hd.add
    have : put r (Cell.lst l) ((g, c) :: η.cs) = (g, c) :: put r (Cell.lst l) η.cs := by
      rw [put]; simp only [e2]
    simp only [this]
theorem lc_of {E' : XK} {K : PySem.W.Frag} {ci : CI} {g : CG} {t : CT} {e : CE} {vs : List Nat} {σ : St} {H : Hp} {Q : VK} (h : tE K N E (cLc ci g t e vs) σ H Q) : tLc (tI K N E ci) (tGw K N vs g) (tT K N E' t) (tE K N E' e) vs σ H Q := by
  obtain ⟨W, σd, kv, kx, rfl, o, s, h, hv, hx⟩ := h
  refine ⟨W, σd, _, kx, rfl, o, s, h, fun W1 it J x1 o1 fz wk h1 => fun Da hD => ?_, hx⟩
  obtain ⟨xf, of⟩ := Its.froze o1 fz
  have enx : (it.w W1).η.nx = W1.η.nx := by
    unfold Its.w Its.fr
    cases it.fz with
    | none => rfl
    | some p => rfl
  obtain ⟨⟨ob, xb⟩, L0⟩ := Lc.start (N := N) (Da := Da) of hD
  generalize hWb : (it.w W1).new Da (.lst []) (.lst []) = Wb at ob xb L0
  rw [enx] at L0
  have s0 : RelS (it.w W1) (wipeD σd vs) (wipe σ vs) := ((s.mono o x1).mono o1 xf).wipe vs
  refine ⟨fun i m H2 => m = it.l.length - i ∧ i ≤ it.l.length ∧ ∃ W2 acc n, W2.H = H2 ∧ Lc K N Wb W1.η.nx Da W2 acc ∧ acc.length + n ≤ line1 ∧ lcD g t e (wipeD σd vs) (fun acc η2 => kv (.ref W1.η.nx) ((it.un η2).add W1.η.nx (.lst acc))) (it.l.drop i) n acc W2.η = true,
    ⟨it.l.length, by omega, Nat.zero_le _, _, [], line1, rfl, L0, by simp, h1⟩, ?_⟩
  rintro i m H2 ⟨rfl, hi, W2, acc, n, rfl, L2', hn, h2⟩
  have xf2 : Ext (it.w W1) W2 := L2'.drop ob of xb
  have s2 : RelS W2 (wipeD σd vs) (wipe σ vs) := s0.mono of xf2
  by_cases hlt : i < it.l.length
  · refine .inr ⟨wk.go W2 i (xf2.sty of) L2'.ok hlt, fun H3 => ∃ W3 acc n, W3.H = H3 ∧ Lc K N Wb W1.η.nx Da W3 acc ∧ acc.length + n ≤ line1 ∧ lcD g t e (wipeD σd vs) (fun acc η2 => kv (.ref W1.η.nx) ((it.un η2).add W1.η.nx (.lst acc))) (it.l.drop (i + 1)) n acc W3.η = true, fun H3 p3 => ⟨it.l.length - (i + 1), by omega, rfl, hlt, p3⟩, fun y H3 hy => ?_⟩
    obtain ⟨W3, d, e3, x3, o3, eH, eη, r3⟩ := wk.yld W2 i y H3 (xf2.sty of) L2'.ok hlt hy
    subst eH
    have ed : it.l.drop i = d :: it.l.drop (i + 1) := by
      rw [List.drop_eq_getElem_cons hlt]
      have : it.l[i] = d := by
        have := List.getElem?_eq_getElem hlt
        rw [this] at e3; exact Option.some.inj e3
      rw [this]
    rw [ed] at h2
    cases n with
    | zero => cases h2
    | succ n =>
      refine ⟨W3, d, wipeD σd vs, _, rfl, o3, r3, s2.mono L2'.ok x3, (by rw [eη]; exact h2), fun W4 σd4 σ4 x4 o4 s4 w4 h4 => ⟨w4.trans (wipe_wipe vs σ), ?_⟩⟩
      refine tT.bind (kx := kF) o4 s4 Xk.never h4 fun W5 b x5 o5 s5 hx5 h5 => ?_
      have x25 : Ext W2 W5 := x3.trans L2'.ok o3 (x4.trans o3 o4 x5)
      cases b with
      | true =>
        rw [if_pos rfl]
        refine tE.bind (kx := kF) o5 s5 Xk.never h5 fun W6 dy vy x6 o6 r6 s6 hx6 h6 => ?_
        have hll : line1 = 16777215 := rfl
        have hls : sizeLine = 16777216 := rfl
        obtain ⟨us, g1, g2, L6, t6⟩ := L2'.grow ob (x25.trans L2'.ok o5 x6) o6 r6 (by omega)
        exact ⟨us, g1, g2, _, dy :: acc, n, rfl, L6, by rw [List.length_cons]; omega, h6⟩
      | false =>
        rw [if_neg (by decide)]
        exact ⟨W5, acc, n, rfl, L2'.step ob x25 o5, by omega, h5⟩
  · have ei : i = it.l.length := by omega
    subst ei
    rw [List.drop_length] at h2
    refine .inl ⟨wk.stop W2 (xf2.sty of) L2'.ok, ?_⟩
    have h2' : kv (.ref W1.η.nx) ((it.un W2.η).add W1.η.nx (.lst acc.reverse)) = true := h2
    have xg : Ext (it.w W1) ⟨W2.μ, W2.η.add W1.η.nx (.lst acc.reverse), W2.H⟩ := xb.trans of ob L2'.x
    obtain ⟨xt, ot⟩ := Its.thaw o1 fz xg L2'.og
    have eu : it.un (W2.η.add W1.η.nx (.lst acc.reverse)) = (it.un W2.η).add W1.η.nx (.lst acc.reverse) := Its.un_add it _ _ _ fun r l er => Nat.ne_of_lt (o1.lt r _ (fz r l er))
    refine hv ⟨W2.μ, it.un (W2.η.add W1.η.nx (.lst acc.reverse)), W2.H⟩ (.ref W1.η.nx) (.ref Da) (x1.trans o o1 xt) ot ?_ (by show kv _ (it.un (W2.η.add W1.η.nx (.lst acc.reverse))) = true; rw [eu]; exact h2')
    rw [RelD]
    refine ⟨?_, by rw [L2'.at_]⟩
    show W1.η.nx < (it.un (W2.η.add W1.η.nx (.lst acc.reverse))).nx
    rw [Its.un_nx]
    exact L2'.og.lt W1.η.nx (.lst acc.reverse) (by show (W2.η.add W1.η.nx (.lst acc.reverse)).get _ = _; rw [Hd.get_add, if_pos rfl])
theorem je_lc {E' : XK} {elt tg iter : Expr} {ifs : List Expr} {scope : Scope} {own : List (Str × Nat)} {pos : Pos} {ci : CI} {g : CG} {t : CT} {e : CE} (hc : X.calm = true) (hN : X.N.Nodup) (hi : JI X N E tg iter ci) (ok : BlkOk X.N X.env.scope scope own)
    (hg : ∀ (s : Shared) (H : Hp) (C : Addr) (cl : List (Str × Addr)) (fp : List Addr), JGw (X.blk s H scope (compEnvC scope cl C X.env) fp) N (own.map (·.2)) tg g) (ht : ∀ (s : Shared) (H : Hp) (C : Addr) (cl : List (Str × Addr)) (fp : List Addr), JTs (X.blk s H scope (compEnvC scope cl C X.env) fp) N E' ifs t)
    (he : ∀ (s : Shared) (H : Hp) (C : Addr) (cl : List (Str × Addr)) (fp : List Addr), JE (X.blk s H scope (compEnvC scope cl C X.env) fp) N E' elt e) (hs : ∀ x, foldedSetIterable iter X.env x = pure x := by intro _; rfl) :
    JE X N E (.ListComp elt [⟨tg, iter, ifs, 0⟩] scope pos) (cLc ci g t e (own.map (·.2))) := PE.imp (pe_lc (g := tGw X.K N (own.map (fun p : Str × Nat => p.2)) g) (tt := tT X.K N E' t) (te := tE X.K N E' e) hc hN hi ok hg ht he hs) fun σ H Q q => lc_of q
/-- y = [..] on one line, y a local -/
theorem js_setLc {E' : XK} {i : Nat} {y : Str} {py : Pos} {elt tg iter : Expr} {ifs : List Expr} {scope : Scope} {own : List (Str × Nat)} {pos spos : Pos} {ci : CI} {g : CG} {t : CT} {e : CE} (hc : X.calm = true) (hN : X.N.Nodup) (hy : X.N[i]? = some y) (hyl : X.env.scope.names.lookup y = some .local)
    (hsw : swapsWith (.ListComp elt [⟨tg, iter, ifs, 0⟩] scope pos) (some (.Name y py)) spos.line X.env = pure true) (hi : JI X N E tg iter ci) (ok : BlkOk X.N X.env.scope scope own)
    (hg : ∀ (s : Shared) (H : Hp) (C : Addr) (cl : List (Str × Addr)) (fp : List Addr), JGw (X.blk s H scope (compEnvC scope cl C X.env) fp) N (own.map (·.2)) tg g) (ht : ∀ (s : Shared) (H : Hp) (C : Addr) (cl : List (Str × Addr)) (fp : List Addr), JTs (X.blk s H scope (compEnvC scope cl C X.env) fp) N E' ifs t)
    (he : ∀ (s : Shared) (H : Hp) (C : Addr) (cl : List (Str × Addr)) (fp : List Addr), JE (X.blk s H scope (compEnvC scope cl C X.env) fp) N E' elt e) (hs : ∀ x, foldedSetIterable iter X.env x = pure x := by intro _; rfl) :
    JS X N E (.Assign [.Name y py] (.ListComp elt [⟨tg, iter, ifs, 0⟩] scope pos) spos) (sAsg (cLc ci g t e (own.map (·.2))) (gNm i)) :=
  PS.imp (ps_setLc (g := tGw X.K N (own.map (fun p : Str × Nat => p.2)) g) (tt := tT X.K N E' t) (te := tE X.K N E' e) hc hN hy hyl hsw hi ok hg ht he hs) fun Z σ H q => tAsg_name (fun _ _ _ h => lc_of h) q
/-! ### two fors -/
theorem Its.fr_add (it : Its) (η : Hd) (g : Nat) (c : Cell) (h : ∀ r l, it.fz = some (r, l) → r ≠ g) : it.fr (η.add g c) = (it.fr η).add g c := by
  unfold Its.fr
  cases e : it.fz with
  | none => rfl
  | some p =>
    obtain ⟨r, l⟩ := p
    have hne := h r l e
    have e2 : Nat.beq g r = false := by
      cases z : Nat.beq g r with
      | false => rfl
      | true => exact absurd (Nat.eq_of_beq_eq_true z).symm hne
    show frzAt r l (η.add g c) = (frzAt r l η).add g c
    unfold frzAt Hd.set Hd.add
    have : put r (Cell.frz l) ((g, c) :: η.cs) = (g, c) :: put r (Cell.frz l) η.cs := by
      rw [put]; simp only [e2]
    simp only [this]
theorem Its.fr_none (it : Its) {η : Hd} {g : Nat} (h : η.get g = none) : (it.fr η).get g = none := by
  unfold Its.fr
  cases e : it.fz with
  | none => exact h
  | some p =>
    obtain ⟨r, l⟩ := p
    show (η.set r (.frz l)).get g = none
    rw [Hd.get_set]
    by_cases z : g = r
    · rw [if_pos z, ← z, h]; rfl
    · rw [if_neg z]; exact h
theorem Its.un_none (it : Its) {η : Hd} {g : Nat} (h : η.get g = none) : (it.un η).get g = none := by
  unfold Its.un
  cases e : it.fz with
  | none => exact h
  | some p =>
    obtain ⟨r, l⟩ := p
    show (η.set r (.lst l)).get g = none
    rw [Hd.get_set]
    by_cases z : g = r
    · rw [if_pos z, ← z, h]; rfl
    · rw [if_neg z]; exact h
/-- a walk within: its cell frozen over the list that grows -/
theorem Lc.freeze {K : PySem.W.Frag} {Wb : Wl} {g : Nat} {Da : Addr} {W : Wl} {acc : List D} {it : Its} (h : Lc K N Wb g Da W acc) (fz : FzOk W it) :
    ∃ Wf, Wf.Ok K N.toNames ∧ Lc K N Wf g Da (it.w W) acc ∧ (∀ W2 acc2, Lc K N Wf g Da W2 acc2 → Sty (it.w W) W2) ∧ (Wb.Ok K N.toNames → ∀ W2 acc2, Lc K N Wf g Da W2 acc2 → Lc K N Wb g Da ⟨W2.μ, it.un W2.η, W2.H⟩ acc2) := by
  have ne : ∀ r l, it.fz = some (r, l) → r ≠ g := fun r l e z => by
    have := fz r l e
    rw [z, h.off] at this; cases this
  have fzg : FzOk ⟨W.μ, W.η.add g (.lst acc.reverse), W.H⟩ it := fun r l e => by
    show (W.η.add g (.lst acc.reverse)).get r = some (.lst l)
    rw [Hd.get_add, if_neg (ne r l e)]; exact fz r l e
  obtain ⟨xf, of⟩ := Its.froze h.og fzg
  have ew : it.w ⟨W.μ, W.η.add g (.lst acc.reverse), W.H⟩ = ⟨W.μ, (it.fr W.η).add g (.lst acc.reverse), W.H⟩ := by
    show Wl.mk W.μ (it.fr (W.η.add g (.lst acc.reverse))) W.H = _
    rw [Its.fr_add it _ _ _ ne]
  rw [ew] at xf of
  refine ⟨⟨W.μ, (it.fr W.η).add g (.lst acc.reverse), W.H⟩, of, ⟨(Its.froze h.ok fz).2, Its.fr_none it h.off, Ext.refl _, of, h.at_⟩, fun W2 acc2 L => ⟨?_, fun r l us hr hv => ?_, fun r tt l ob2 us hr hv => ?_⟩, fun ob W2 acc2 L => ?_⟩
  · have t := L.x.tx of
    exact ⟨t.nx, t.mu, t.tp, t.tf⟩
  · refine L.x.fr _ _ hv (fun _ z => nomatch z) fun q c e m z => ?_
    have hr' : ((it.fr W.η).add g (.lst acc.reverse)).get r = some (.frz l) := by
      rw [Hd.get_add]
      by_cases y : r = g
      · have hr2 : (it.fr W.η).get r = some (.frz l) := hr
        rw [y, Its.fr_none it h.off] at hr2; cases hr2
      · rw [if_neg y]; exact hr
    by_cases y : q = r
    · rw [y] at e
      have e' : ((it.fr W.η).add g (.lst acc.reverse)).get r = some c := e
      rw [hr'] at e'; cases e'; cases m
    · exact of.apart hr' e y z
  · refine L.x.fr _ _ hv (fun _ z => nomatch z) fun q c e m z => ?_
    have hr' : ((it.fr W.η).add g (.lst acc.reverse)).get r = some (.ldc tt l) := by
      rw [Hd.get_add]
      by_cases y : r = g
      · have hr2 : (it.fr W.η).get r = some (.ldc tt l) := hr
        rw [y, Its.fr_none it h.off] at hr2; cases hr2
      · rw [if_neg y]; exact hr
    by_cases y : q = r
    · rw [y] at e
      have e' : ((it.fr W.η).add g (.lst acc.reverse)).get r = some c := e
      rw [hr'] at e'; cases e'; cases m
    · exact of.apart hr' e y z
  · have x2 : Ext (it.w ⟨W.μ, W.η.add g (.lst acc.reverse), W.H⟩) ⟨W2.μ, W2.η.add g (.lst acc2.reverse), W2.H⟩ := by rw [ew]; exact L.x
    obtain ⟨xt, ot⟩ := Its.thaw h.og fzg x2 L.og
    have eu : it.un (W2.η.add g (.lst acc2.reverse)) = (it.un W2.η).add g (.lst acc2.reverse) := Its.un_add it _ _ _ ne
    have xt' : Ext ⟨W.μ, W.η.add g (.lst acc.reverse), W.H⟩ ⟨W2.μ, (it.un W2.η).add g (.lst acc2.reverse), W2.H⟩ := by rw [← eu]; exact xt
    have ot' : Wl.Ok K N.toNames ⟨W2.μ, (it.un W2.η).add g (.lst acc2.reverse), W2.H⟩ := by rw [← eu]; exact ot
    have off' := Its.un_none it L.off
    have dr := xt'.drop (η' := it.un W2.η) ot' rfl (fun r c e => by
      show ((it.un W2.η).add g (.lst acc2.reverse)).get r = some c
      rw [Hd.get_add]
      by_cases z : r = g
      · rw [z, off'] at e; cases e
      · rw [if_neg z]; exact e)
    exact ⟨dr.2, off', h.x.trans ob h.og xt', ot', L.at_⟩
end
end DL

/-! defs, calls, exceptions -/
namespace DL
open PySem PySem.Spec L2
abbrev CF := List D → Hd → KV → KX → Bool
def spD (K : PySem.W.Frag) (N : Nm) (F : CF) : Sp := fun vs H Q E => ∃ W ds kv kx, W.H = H ∧ W.Ok K N.toNames ∧ RelDs W ds vs ∧ F ds W.η kv kx = true ∧ Vk K N W kv Q ∧ Xk K N E W kx
abbrev JF (P : Program) (w : World) (K : PySem.W.Frag) (mg : Str → Option Value) (base : Heap) (k : Nat) (f : Addr) (fd : FuncData) (ps : List Str) (N : Nm) (F : CF) : Prop := FnOk P w K mg base (L2.CX P w) k f fd ps (spD K N F)
section
variable {X : Cx} {N : Nm} {E : XK}
def cCall (F : CF) (a : CA) : CE := fun σ η kv kx => a σ η (fun ds η1 => F ds η1 kv kx) kx
theorem je_call {k : Nat} {f : Addr} {fd : FuncData} {ps : List Str} {F : CF} {x : Str} {e : Expr} {es : List Expr} {c : CA} {p pos : Pos} (G : JF X.prog X.w X.K X.mg X.base k f fd ps N F) (hr : Room k X.A) (hg : Gl X x) (hm : X.mg x = some (.ref f)) (hk : PySem.W.keepIn X.K (.ref f) = true) (hb : Binds X.K fd ps [])
    (hx : Passes (L2.CX X.prog X.w) X E) (ha : JA X N E (e :: es) c) (hdb : (x == ("__debug__" : Str)) = false := by decide) (hs : starEach (e :: es) X.env = (false, eval e X.env) :: starEach es X.env := by rfl)
    (hpl : (backTo pos (starEach es X.env)).any (·.1) = false := by rfl) : JE X N E (.Call (.Name x p) (e :: es) [] pos) (cCall F c) :=
  PE.imp (pe_call G hr hg hm hk hb .nil hx ha hdb hs hpl) fun σ H Q q => by
    obtain ⟨W, σd, kv, kx, rfl, o, s, h, hv, hxx⟩ := q
    refine tAr.bind o s hxx h fun W1 ds vs x1 o1 r1 s1 hx1 h1 => ?_
    rw [List.append_nil]
    exact ⟨W1, ds, kv, kx, rfl, o1, r1, h1, hv.mono o o1 x1, hx1⟩
/-! ### the body of a def -/
def startD (n m : Nat) (ds : List D) : SD := ds.map some ++ List.replicate (m - n) none
/-- a def of n parameters and m slots -/
def cDef (n m : Nat) (b : CS) : CF := fun ds η kv kx => match Nat.beq ds.length n with
  | true => b (startD n m ds) η ⟨fun _ η1 => kv .non η1, kv, fun _ _ => false, fun _ _ => false, kx⟩
  | false => false
theorem rel_start {W : Wl} {N : List Str} {ds : List D} {vs : List V} (r : RelDs W ds vs) : RelS W (startD ds.length N.length ds) (L2.start N vs) := by
  unfold startD L2.start
  have hl := r.length
  refine ⟨by simp [hl], fun i d e => ?_⟩
  by_cases hi : i < ds.length
  · rw [List.getElem?_append_left (by simpa using hi), List.getElem?_map] at e
    cases q : ds[i]? with
    | none => rw [q] at e; cases e
    | some d' =>
      rw [q] at e
      simp only [Option.map_some, Option.some.injEq] at e
      subst e
      obtain ⟨v, e1, e2⟩ := r.get' q
      refine ⟨v, ?_, e2⟩
      rw [List.getElem?_append_left (by rw [List.length_map, ← hl]; exact hi), List.getElem?_map, e1]; rfl
  · rw [List.getElem?_append_right (by simpa using Nat.le_of_not_lt hi)] at e
    have := List.mem_of_getElem? e
    rw [List.mem_replicate] at this
    cases this.2
section
variable {P : Program} {w : World} {K : PySem.W.Frag} {mg : Str → Option Value} {base : Heap}
theorem jf_def {x qual : Str} {st : Stmt} {f : Addr} {fd : FuncData} {Ns ps : List Str} {k : Nat} {b : CS} (F : Fun K x qual st f fd) (S : FnScope Ns ps (defScope st))
    (hbody : ∀ (cdv : Value) (A : Around) (outer : List Env) (s : Shared) (H : Hp) (E : XK), Room k (A.deeper (PyProof.Rows.envOfC qual (defScope st) s.heap.objs.size f cdv)) → JB (cxOf (L2.CX P w) P w K mg base Ns qual (defScope st) f cdv A outer s H E) N E (defBody st) b) :
    JF P w K mg base (k + 1) f fd ps N (cDef ps.length Ns.length b) := by
  refine F.okX S (fun vs H Q E h => ?_) (fun cdv A outer s H vs Q E hr h => ?_)
  · obtain ⟨W, ds, kv, kx, _, _, r, h, _⟩ := h
    unfold cDef at h
    cases e : Nat.beq ds.length ps.length with
    | false => rw [e] at h; cases h
    | true => rw [← r.length]; exact Nat.eq_of_beq_eq_true e
  · obtain ⟨W, ds, kv, kx, rfl, o, r, h, hv, hx⟩ := h
    unfold cDef at h
    cases e : Nat.beq ds.length ps.length with
    | false => rw [e] at h; cases h
    | true =>
      rw [e] at h
      have el : ds.length = ps.length := Nat.eq_of_beq_eq_true e
      refine ⟨_, hbody cdv A outer s W.H E hr, W, startD ps.length Ns.length ds, _, rfl, o, by rw [← el]; exact rel_start r, h, ⟨fun W' σd σ x o' s' e' => hv W' .non .non x o' mkNon e', hv, (fun _ _ _ _ _ _ e' => nomatch e'), (fun _ _ _ _ _ _ e' => nomatch e'), hx⟩⟩
end
/-! ### raise -/
def sRaise (c : Nat) : CS := fun _ η k => k.xc ⟨c, none⟩ η
theorem js_raise {e : Expr} {C : Addr} {c : Nat} {pos : Pos} (hc : X.calm = true) (tk : Takes X (fun cls d _ H => E cls d H)) (he : PMk X e (fun _ H Q => Q (.ref C) none H)) (hC : N.cls c = C) : JS X N E (.Raise (some e) none pos) (sRaise c) :=
  PS.imp (ps_raise hc tk he) fun Z σ H q => by
    obtain ⟨W, σd, k, rfl, o, s, h, hk⟩ := q
    exact hk.xc W ⟨c, none⟩ (.ref C) none (Ext.refl W) o ⟨by rw [hC], rfl⟩ h
/-! ### list(range(..)), tuple(range(..)) -/
def tRgD (K : PySem.W.Frag) (N : Nm) (E : XK) (c : SD → Hd → (Int → Int → Hd → Bool) → KX → Bool) : St → Hp → (Int → Int → Hp → Prop) → Prop := fun σ H Q => ∃ W σd k kx, W.H = H ∧ W.Ok K N.toNames ∧ RelS W σd σ ∧ c σd W.η k kx = true ∧ (∀ W' a b, Ext W W' → W'.Ok K N.toNames → k a b W'.η = true → Q a b W'.H) ∧ Xk K N E W kx
abbrev CR := SD → Hd → (Int → Int → Hd → Bool) → KX → Bool
theorem PRg.imp {e : Expr} {t t' : St → Hp → (Int → Int → Hp → Prop) → Prop} (h : PRg X e t) (f : ∀ σ H Q, t' σ H Q → t σ H Q) : PRg X e t' := fun pins s σ H Q I q => h pins s σ H Q I (f σ H Q q)
theorem tRg.bind {K : PySem.W.Frag} {W : Wl} {kx : KX} {c : CR} {kt : Int → Int → Hd → Bool} {σ : St} {σd : SD} {Q' : Int → Int → Hp → Prop} (o : W.Ok K N.toNames) (s : RelS W σd σ) (hx : Xk K N E W kx) (h : c σd W.η kt kx = true)
    (hq : ∀ W' a b, Ext W W' → W'.Ok K N.toNames → kt a b W'.η = true → Q' a b W'.H) : tRgD K N E c σ W.H Q' := ⟨W, σd, kt, kx, rfl, o, s, h, hq, hx⟩
end
end DL

/-! sorted -/
namespace DL
open PySem PySem.Spec L2
/-! ### the order of rows of ints -/
/-! ### the machine -/
section
variable {prog : Program} {w : World} {A : Around} {E : Value → Shared → Prop} {s : Shared}
/-! rows of ints -/
def IsRow (h : Heap) (v : Value) (ns : List Int) : Prop := ∃ (a : Addr) (o : Obj) (xs : List Value) (n : Nat), v = .ref a ∧ h.get? a = some o ∧ o.cls = .type "tuple" ∧ o.data = .seq xs.toArray n ∧ Vals (ns.map V.int) xs
theorem IsRow.keeps {h h' : Heap} {v : Value} {ns : List Int} (r : IsRow h v ns) (k : ∀ b o, h.get? b = some o → o.cls = .type "tuple" → h'.get? b = some o) : IsRow h' v ns := by
  obtain ⟨a, o, xs, n, e, h1, h2, h3, h4⟩ := r
  exact ⟨a, o, xs, n, e, k a o h1 h2, h2, h3, h4⟩
end
end DL

/-! sorted: the rule -/
namespace DL
open PySem PySem.Spec L2
section
variable {prog : Program} {w : World} {A : Around} {E : Value → Shared → Prop} {s : Shared}
end
section
variable {X : Cx} {N : Nm} {E : XK}
/-! ### read by trees -/
theorem rel_ints {W : Wl} : ∀ {ns : List Int} {vs : List V}, RelDs W (ns.map D.int) vs → vs = ns.map V.int
  | [], vs, h => by rw [List.map_nil, RelDs] at h; exact h
  | n :: ns, vs, h => by
    rw [List.map_cons, RelDs] at h
    obtain ⟨v, vs', rfl, h1, h2⟩ := h
    rw [rel_ints h2]
    rw [RelD] at h1
    rw [h1]; rfl
theorem ints_rel {W : Wl} : ∀ {ns : List Int}, RelDs W (ns.map D.int) (ns.map V.int)
  | [] => by rw [List.map_nil, RelDs]; rfl
  | n :: ns => RelDs.cons mkInt ints_rel
end
end DL

/-! methods called; a lambda handed to a def that tells its exceptions -/
namespace DL
open PySem PySem.Spec L2
section
variable {X : Cx} {N : Nm} {E : XK}
theorem je_mt {id : String} {name : Str} {f : FM} {o e : Expr} {es : List Expr} {co : CE} {c : CA} {apos cpos : Pos} (pa : PlainAttrs "list") (slot : Slot "list" name id) (hty : typeOf (.builtin id) = pure (.type "method_descriptor")) (hm : MtR X id (rM X.K N f)) (ho : JE X N E o co) (ha : JA X N E (e :: es) c)
    (hbase : attributeBase o name X.env (eval o X.env) = eval o X.env := by rfl)
    (hfew : ((backTo cpos (starEach (e :: es) X.env)).all (fun x => !x.1) && (backToKw cpos (keywordEach [] X.env)).all (fun x => x.1.isSome)
      && decide ((e :: es).length + ([] : List Keyword).length + (if ([] : List Keyword).isEmpty then 0 else 1) < 30)) = true := by rfl)
    (hline : (apos.endLine == cpos.line) = true := by rfl) (hs : starEach (e :: es) X.env = (false, eval e X.env) :: starEach es X.env := by rfl) (hplain : (backTo cpos (starEach es X.env)).any (·.1) = false := by rfl) :
    JE X N E (.Call (.Attribute o name apos) (e :: es) [] cpos) (cMt f co c) :=
  PE.imp (pe_bm pa slot hty hm ho ha hbase hfew hline hs hplain) fun σ H Q q => tBM_of q
/-! ### told -/
def wStr (K : PySem.W.Frag) : List (Value × Str) → Value → (Str → Prop) → Prop
  | [], _, _ => False
  | (c, r) :: l, cls, P => ∃ b, PySem.W.exmOne K cls c = some b ∧ (b = true → P r) ∧ (b = false → wStr K l cls P)
def TTm (K : PySem.W.Frag) (l : List (Value × Str)) : (XK → Hp → VK → Prop) → Hp → VK → Prop := fun tl H Q =>
  tl (fun cls _ H' => wStr K l cls (fun r => Q (.str r) H')) H Q
inductive HdsS (mg : Str → Option Value) (sg : Scope) : List ExceptHandler → List (Value × Str) → Prop
  | nil : HdsS mg sg [] []
  | cons {e ret : Str} {c : Value} {p4 p5 p6 p7 : Pos} {j} {hds : List ExceptHandler} {l : List (Value × Str)} (hge : sg.names.lookup e = some .globalImplicit) (hme : mg e = some c) (hde : (e == ("__debug__" : Str)) = false) (r : HdsS mg sg hds l) :
      HdsS mg sg (.ExceptHandler (some (.Name e p4)) none [.Return (some (.Constant (.str ret) j p5)) p6] p7 :: hds) ((c, ret) :: l)
def tsOf (l : List (Value × Str)) : List (Value × (Addr → Value → Option Addr → TS)) := l.map fun p => (p.1, fun _ _ _ D _ H => D.rt (.str p.2) H)
theorem HdsS.ok {Y : Cx} {sg : Scope} (hs : Y.env.scope = sg) {hds : List ExceptHandler} {l : List (Value × Str)} (h : HdsS Y.mg sg hds l) : HdsOk Y hds (tsOf l) := by
  induction h with
  | nil => exact .nil
  | cons hge hme hde r ih =>
    refine HdsOk.cons ⟨?_, hde, .inl hme⟩ (fun a oe cls d pn _ _ => ?_) ih
    · subst hs; exact hge
    · exact pss_one (ps_ret pe_str)
theorem wMany_of {K : PySem.W.Frag} {Z : Ends} {cls : Value} {d : Option Addr} {σ : St} {H : Hp} : ∀ {l : List (Value × Str)}, wStr K l cls (fun r => Z.rt (.str r) H) → wMany K (fun _ _ _ _ => False) Z (tsOf l) cls d σ H
  | [], h => h
  | (c, r) :: l, h => by
    obtain ⟨b, e1, e2, e3⟩ := h
    exact ⟨b, e1, fun hb a _ => e2 hb, fun hb => wMany_of (e3 hb)⟩
theorem told_many {Ng : List Str} {x a q : Str} {sg : Scope} {g : Addr} {cdg : Value} {p1 p2 p3 p8 : Pos} {h₀ : ExceptHandler} {hds : List ExceptHandler} {l : List (Value × Str)} (hh : HdsS X.mg sg (h₀ :: hds) l) (h0 : ∀ f : Addr, (L2.start Ng [V.ref f])[0]? = some (some (V.ref f))) :
    LamX.GivesTo X Ng x sg g cdg [.Try [.Return (some (.Call (.Name a p1) [] [] p2)) p3] (h₀ :: hds) [] [] p8] a q (TTm X.K l) := by
  intro f c' s H Q tl act hc h
  refine ⟨_, pss_one (ps_try_many (X := (cxOf C8.CX0 X.prog X.w X.K X.mg X.base Ng x sg g cdg X.A X.stack s H C8.E0).nox) (l := tsOf l)
      (tb := fun W D σ H => ∃ Ech : XK, (∀ cls d σ' H', Ech cls d H' → W cls d σ' H') ∧ σ[0]? = some (some (.ref f)) ∧ H c' = some (LamX.CodeO c' q) ∧ tl Ech H D.rt)
      rfl rfl LamX.takes0 (fun W pn xe tk _ => ?_) (HdsS.ok (Y := (cxOf C8.CX0 X.prog X.w X.K X.mg X.base Ng x sg g cdg X.A X.stack s H C8.E0).nox) (sg := sg) rfl hh)), ?_⟩
  · refine ⟨fun pins s' σ H' D I h' => ?_⟩
    obtain ⟨Ech, hW, h1, h2, h3⟩ := h'
    have hp := act W pn xe Ech p1 p2 tk hW
    have hq := pss_one (ps_ret (pos := p3) hp)
    exact hq.run pins s' σ H' D I ⟨h1, h2, h3⟩
  · exact ⟨fun cls _ H' => wStr X.K l cls (fun r => Q (.str r) H'), fun cls d σ' H' h => wMany_of h, h0 f, hc, h⟩
def cTold (hm : Nat → Option Str) (cb : CE) : CE := fun σ η kv kx => cb σ η kv (fun x η1 => match hm x.c with
  | some r => kv (.str r) η1
  | none => false)
def HmOk (K : PySem.W.Frag) (N : Nm) (l : List (Value × Str)) (hm : Nat → Option Str) : Prop := ∀ c r, hm c = some r → ∀ P : Str → Prop, P r → wStr K l (.ref (N.cls c)) P
/-! ### a lambda is made, and handed on -/
section
variable {X : Cx} {pins : List (Addr × Obj)} {σ : L2.St} {H : Hp} {s : Shared}
/-- a lambda's code object is new, or stands at its place in the table -/
theorem mk_lam {T : Tbl} {lam : Nat → Nat → Bool} {c P : Addr} {params : Arguments} {body : Expr} {scope : Scope} {lp : Pos} {Er : Value → Shared → Prop} {Qr : Value → Shared → Prop} (I : Inv X pins σ H s) (TB : LamX.TabB X.base X.mg c P) (hcode : X.env.code = .ref c)
    (hm : (P, X.env.qual ++ "<lambda>", lam) ∈ T) (hlm : lam lp.line lp.col = true) (hu : ∀ e ∈ T, e.1 = P → e.2.1 = X.env.qual ++ "<lambda>") (hT : Tabs T H) (hdef : defaultsOf params X.env = ([], [])) (hcl : ∀ y ∈ scope.names, y.2 = .free → ∃ c, X.env.cells.lookup y.1 = some c)
    (h : ∀ (f c' : Addr) (pm ctv : Value) (H1 : Hp) (s' : Shared), Inv X pins σ H1 s' → LamX.ExtN H H1 → Tabs T H1 → s'.heap.get? f = some (PySem.W.kla_obj "<lambda>" (X.env.qual ++ "<lambda>") params body scope (cloFrom X.env.cells scope.names []) pm c' ctv) →
      H1 f = none → f ∉ frs X.stack → H1 c' = some (LamX.CodeO c' (X.env.qual ++ "<lambda>")) → Qr (.ref f) s') :
    wpAny (model X.prog X.w) X.A (eval (.Lambda params body scope lp) X.env) Qr Er s := by
  obtain ⟨es, hP, ht, look⟩ := hT _ hm
  refine PySem.W.kla_eval hdef ?_
  have bt : s.heap.BuiltinsAt X.mg P := TB.bm.keeps I.bk
  have gl := I.mod.glob.keeps I.bk
  have cd := TB.code.keeps I.bk
  have Ps : s.heap.get? P = some { cls := .none, data := .fields es } := I.hok P _ hP
  have away : ∀ f, s.heap.objs.size ≤ f → f ∉ frs X.stack := fun f hf z => (List.mem_cons.mp (I.stkSub _ z)).elim (fun e => by have lt := I.lt; rw [← e] at lt; exact Nat.lt_irrefl _ (Nat.lt_of_lt_of_le lt hf)) (I.nofs hf)
  cases hc : codeAmong lp es.toList with
  | some cv =>
    obtain ⟨c', rfl, hco⟩ := look lp hlm cv hc
    exact PySem.W.kla_makeFunctionHit (mg := X.mg) (c := c) (P := P) (ps := es) (closure_ok hcl) I.ok.glob gl hcode cd Ps ht hc bt fun ctv h' tk hx hsz =>
      h h'.objs.size c' ((X.mg "__name__").getD .none) ctv H _ (I.kept fun b o e => Heap.get?_push_of_some _ (hx b o e)) (LamX.ExtN.refl H) hT (Heap.get?_push_size _ rfl) (I.hok.fresh hsz) (away _ hsz) hco
  | none =>
    refine PySem.W.kla_makeFunction (mg := X.mg) (c := c) (P := P) (ps := es) (closure_ok hcl) I.ok.glob gl hcode cd Ps ht hc TB.gP bt fun c' ctv h' tk hx hge hlt hrec htb => ?_
    obtain ⟨c2, oc, vs, t, e2, hoc, hd, hv⟩ := hrec
    cases e2
    have big : s.heap.objs.size ≤ h'.objs.size := Nat.le_trans hge (Nat.le_of_lt hlt)
    have nC : H c' = none := I.hok.fresh hge
    have I1 := LamX.inv_table (t' := tk) (more := #[rawInt lp.line, rawInt lp.col, .ref c']) (h' := h'.push (PySem.W.kla_obj "<lambda>" (X.env.qual ++ "<lambda>") params body scope (cloFrom X.env.cells scope.names []) ((X.mg "__name__").getD .none) c' ctv)) I hP
      (fun b o hb e => Heap.get?_push_of_some _ (hx b o hb e)) (Heap.get?_push_of_some _ htb) hge ⟨oc, vs, t, Heap.get?_push_of_some _ hoc, hd, hv⟩
    have hE : LamX.ExtN H (upd (upd H P (.tbl (es ++ #[rawInt lp.line, rawInt lp.col, .ref c']))) c' (LamX.CodeO c' (X.env.qual ++ "<lambda>"))) := fun b o e n => by
      rw [upd_ne (ne_of_none e nC), upd_ne (fun z => n es (Option.some.inj (e.symm.trans (by rw [z]; exact hP))))]; exact e
    have eL : (es ++ #[rawInt lp.line, rawInt lp.col, .ref c']).toList = es.toList ++ [rawInt lp.line, rawInt lp.col, .ref c'] := by simp
    refine h h'.objs.size c' ((X.mg "__name__").getD .none) ctv _ _ I1 hE (fun e he => ?_) (Heap.get?_push_size _ rfl) ?_ (away _ big) upd_same
    · obtain ⟨es', a1, a2, a3⟩ := hT e he
      by_cases hb : e.1 = P
      · rw [hb] at a1 ⊢
        rw [hP] at a1
        cases a1
        rw [hu e he hb] at a3 ⊢
        refine ⟨_, by rw [upd_ne (ne_of_none hP nC), upd_same], by rw [eL]; exact PySem.TriplesOk_snoc _ _ _ _ ht, fun at_ hl cv hcv => ?_⟩
        rw [eL] at hcv
        rcases among_snoc _ ht hcv with z | ⟨z, _⟩
        · obtain ⟨c0, e1, e2⟩ := a3 at_ hl cv z
          exact ⟨c0, e1, hE _ _ e2 LamX.codeO_ne⟩
        · exact ⟨c', z, upd_same⟩
      · refine ⟨es', by rw [upd_ne (ne_of_none a1 nC), upd_ne hb]; exact a1, a2, fun at_ hl cv hcv => ?_⟩
        obtain ⟨c0, e1, e2⟩ := a3 at_ hl cv hcv
        exact ⟨c0, e1, hE _ _ e2 LamX.codeO_ne⟩
    · rw [upd_ne (Nat.ne_of_gt hlt), upd_ne (Nat.ne_of_gt (Nat.lt_of_lt_of_le (Heap.lt_size Ps) big))]
      exact I.hok.fresh big
end
def tHand (T : Tbl) (TT : (XK → Hp → VK → Prop) → Hp → VK → Prop) (t : XK → TE) : TE := fun σ H Q => Tabs T H ∧ ∀ H1, LamX.ExtN H H1 → Tabs T H1 → TT (fun E H' Q' => t E σ H' Q') H1 Q
/-- a def of the top is called with a lambda -/
theorem pe_hand {X : Cx} {T : Tbl} {lam : Nat → Nat → Bool} {TT : (XK → Hp → VK → Prop) → Hp → VK → Prop} {x a : Str} {g c P : Addr} {k : Nat} {pg : Arguments} {bg : List Stmt} {sg : Scope} {dV kV doc pm cdv ct oc : Value} {an od : Option Addr} {osl : Array (Option Value)} {Ng : List Str}
    {params : Arguments} {body : Expr} {scope : Scope} {t : XK → TE} {p lpos pos : Pos} (hg : Gl X x) (hm : X.mg x = some (.ref g)) (hk : PySem.W.keepIn X.K (.ref g) = true) (lk : X.K.lookup g = some ⟨oc, od, .func (PySem.W.fnOf x x pg bg sg dV kV doc pm an cdv ct), osl⟩)
    (hcg : PySem.W.codeIn X.K cdv x = true) (hb : L2.Binds X.K (PySem.W.fnOf x x pg bg sg dV kV doc pm an cdv ct) [a] []) (Sg : FnScope Ng [a] sg) (hNg : Ng[0]? = some a) (hva : Vis sg a) (hG : LamX.GivesTo X Ng x sg g cdv bg a (X.env.qual ++ "<lambda>") TT)
    (TB : LamX.TabB X.base X.mg c P) (hcode : X.env.code = .ref c) (hmT : (P, X.env.qual ++ "<lambda>", lam) ∈ T) (hlm : lam lpos.line lpos.col = true) (hu : ∀ e ∈ T, e.1 = P → e.2.1 = X.env.qual ++ "<lambda>") (hr : Room (k + 2) X.A) (L : LamX.LamS X.env.scope scope) (hdef : defaultsOf params X.env = ([], []))
    (hbind : ∀ (q : Str) (cl : List (Str × Addr)) (pm cv ctv : Value), bindArgs (PySem.W.kla_fn "<lambda>" q params body scope cl pm cv ctv) ⟨[], []⟩ = pure [])
    (hbody : ∀ (A : Around) (outer : List Env) (s : Shared) (H : Hp) (E : XK) (f c' : Addr), Room k (A.deeper (LamX.lamEnv X scope s.heap.objs.size f c')) → PE (LamX.lamCx X A outer s H E scope f c') body (t E))
    (hdb : (x == ("__debug__" : Str)) = false := by decide) (hd : (a == ("__debug__" : Str)) = false := by decide) (hcd : (a == ("__classdict__" : Str)) = false := by decide) :
    PE X (.Call (.Name x p) [.Lambda params body scope lpos] [] pos) (tHand T TT t) := ⟨fun pins s σ H Q I ⟨hT, h⟩ => by
  refine wpAny_Call_Name_kw (ld_glob I hg hm ?_ hdb)
  refine PySem.W.callWith_K (h₀ := X.base) I.ok.mod.kin hk ?_ (by rfl) (by rfl)
  show wpAny _ _ (spliced ((false, eval (.Lambda params body scope lpos) X.env) :: backTo pos (starEach [] X.env))) _ _ s
  refine Calls.spliced_cons (mk_lam I TB hcode hmT hlm hu hT hdef (L.has I.ok) fun f c' pm' ctv H1 s' I1 eN T1 hf hfn hfr hco => Calls.spliced_nil ⟨I1.kIn, ?_⟩)
  have act : codeAny (model X.prog X.w) X.A (.call (.ref g) ⟨[.ref f], []⟩) (L2.CR C8.CX0 X.stack X.prog X.w H1 s' Q C8.E0) s' := LamX.run_ofS (N := Ng) (ps := [a]) (us := [.ref f]) (vs := [.ref f]) lk hcg Sg hr I1.env0 (hb s' [.ref f] I1.kIn rfl) (.cons rfl .nil) rfl fun hr' =>
    let ⟨t', ht', hq'⟩ := hG f c' s' H1 Q (fun E H' Q' => t E σ H' Q') (fun W pn xe E p1 p2 tk hW => LamX.pe_act (i := 0) I1 L hf hfn hfr (hbind _ _ _ _ _) tk hW hr' (fun A outer s H hr2 => hbody A outer s H E f c' hr2) hNg hva hd hcd) hco (h H1 eN T1)
    ⟨t', ht'.nox, hq'⟩
  refine wpAny_call (codeAny_mono act fun r s2 hq => ?_)
  cases r with
  | error e => exact (show False from hq).elim
  | ok fl =>
    cases fl with
    | ret u => exact I1.after hq
    | _ => exact False.elim hq⟩
/-- a world where tables grow -/
theorem Wl.Ok.grown {K : PySem.W.Frag} {N : Names} {W : Wl} (o : W.Ok K N) {H1 : Hp} (eN : LamX.ExtN W.H H1) (T1 : Tabs N.tabs H1) : Ext W ⟨W.μ, W.η, H1⟩ ∧ Wl.Ok K N ⟨W.μ, W.η, H1⟩ := by
  have x : Ext W ⟨W.μ, W.η, H1⟩ := ⟨Nat.le_refl _, fun _ _ => rfl, fun a u h t _ => eN a u h t, fun a u h t => ⟨u, eN a u h t, t⟩, fun r c e => .inl ⟨c, e, id⟩⟩
  exact ⟨x, o.lt, fun r c e => (o.cell r c e).mono o x (fun ob t h => eN _ ob h t), o.inj, T1⟩
theorem je_told {l : List (Value × Str)} {hm : Nat → Option Str} {x a : Str} {g c P : Addr} {k : Nat} {pg : Arguments} {bg : List Stmt} {sg : Scope} {dV kV doc pm cdv ct oc : Value} {an od : Option Addr} {osl : Array (Option Value)} {Ng : List Str}
    {params : Arguments} {body : Expr} {scope : Scope} {cb : CE} {p lpos pos : Pos} (hg : Gl X x) (hmg : X.mg x = some (.ref g)) (hk : PySem.W.keepIn X.K (.ref g) = true)
    (lk : X.K.lookup g = some ⟨oc, od, .func (PySem.W.fnOf x x pg bg sg dV kV doc pm an cdv ct), osl⟩) (hcg : PySem.W.codeIn X.K cdv x = true) (hb : L2.Binds X.K (PySem.W.fnOf x x pg bg sg dV kV doc pm an cdv ct) [a] []) (Sg : FnScope Ng [a] sg) (hNg : Ng[0]? = some a) (hva : Vis sg a)
    (hG : LamX.GivesTo X Ng x sg g cdv bg a (X.env.qual ++ "<lambda>") (TTm X.K l)) (hH : HmOk X.K N l hm)
    (TB : LamX.TabB X.base X.mg c P) (hcode : X.env.code = .ref c) {lam : Nat → Nat → Bool} (hmT : (P, X.env.qual ++ "<lambda>", lam) ∈ N.tabs) (hlm : lam lpos.line lpos.col = true) (hu : ∀ e ∈ N.tabs, e.1 = P → e.2.1 = X.env.qual ++ "<lambda>") (hr : Room (k + 2) X.A) (L : LamX.LamS X.env.scope scope) (hdef : defaultsOf params X.env = ([], []))
    (hbind : ∀ (q : Str) (cl : List (Str × Addr)) (pm cv ctv : Value), bindArgs (PySem.W.kla_fn "<lambda>" q params body scope cl pm cv ctv) ⟨[], []⟩ = pure [])
    (hbody : ∀ (A : Around) (outer : List Env) (s : Shared) (H : Hp) (E : XK) (f c' : Addr), Room k (A.deeper (LamX.lamEnv X scope s.heap.objs.size f c')) → JE (LamX.lamCx X A outer s H E scope f c') N E body cb)
    (hdb : (x == ("__debug__" : Str)) = false := by decide) (hd : (a == ("__debug__" : Str)) = false := by decide) (hcd : (a == ("__classdict__" : Str)) = false := by decide) :
    JE X N E (.Call (.Name x p) [.Lambda params body scope lpos] [] pos) (cTold hm cb) :=
  PE.imp (pe_hand (T := N.tabs) (t := fun E => tE X.K N E cb) hg hmg hk lk hcg hb Sg hNg hva hG TB hcode hmT hlm hu hr L hdef hbind hbody hdb hd hcd) fun σ H Q q => by
    obtain ⟨W, σd, kv, kx, rfl, o, s, h, hv, hx⟩ := q
    refine ⟨o.tab, fun H1 eN T1 => ?_⟩
    obtain ⟨x1, o1⟩ := o.grown eN T1
    refine ⟨⟨W.μ, W.η, H1⟩, σd, kv, _, rfl, o1, s.mono o x1, h, hv.mono o o1 x1, fun W' xx cls dd x2 o2 rx e => ?_⟩
    dsimp only at e
    cases em : hm xx.c with
    | none => rw [em] at e; cases e
    | some r =>
      rw [em] at e
      have := rx.1
      subst this
      exact hH _ _ em _ (hv W' (.str r) (.str r) (x1.trans o o1 x2) o2 mkStr' e)
end
end DL

/-! states forgotten, tables of results, dice, the law's own loop -/
namespace DL
open PySem PySem.Spec L2
section
variable {X : Cx} {N : Nm} {E : XK}
def ipow (i j : Int) : Int := i ^ j.toNat
def powOk (i j : Int) : Bool := match j with
  | .ofNat n => Nat.ble n 1000 && Nat.ble i.natAbs 1000000000000000000
  | _ => false
theorem powOk_ok (i j : Int) (h : powOk i j = true) : CPow i j := by
  unfold powOk at h
  split at h
  · rename_i n
    obtain ⟨h1, h2⟩ := Bool.and_eq_true_iff.mp h
    have h1 := Nat.le_of_ble_eq_true h1
    have h2 := Nat.le_of_ble_eq_true h2
    exact ⟨by show (0 : Int) ≤ (n : Int); omega, by show (n : Int) ≤ _; omega, by omega⟩
  · cases h
def fPow : F2 := fI2c powOk ipow
theorem opd_pow : OpR X (binaryOp .Pow) (r2 X.K N fPow) := opd_intc op_pow powOk_ok fun _ _ => rfl
end
/-! ### the same data -/
def same : Nat → D → D → Bool
  | _, .int i, .int j => ieq i j
  | _, .non, .non => true
  | _, .bl a, .bl b => a == b
  | _, .str x, .str y => x == y
  | _, .ref a, .ref b => Nat.beq a b
  | n + 1, .tup a, .tup b => eqL (same n) a b
  | n + 1, .ftup a, .ftup b => eqL (same n) a b
  | _, _, _ => false
theorem eqL_eq {f : D → D → Bool} (hf : ∀ a b, f a b = true → a = b) : ∀ {a b : List D}, eqL f a b = true → a = b
  | [], [], _ => rfl
  | x :: xs, y :: ys, h => by
    simp only [eqL] at h
    cases e : f x y with
    | true => rw [e] at h; rw [hf _ _ e, eqL_eq hf h]
    | false => rw [e] at h; cases h
  | [], _ :: _, h => by simp [eqL] at h
  | _ :: _, [], h => by simp [eqL] at h
theorem same_eq : ∀ (n : Nat) (a b : D), same n a b = true → a = b := by
  intro n
  induction n with
  | zero =>
    intro a b h
    cases a <;> cases b <;> first | rfl | (simp only [same] at h; first | cases h | exact congrArg D.int (ieq_iff.mp h) | exact congrArg D.bl (beq_iff_eq.mp h) | exact congrArg D.str (beq_iff_eq.mp h) | exact congrArg D.ref (Nat.eq_of_beq_eq_true h))
  | succ n ih =>
    intro a b h
    cases a <;> cases b <;> first | rfl | (simp only [same] at h; first | cases h | exact congrArg D.int (ieq_iff.mp h) | exact congrArg D.bl (beq_iff_eq.mp h) | exact congrArg D.str (beq_iff_eq.mp h) | exact congrArg D.ref (Nat.eq_of_beq_eq_true h) | exact congrArg D.tup (eqL_eq ih h) | exact congrArg D.ftup (eqL_eq ih h))
/-- its cells are below n -/
def below : Nat → Nat → D → Bool
  | _, n, .ref r => Nat.ble (Nat.succ r) n
  | f + 1, n, .tup l => l.all (below f n)
  | f + 1, n, .ftup l => l.all (below f n)
  | 0, _, .tup _ => false
  | 0, _, .ftup _ => false
  | _, _, _ => true
theorem below_rel {W : Wl} {n : Nat} {cs : List (Nat × Cell)} : ∀ (f : Nat) {d : D} {v : V}, below f n d = true → RelD W d v → RelD ⟨W.μ, ⟨n, cs⟩, W.H⟩ d v := by
  intro f
  induction f with
  | zero =>
    intro d v h r
    cases d with
    | tup l => cases h
    | ftup l => cases h
    | ref q => rw [RelD] at *; exact ⟨Nat.le_of_ble_eq_true h, r.2⟩
    | _ => rw [RelD] at *; exact r
  | succ f ih =>
    intro d v h r
    cases d with
    | tup l =>
      rw [RelD] at *
      obtain ⟨a, vs, e, h1, h2⟩ := r
      refine ⟨a, vs, e, h1, ?_⟩
      have all : ∀ (l : List D) (vs : List V), l.all (below f n) = true → RelDs W l vs → RelDs ⟨W.μ, ⟨n, cs⟩, W.H⟩ l vs := by
        intro l
        induction l with
        | nil => intro vs _ r; rw [RelDs] at *; exact r
        | cons d l ihl =>
          intro vs hh r
          rw [RelDs] at *
          obtain ⟨v, vs', e, r1, r2⟩ := r
          simp only [List.all_cons, Bool.and_eq_true] at hh
          exact ⟨v, vs', e, ih hh.1 r1, ihl vs' hh.2 r2⟩
      exact all l vs h h2
    | ftup l =>
      rw [RelD] at *
      obtain ⟨a, vs, ob, e, h1, h3, h2⟩ := r
      refine ⟨a, vs, ob, e, h1, h3, ?_⟩
      have all : ∀ (l : List D) (vs : List V), l.all (below f n) = true → RelDs W l vs → RelDs ⟨W.μ, ⟨n, cs⟩, W.H⟩ l vs := by
        intro l
        induction l with
        | nil => intro vs _ r; rw [RelDs] at *; exact r
        | cons d l ihl =>
          intro vs hh r
          rw [RelDs] at *
          obtain ⟨v, vs', e, r1, r2⟩ := r
          simp only [List.all_cons, Bool.and_eq_true] at hh
          exact ⟨v, vs', e, ih hh.1 r1, ihl vs' hh.2 r2⟩
      exact all l vs h h2
    | ref q => rw [RelD] at *; exact ⟨Nat.le_of_ble_eq_true h, r.2⟩
    | _ => rw [RelD] at *; exact r
theorem belows_rel {W : Wl} {n : Nat} {cs : List (Nat × Cell)} {f : Nat} : ∀ {l : List D} {vs : List V}, l.all (below f n) = true → RelDs W l vs → RelDs ⟨W.μ, ⟨n, cs⟩, W.H⟩ l vs
  | [], _, _, r => by rw [RelDs] at *; exact r
  | d :: l, _, hh, r => by
    rw [RelDs] at *
    obtain ⟨v, vs', e, r1, r2⟩ := r
    simp only [List.all_cons, Bool.and_eq_true] at hh
    exact ⟨v, vs', e, below_rel f hh.1 r1, belows_rel hh.2 r2⟩
def is3 : List D → Bool
  | [.int _, .int _, .int _] => true
  | _ => false
def eqFs : List (Nat × D) → List (Nat × D) → Bool
  | [], [] => true
  | (a, d) :: s, (b, e) :: t => match Nat.beq a b with
    | true => match same 8 d e with
      | true => eqFs s t
      | false => false
    | false => false
  | _, _ => false
def belowF (n : Nat) : List (Nat × D) → Bool
  | [] => true
  | (_, d) :: t => match below 8 n d with
    | true => belowF n t
    | false => false
/-- of the cell c0 the cell c is kept -/
def cle (n : Nat) (c0 c : Cell) : Bool := match c with
  | .dice => match c0 with
    | .dice => true
    | .lst l => is3 l
    | _ => false
  | .lst m => match c0 with
    | .lst l => eqL (same 8) l m && l.all (below 8 n)
    | _ => false
  | .frz m => match c0 with
    | .frz l => eqL (same 8) l m && l.all (below 8 n)
    | _ => false
  | .ins k fs => match c0 with
    | .ins k0 fs0 => Nat.beq k0 k && (eqFs fs0 fs && belowF n fs0)
    | _ => false
  | _ => false
theorem eqFs_eq : ∀ {a b : List (Nat × D)}, eqFs a b = true → a = b
  | [], [], _ => rfl
  | [], _ :: _, h => by cases h
  | (_, _) :: _, [], h => by cases h
  | (a, d) :: s, (b, e) :: t, h => by
    simp only [eqFs] at h
    cases e1 : Nat.beq a b with
    | false => rw [e1] at h; cases h
    | true =>
      rw [e1] at h
      simp only at h
      cases e2 : same 8 d e with
      | false => rw [e2] at h; cases h
      | true =>
        rw [e2] at h
        rw [Nat.eq_of_beq_eq_true e1, same_eq 8 d e e2, eqFs_eq h]
theorem belowF_rel {W : Wl} {N : Names} {n : Nat} {cs : List (Nat × Cell)} : ∀ {fs : List (Nat × D)} {gs : List (Str × V)}, belowF n fs = true → RelFs W N fs gs → RelFs ⟨W.μ, ⟨n, cs⟩, W.H⟩ N fs gs
  | [], _, _, r => by rw [RelFs] at *; exact r
  | (k, d) :: fs, _, hh, r => by
    rw [RelFs] at *
    obtain ⟨v, gs', e, r1, r2⟩ := r
    simp only [belowF] at hh
    cases e1 : below 8 n d with
    | false => rw [e1] at hh; cases hh
    | true =>
      rw [e1] at hh
      exact ⟨v, gs', e, below_rel 8 e1 r1, belowF_rel hh r2⟩
theorem is3_eq {l : List D} (h : is3 l = true) : ∃ p q r, l = [.int p, .int q, .int r] := by
  match l, h with
  | [.int p, .int q, .int r], _ => exact ⟨p, q, r, rfl⟩
theorem rel3i {W : Wl} {p q r : Int} {vs : List V} (h : RelDs W [.int p, .int q, .int r] vs) : vs = [.int p, .int q, .int r] := rel_ints (ns := [p, q, r]) h
theorem cle_ok {K : PySem.W.Frag} {N : Names} {W : Wl} {n : Nat} {cs : List (Nat × Cell)} {a : Addr} {c0 c : Cell} (h : cle n c0 c = true) (r : RelC K N W a c0) : RelC K N ⟨W.μ, ⟨n, cs⟩, W.H⟩ a c ∧ (c.mut = true → c0.mut = true) := by
  cases c with
  | dice =>
    cases c0 with
    | dice => exact ⟨r, id⟩
    | lst l =>
      obtain ⟨p, q, s, rfl⟩ := is3_eq h
      obtain ⟨vs, h1, h2, _⟩ := r
      rw [rel3i h2] at h1
      exact ⟨⟨p, q, s, h1⟩, fun _ => rfl⟩
    | _ => cases h
  | lst m =>
    cases c0 with
    | lst l =>
      obtain ⟨h1, h2⟩ := Bool.and_eq_true_iff.mp h
      have e := eqL_eq (same_eq 8) h1
      subst e
      obtain ⟨vs, g1, g2, g3⟩ := r
      exact ⟨⟨vs, g1, belows_rel h2 g2, g3⟩, fun _ => rfl⟩
    | _ => cases h
  | frz m =>
    cases c0 with
    | frz l =>
      obtain ⟨h1, h2⟩ := Bool.and_eq_true_iff.mp h
      have e := eqL_eq (same_eq 8) h1
      subst e
      obtain ⟨vs, g1, g2, g3⟩ := r
      exact ⟨⟨vs, g1, belows_rel h2 g2, g3⟩, fun z => nomatch z⟩
    | _ => cases h
  | ins k fs =>
    cases c0 with
    | ins k0 fs0 =>
      obtain ⟨h0, h⟩ := Bool.and_eq_true_iff.mp h
      obtain ⟨h1, h2⟩ := Bool.and_eq_true_iff.mp h
      have e := eqFs_eq h1
      subst e
      have e0 := Nat.eq_of_beq_eq_true h0
      subst e0
      obtain ⟨dx, gs, g1, g2, g3⟩ := r
      exact ⟨⟨dx, gs, g1, belowF_rel h2 g2, g3⟩, fun _ => rfl⟩
    | _ => cases h
  | _ => cases h
def leSl (n : Nat) : SD → SD → Bool
  | [], [] => true
  | none :: s, _ :: t => leSl n s t
  | some d :: s, some e :: t => match same 8 e d with
    | true => match below 8 n d with
      | true => leSl n s t
      | false => false
    | false => false
  | _, _ => false
def leCs (n : Nat) (η : Hd) : List (Nat × Cell) → Bool
  | [] => true
  | p :: t => match Nat.ble (Nat.succ p.1) n with
    | true => match η.get p.1 with
      | some c0 => match cle n c0 p.2 with
        | true => leCs n η t
        | false => false
      | none => false
    | false => false
/-- the state st is kept of σ and η -/
def leS (st : SD × Hd) (σ : SD) (η : Hd) : Bool := match leSl st.2.nx st.1 σ with
  | true => match Nat.ble st.2.nx η.nx with
    | true => leCs st.2.nx η st.2.cs
    | false => false
  | false => false
/-! ### the body of the law's loop -/
def kT (m : Nat) : KS := ⟨fun σ _ => Nat.beq σ.length m, fun _ _ => false, fun _ _ => false, fun σ _ => Nat.beq σ.length m, fun _ _ => false⟩
abbrev CK := SD → Hd → Bool
def tK (K : PySem.W.Frag) (N : Nm) (E : XK) (m : Nat) (c : CK) : TS := fun Z σ H => ∃ W0 W σd, W0.Ok K N.toNames ∧ W0.η.nx ≤ 1 ∧ Ext W0 W ∧ W.H = H ∧ W.Ok K N.toNames ∧ RelS W σd σ ∧ c σd W.η = true ∧ Sk K N E W0 (kT m) Z
def JK (X : Cx) (N : Nm) (E : XK) (m : Nat) (b : List Stmt) (c : CK) : Prop := PSs X b (tK X.K N E m c)
section
variable {X : Cx} {N : Nm} {E : XK} {m : Nat}
theorem jk_of {b : List Stmt} {c : CS} (h : JB X N E b c) : JK X N E m b (fun σ η => c σ η (kT m)) := PSs.imp h fun Z σ H q => by
  obtain ⟨W0, W, σd, o0, h0, x, rfl, o, s, h, hk⟩ := q
  exact ⟨W, σd, kT m, rfl, o, s, h, hk.mono o0 o x⟩
theorem jk_cons {st : Stmt} {rest : List Stmt} {a : CS} {c : CK} (h1 : JS X N E st a) (h2 : JK X N E m rest c) : JK X N E m (st :: rest) (fun σ η => a σ η { kT m with nx := c }) := PSs.imp (pss_cons h1 h2) fun Z σ H q => by
  obtain ⟨W0, W, σd, o0, h0, x, rfl, o, s, h, hk⟩ := q
  have hk' := hk.mono o0 o x
  exact ⟨W, σd, _, rfl, o, s, h, ⟨fun W' σd' σ' x' o' s' e' => ⟨W0, W', σd', o0, h0, x.trans o0 o x', rfl, o', s', e', hk⟩, hk'.rt, hk'.bk, hk'.ct, hk'.xc⟩⟩
end
end DL

/-! tables of results, dice, the law's own loop -/
namespace DL
open PySem PySem.Spec L2
section
variable {K : PySem.W.Frag} {N : Names} {W W1 : Wl}
theorem put_put (r : Nat) (c d : Cell) : ∀ l : List (Nat × Cell), put r d (put r c l) = put r d l
  | [] => rfl
  | p :: t => by
    have rr : Nat.beq r r = true := Nat.beq_refl r
    cases e : Nat.beq p.1 r with
    | true => simp only [put, e, rr]
    | false => simp only [put, e, put_put r c d t]
theorem put_self (r : Nat) (c : Cell) : ∀ l : List (Nat × Cell), look r l = some c → put r c l = l
  | [], h => rfl
  | p :: t, h => by
    unfold put
    unfold look at h
    cases e : Nat.beq p.1 r with
    | true =>
      rw [e] at h
      have := Nat.eq_of_beq_eq_true e
      cases h; subst this; rfl
    | false => rw [e] at h; simp only; rw [put_self r c t h]
theorem Hd.set_set (η : Hd) (r : Nat) (c d : Cell) : (η.set r c).set r d = η.set r d := by unfold Hd.set; rw [put_put]
theorem Hd.set_self (η : Hd) (r : Nat) (c : Cell) (h : η.get r = some c) : η.set r c = η := by unfold Hd.set; rw [put_self r c _ h]
theorem Hd.new_set (η : Hd) (c d : Cell) : (η.new c).set η.nx d = η.new d := by
  unfold Hd.new Hd.set put
  have : Nat.beq η.nx η.nx = true := Nat.beq_refl _
  simp [this]
/-- a cell told otherwise -/
theorem Wl.Ok.swap (o : W.Ok K N) {r : Nat} {c0 c : Cell} (h : W.η.get r = some c0) (hc : RelC K N W (W.μ r) c) (m : c.mut = true → c0.mut = true) : Ext W ⟨W.μ, W.η.set r c, W.H⟩ ∧ Wl.Ok K N ⟨W.μ, W.η.set r c, W.H⟩ := by
  have gs : ∀ q, (W.η.set r c).get q = if q = r then some c else W.η.get q := fun q => by
    have := Hd.get_set W.η r c q
    rw [h] at this
    exact this
  have x : Ext W ⟨W.μ, W.η.set r c, W.H⟩ := by
    refine ⟨Nat.le_refl _, fun _ _ => rfl, fun _ _ e _ _ => e, fun a u e t => ⟨u, e, t⟩, fun q d e => ?_⟩
    have e' : (W.η.set r c).get q = some d := e
    rw [gs] at e'
    by_cases z : q = r
    · rw [if_pos z] at e'; cases e'; exact .inl ⟨c0, by rw [z]; exact h, m⟩
    · rw [if_neg z] at e'; exact .inl ⟨d, e', id⟩
  have t : Tx W ⟨W.μ, W.η.set r c, W.H⟩ := x.tx o
  have orig : ∀ q d, (W.η.set r c).get q = some d → ∃ d0, W.η.get q = some d0 := fun q d e => by
    rw [gs] at e
    by_cases z : q = r
    · exact ⟨c0, by rw [z]; exact h⟩
    · rw [if_neg z] at e; exact ⟨d, e⟩
  refine ⟨x, fun q d e => ?_, fun q d e => ?_, fun q s d1 d2 e1 e2 e => ?_, o.tab⟩
  · obtain ⟨d0, e0⟩ := orig q d e; exact o.lt q d0 e0
  · have e' : (W.η.set r c).get q = some d := e
    rw [gs] at e'
    by_cases z : q = r
    · rw [if_pos z] at e'; cases e'; rw [z]; exact hc.tx t (fun _ _ e => e)
    · rw [if_neg z] at e'; exact (o.cell q d e').tx t (fun _ _ e => e)
  · obtain ⟨c1, g1⟩ := orig q d1 e1
    obtain ⟨c2, g2⟩ := orig s d2 e2
    exact o.inj q s c1 c2 g1 g2 e
end
/-! ### dice -/
def l3 (p q r : Int) : List D := [.int p, .int q, .int r]
def allN : Nat → (Nat → Bool) → Bool
  | 0, _ => true
  | n + 1, f => match f n with
    | true => allN n f
    | false => false
theorem allN_get : ∀ {n : Nat} {f : Nat → Bool}, allN n f = true → ∀ i, i < n → f i = true
  | 0, _, _, i, h => absurd h (by omega)
  | n + 1, f, h, i, hi => by
    unfold allN at h
    cases e : f n with
    | false => rw [e] at h; cases h
    | true =>
      rw [e] at h
      by_cases z : i = n
      · rw [z]; exact e
      · exact allN_get h i (by omega)
def fRoll : CF := fun ds η kv kx => match ds with
  | [.ref g, .int (.ofNat (n + 1))] => match η.get g with
    | some .dice => match Nat.ble n 1000000000 with
      | true => allN (n + 1) fun v => kv (.int (Int.ofNat v)) η
      | false => false
    | _ => false
  | _ => false
def RollOk (F : CF) : Prop := ∀ (g : Nat) (m p q r : Int) (η : Hd) (kv : KV) (kx : KX), 0 < m → m ≤ 1000000001 → η.get g = some (.lst (l3 p q r)) →
  (∀ v p' q' r', 0 ≤ v → v < m → kv (.int v) (η.set g (.lst (l3 p' q' r'))) = true) → F [.ref g, .int m] η kv kx = true
def fDice : CF := fun ds η kv kx => match ds with
  | [.int _] => kv (.ref η.nx) (η.new .dice)
  | _ => false
def DiceOk (F : CF) : Prop := ∀ (c : Int) (η : Hd) (kv : KV) (kx : KX), (∀ p q r, kv (.ref η.nx) (η.new (.lst (l3 p q r))) = true) → F [.int c] η kv kx = true
noncomputable def dec (p : Prop) : Bool := @decide p (Classical.propDecidable p)
theorem dec_iff {p : Prop} : dec p = true ↔ p := by unfold dec; exact @decide_eq_true_iff p (Classical.propDecidable p)
section
variable {P : Program} {w : World} {K : PySem.W.Frag} {mg : Str → Option Value} {base : Heap} {N : Nm} {k : Nat} {f : Addr} {fd : FuncData} {ps : List Str} {F : CF}
theorem roll_inv {ds : List D} {η : Hd} {kv : KV} {kx : KX} (h : fRoll ds η kv kx = true) : ∃ g n, ds = [.ref g, .int (.ofNat (n + 1))] ∧ η.get g = some .dice ∧ n ≤ 1000000000 ∧ ∀ v, v < n + 1 → kv (.int (Int.ofNat v)) η = true := by
  unfold fRoll at h
  split at h
  · rename_i g n
    split at h
    · rename_i e
      split at h
      · rename_i e2
        exact ⟨g, n, rfl, e, Nat.le_of_ble_eq_true e2, allN_get h⟩
      · cases h
    · cases h
  · cases h
theorem jf_roll (h : JF P w K mg base k f fd ps N F) (hF : RollOk F) : JF P w K mg base k f fd ps N fRoll :=
  h.imp fun vs H Q E q => by
    obtain ⟨W, ds, kv, kx, rfl, o, r, h, hv, hx⟩ := q
    obtain ⟨g, n, rfl, hg, hn, ha⟩ := roll_inv h
    obtain ⟨p, q, s, hc⟩ := o.cell g _ hg
    have rc : RelC K N.toNames W (W.μ g) (.lst (l3 p q s)) := ⟨_, hc, .cons mkInt (.cons mkInt (.cons mkInt .nil)), by show 3 ≤ sizeLine; decide⟩
    obtain ⟨x1, o1⟩ := o.swap hg rc (fun _ => rfl)
    have g1 : (W.η.set g (.lst (l3 p q s))).get g = some (.lst (l3 p q s)) := by rw [Hd.get_set, if_pos rfl, hg]; rfl
    refine ⟨⟨W.μ, W.η.set g (.lst (l3 p q s)), W.H⟩, _, fun d η' => dec (∃ v p' q' r', d = .int v ∧ 0 ≤ v ∧ v < Int.ofNat (n + 1) ∧ η' = W.η.set g (.lst (l3 p' q' r'))), kx, rfl, o1, r.mono o x1, ?_, fun W2 d v x2 o2 r2 e => ?_, hx.mono o o1 x1⟩
    · refine hF g _ p q s _ _ _ (by show (0 : Int) < ((n + 1 : Nat) : Int); omega) (by show ((n + 1 : Nat) : Int) ≤ _; omega) g1 fun v p' q' r' h1 h2 => dec_iff.mpr ⟨v, p', q', r', rfl, h1, h2, ?_⟩
      exact Hd.set_set _ _ _ _
    · obtain ⟨v', p', q', r', rfl, h1, h2, e2⟩ := dec_iff.mp e
      have g2 : W2.η.get g = some (.lst (l3 p' q' r')) := by rw [e2, Hd.get_set, if_pos rfl, hg]; rfl
      have rd : RelC K N.toNames W2 (W2.μ g) .dice := by
        obtain ⟨us, k1, k2, _⟩ := o2.cell g _ g2
        rw [rel3i k2] at k1
        exact ⟨p', q', r', k1⟩
      obtain ⟨x3, o3⟩ := o2.swap g2 rd (fun _ => rfl)
      have eη : W2.η.set g .dice = W.η := by rw [e2, Hd.set_set, Hd.set_self _ _ _ hg]
      rw [eη] at x3 o3
      have rv : v = .int v' := by rw [RelD] at r2; exact r2
      subst rv
      refine hv ⟨W2.μ, W.η, W2.H⟩ (.int v') _ ((x1.trans o o1 x2).trans o o2 x3) o3 mkInt ?_
      have : v' = Int.ofNat v'.toNat := (Int.toNat_of_nonneg h1).symm
      rw [this]
      exact ha _ (by have h2' : v' < ((n + 1 : Nat) : Int) := h2; omega)
theorem jf_dice (h : JF P w K mg base k f fd ps N F) (hF : DiceOk F) : JF P w K mg base k f fd ps N fDice :=
  h.imp fun vs H Q E q => by
    obtain ⟨W, ds, kv, kx, rfl, o, r, h, hv, hx⟩ := q
    unfold fDice at h
    split at h
    · rename_i c
      refine ⟨W, _, fun d η' => dec (∃ p q s, d = .ref W.η.nx ∧ η' = W.η.new (.lst (l3 p q s))), kx, rfl, o, r, hF c _ _ _ fun p q s => dec_iff.mpr ⟨p, q, s, rfl, rfl⟩, fun W2 d v x2 o2 r2 e => ?_, hx⟩
      obtain ⟨p, q, s, rfl, e2⟩ := dec_iff.mp e
      have g2 : W2.η.get W.η.nx = some (.lst (l3 p q s)) := by rw [e2, Hd.get_new, if_pos rfl]
      have rd : RelC K N.toNames W2 (W2.μ W.η.nx) .dice := by
        obtain ⟨us, k1, k2, _⟩ := o2.cell _ _ g2
        rw [rel3i k2] at k1
        exact ⟨p, q, s, k1⟩
      obtain ⟨x3, o3⟩ := o2.swap g2 rd (fun _ => rfl)
      have eη : W2.η.set W.η.nx .dice = W.η.new .dice := by rw [e2, Hd.new_set]
      rw [eη] at x3 o3
      exact hv ⟨W2.μ, W.η.new .dice, W2.H⟩ _ v (x2.trans o o2 x3) o3 (r2.mono o2 x3) h
    · cases h
/-! ### a def known by a table of its results -/
end
end DL

/-! the law's own loop over its dice -/
namespace DL
open PySem PySem.Spec L2
def delC (g : Nat) : List (Nat × Cell) → List (Nat × Cell)
  | [] => []
  | p :: t => match Nat.beq p.1 g with
    | true => delC g t
    | false => p :: delC g t
def Hd.del (η : Hd) (g : Nat) : Hd := ⟨η.nx, delC g η.cs⟩
theorem look_del (g q : Nat) : ∀ l : List (Nat × Cell), look q (delC g l) = if q = g then none else look q l
  | [] => by simp [delC, look]
  | p :: t => by
    have ih := look_del g q t
    unfold delC
    cases e : Nat.beq p.1 g with
    | true =>
      have e' := Nat.eq_of_beq_eq_true e
      simp only [ih, look]
      by_cases h : q = g
      · simp [h]
      · have : Nat.beq p.1 q = false := by
          cases z : Nat.beq p.1 q with
          | false => rfl
          | true => exact absurd ((Nat.eq_of_beq_eq_true z).symm.trans e') h
        simp [h, this]
    | false =>
      simp only [look, ih]
      by_cases h : q = g
      · subst h; simp [e]
      · simp [h]
theorem Hd.get_del (η : Hd) (g q : Nat) : (η.del g).get q = if q = g then none else η.get q := look_del g q η.cs
def dicesL : List D → Hd → Bool
  | [], _ => true
  | .ref g :: t, η => match η.get g with
    | some .dice => dicesL t (η.del g)
    | _ => false
  | _ :: _, _ => false
theorem dicesL_cons {d : D} {t : List D} {η : Hd} (h : dicesL (d :: t) η = true) : ∃ g, d = .ref g ∧ η.get g = some .dice ∧ dicesL t (η.del g) = true := by
  cases d with
  | ref g =>
    simp only [dicesL] at h
    cases e : η.get g with
    | none => rw [e] at h; cases h
    | some c =>
      cases c with
      | dice => rw [e] at h; exact ⟨g, rfl, e, h⟩
      | _ => rw [e] at h; cases h
  | _ => cases h
theorem Wl.Ok.aside {K : PySem.W.Frag} {N : Names} {W W5 : Wl} (o : W.Ok K N) {g : Nat} (hg : W.η.get g = some .dice) (x : Ext ⟨fun _ => W.μ g, ⟨1, [(0, .dice)]⟩, W.H⟩ W5) (o5 : W5.Ok K N) : Ext W ⟨W.μ, W.η.del g, W5.H⟩ ∧ Wl.Ok K N ⟨W.μ, W.η.del g, W5.H⟩ := by
  have keep : ∀ a u, noT u → W.H a = some u → a ≠ W.μ g → W5.H a = some u := fun a u t e ne => x.fr a u e t (fun _ _ _ _ z => ne z.symm)
  have xx : Ext W ⟨W.μ, W.η.del g, W5.H⟩ := by
    refine ⟨Nat.le_refl _, fun _ _ => rfl, fun a u e t hn => keep a u t e (Ne.symm (hn g _ hg rfl)), x.th, fun q c e => ?_⟩
    have e' : (W.η.del g).get q = some c := e
    rw [Hd.get_del] at e'
    by_cases z : q = g
    · rw [if_pos z] at e'; cases e'
    · rw [if_neg z] at e'; exact .inl ⟨c, e', id⟩
  have orig : ∀ q c, (W.η.del g).get q = some c → q ≠ g ∧ W.η.get q = some c := fun q c e => by
    rw [Hd.get_del] at e
    by_cases z : q = g
    · rw [if_pos z] at e; cases e
    · rw [if_neg z] at e; exact ⟨z, e⟩
  refine ⟨xx, fun q c e => o.lt q c (orig q c e).2, fun q c e => ?_, fun q s c d e1 e2 e => o.inj q s c d (orig q c e1).2 (orig s d e2).2 e, o5.tab⟩
  obtain ⟨z, e'⟩ := orig q c e
  exact (o.cell q c e').mono o xx (fun ob t h => keep _ ob t h (o.apart hg e' z))
theorem RelS.blank {W : Wl} {σ : St} {m : Nat} (h : σ.length = m) : RelS W (List.replicate m none) σ := by
  refine ⟨by rw [List.length_replicate]; exact h.symm, fun i d e => ?_⟩
  have := List.mem_of_getElem? e
  rw [List.mem_replicate] at this
  cases this.2
section
variable {X : Cx} {N : Nm} {E : XK}
/-- what the rounds give -/
def RndQ (K : PySem.W.Frag) (N : Nm) (H : Hp) (Q : VK) : Prop := ∀ W' r l v, Ext ⟨fun _ => 0, ⟨0, []⟩, H⟩ W' → W'.Ok K N.toNames → W'.η.get r = some (.lst l) → dicesL l (frzAt r l W'.η) = true → RelD W' (.ref r) v → Q v W'.H
def spRnd (K : PySem.W.Frag) (N : Nm) : Sp := fun vs H Q _ => ∃ (a : Addr) (ns : List Int) (m : Nat), vs = [.ref a, .int (Int.ofNat m)] ∧ m ≤ 4 ∧ SqL K H a (ns.map V.int) ∧ Tabs N.tabs H ∧ RndQ K N H Q
def tLaw (K : PySem.W.Frag) (N : Nm) (m : Nat) : TS := fun Z σ H => ∃ (a : Addr) (ns : List Int), σ[0]? = some (some (.ref a)) ∧ σ.length = m ∧ SqL K H a (ns.map V.int) ∧ Tabs N.tabs H ∧ ∀ H', Z.rt (.bl true) H'
/-- for dice in _law_rounds(script, n): body; return True -/
theorem law_loop {k : Nat} {f : Addr} {fd : FuncData} {ps : List Str} {i m n : Nat} {x y : Str} {e0 e1 : Expr} {body : List Stmt} {c : CK} {p p' p2 pos pos2 : Pos} {jj} {pb : Pos}
    (G : FnOk X.prog X.w X.K X.mg X.base (L2.CX X.prog X.w) k f fd ps (spRnd X.K N)) (hr : Room k X.A) (hgl : Gl X x) (hm : X.mg x = some (.ref f)) (hk : PySem.W.keepIn X.K (.ref f) = true) (hb : Binds X.K fd ps []) (hx : Passes (L2.CX X.prog X.w) X E)
    (h0 : PE X e0 (tVar 0)) (h1 : PE X e1 (tC (.int (Int.ofNat n)))) (hn : n ≤ 4)
    (hp : PassesOwn (model X.prog X.w) X.A X.env X.xe) (hc : X.calm = true) (hg : JG X N E (.Name y p') (gNm i)) (hbody : JK X N E m body c) (hgen : c ((List.replicate m none).set i (some (.ref 0))) ⟨1, [(0, .dice)]⟩ = true)
    (hs : ∀ x', foldedSetIterable (.Call (.Name x p) [e0, e1] [] p2) X.env x' = pure x' := by intro _; rfl)
    (hdb : (x == ("__debug__" : Str)) = false := by decide) (hs1 : starEach (e0 :: [e1]) X.env = (false, eval e0 X.env) :: starEach [e1] X.env := by rfl) (hs2 : starEach (e1 :: []) X.env = (false, eval e1 X.env) :: starEach [] X.env := by rfl)
    (hpl : (backTo p2 (starEach [e1] X.env)).any (·.1) = false := by rfl) :
    PSs X [.For (.Name y p') (.Call (.Name x p) [e0, e1] [] p2) body [] pos, .Return (some (.Constant (.bool true) jj pb)) pos2] (tLaw X.K N m) := by
  refine PSs.imp (pss_cons (ps_for hp hc (pi_seq (pe_call G hr hgl hm hk hb .nil hx (pa_cons h0 (pa_cons h1 pa_nil hs2) hs1) hdb hs1 hpl)) hg hbody hs) (pss_one (ps_ret pe_bl))) fun Z σ H q => ?_
  obtain ⟨a, ns, e1, em, e2, e3, e4⟩ := q
  refine ⟨.ref a, e1, ?_⟩
  refine ⟨a, ns, n, rfl, hn, e2, e3, fun W1 r l v x1 o1 hr hd rv => ?_⟩
  have ev := relRef rv
  subst ev
  obtain ⟨vs, g1, g2, g3⟩ := o1.cell r _ hr
  refine .inl ⟨_, rfl, ⟨vs, SqL.of g1⟩, ?_⟩
  have fz : FzOk W1 ⟨l, some (r, l)⟩ := fun r' l' e => by cases e; exact hr
  obtain ⟨xf, of⟩ := Its.froze o1 fz
  have gq : (frzAt r l W1.η).get r = some (.frz l) := by
    unfold frzAt
    rw [Hd.get_set, if_pos rfl, hr]; rfl
  have wk : WalkD X.K N (Its.w ⟨l, some (r, l)⟩ W1) l (Itl X.K (W1.μ r)) := walkD_list (fun W1 x => x.fz r l _ gq g1) (g2.mono o1 xf)
  refine ⟨fun i m' σ2 H2 => m' = l.length - i ∧ i ≤ l.length ∧ σ2.length = m ∧ ∃ W2, W2.H = H2 ∧ Ext (Its.w ⟨l, some (r, l)⟩ W1) W2 ∧ W2.Ok X.K N.toNames ∧ dicesL (l.drop i) W2.η = true,
    ⟨l.length, by omega, Nat.zero_le _, em, Its.w ⟨l, some (r, l)⟩ W1, rfl, Ext.refl _, of, hd⟩, ?_⟩
  rintro i' m' σ2 H2 ⟨rfl, hi, hσ, W2, rfl, x2, o2, h2⟩
  by_cases hlt : i' < l.length
  · refine .inr ⟨wk.go W2 i' (x2.sty of) o2 hlt, fun σ3 H3 => σ3.length = m ∧ ∃ W3, W3.H = H3 ∧ Ext (Its.w ⟨l, some (r, l)⟩ W1) W3 ∧ W3.Ok X.K N.toNames ∧ dicesL (l.drop (i' + 1)) W3.η = true, fun σ3 H3 p3 => ⟨l.length - (i' + 1), by omega, rfl, hlt, p3⟩, fun yv H3 hy => ?_⟩
    obtain ⟨W3, d, e3', x3, o3, eH, eη, r3⟩ := wk.yld W2 i' yv H3 (x2.sty of) o2 hlt hy
    subst eH
    have ed : l.drop i' = d :: l.drop (i' + 1) := by
      rw [List.drop_eq_getElem_cons hlt]
      have : l[i'] = d := by
        have := List.getElem?_eq_getElem hlt
        rw [this] at e3'; exact Option.some.inj e3'
      rw [this]
    rw [ed, ← eη] at h2
    obtain ⟨g, rfl, hgd, h2⟩ := dicesL_cons h2
    have x03 := x2.trans of o2 x3
    have o' : Wl.Ok X.K N.toNames ⟨fun _ => W3.μ g, ⟨1, [(0, .dice)]⟩, W3.H⟩ := by
      have one : ∀ q (cc : Cell), (Hd.mk 1 [(0, .dice)]).get q = some cc → q = 0 ∧ cc = .dice := fun q cc e => by
        unfold Hd.get look at e
        cases ez : Nat.beq 0 q with
        | true => simp only [ez] at e; cases e; exact ⟨(Nat.eq_of_beq_eq_true ez).symm, rfl⟩
        | false => simp only [ez] at e; cases e
      refine ⟨fun q cc e => ?_, fun q cc e => ?_, fun q s cc d e1 e2 e => ?_, o3.tab⟩
      · rw [(one q cc e).1]; exact Nat.zero_lt_one
      · obtain ⟨rfl, rfl⟩ := one q cc e
        obtain ⟨a1, a2, a3, h⟩ := o3.cell g _ hgd
        exact ⟨a1, a2, a3, h⟩
      · rw [(one q cc e1).1, (one s d e2).1]
    have rv' : RelD ⟨fun _ => W3.μ g, ⟨1, [(0, .dice)]⟩, W3.H⟩ (.ref 0) yv := by
      have e9 := relRef r3
      rw [RelD]; exact ⟨Nat.zero_lt_one, e9⟩
    refine ⟨⟨fun _ => W3.μ g, ⟨1, [(0, .dice)]⟩, W3.H⟩, .ref 0, List.replicate m none, c, fun _ _ => false, rfl, o', rv', RelS.blank hσ, hgen, fun W4 σd4 σ4 x4 o4 s4 h4 => ?_, fun _ _ _ _ _ _ _ e => by cases e⟩
    have nxt : ∀ W5 σd5 σ5, Ext ⟨fun _ => W3.μ g, ⟨1, [(0, .dice)]⟩, W3.H⟩ W5 → W5.Ok X.K N.toNames → RelS W5 σd5 σ5 → Nat.beq σd5.length m = true → (σ5.length = m ∧ ∃ W3, W3.H = W5.H ∧ Ext (Its.w ⟨l, some (r, l)⟩ W1) W3 ∧ W3.Ok X.K N.toNames ∧ dicesL (l.drop (i' + 1)) W3.η = true) := fun W5 σd5 σ5 x5 o5 s5 hl5 => by
      obtain ⟨xa, oa⟩ := o3.aside hgd x5 o5
      exact ⟨s5.len.symm.trans (Nat.eq_of_beq_eq_true hl5), ⟨W3.μ, W3.η.del g, W5.H⟩, rfl, x03.trans of o3 xa, oa, h2⟩
    exact ⟨_, W4, σd4, o', Nat.le_refl 1, x4, rfl, o4, s4, h4, ⟨nxt, (fun _ _ _ _ _ _ e => by cases e), (fun _ _ _ _ _ _ e => by cases e), nxt, (fun _ _ _ _ _ _ _ e => by cases e)⟩⟩
  · have e : i' = l.length := by omega
    subst e
    exact .inl ⟨wk.stop W2 (x2.sty of) o2, e4 _⟩
end
end DL

/-! the rounds -/
namespace DL
open PySem PySem.Spec L2
/-- what is wanted of the rounds' end -/
def kR : KS := ⟨fun _ _ => false, fun d η => match d with
  | .ref r => match η.get r with
    | some (.lst l) => dicesL l (frzAt r l η)
    | _ => false
  | _ => false, fun _ _ => false, fun _ _ => false, fun _ _ => false⟩
def rndσ (m : Nat) : SD := none :: none :: some (.ref 0) :: List.replicate (m - 3) none
def RndT (m : Nat) (c : CS) : Prop := ∀ l : List Int, l.length ≤ 4 → c (rndσ m) ⟨1, [(0, .lst (l.map D.int))]⟩ kR = true
theorem cut_ints (ns : List Int) (m : Nat) : ∃ l : List Int, cutV (ns.map V.int) none (some (Int.ofNat m)) = l.map V.int ∧ l.length ≤ m := by
  unfold cutV
  rw [← List.map_drop, ← List.map_take]
  refine ⟨_, rfl, ?_⟩
  rw [List.length_take]
  have h1 : HT.sIx (ns.map V.int).length (ns.map V.int).length (some (Int.ofNat m)) = min m (ns.map V.int).length := HT.sIx_nat _ _ m
  rw [h1]
  omega
def tRnd (K : PySem.W.Frag) (N : Nm) (n : Nat) : TS := fun Z σ H => ∃ (a : Addr) (ns : List Int) (m : Nat) (t : St), σ = some (.ref a) :: some (.int (Int.ofNat m)) :: none :: t ∧ t.length = n - 3 ∧ m ≤ 4 ∧ SqL K H a (ns.map V.int) ∧ Tabs N.tabs H ∧ RndQ K N H Z.rt
section
variable {X : Cx} {N : Nm} {E : XK}
theorem rnd_body {n : Nat} {y : Str} {e0 e1 : Expr} {rest : List Stmt} {c : CS} {py p2 p3 p4 : Pos} (hN : X.N.Nodup) (hi : X.N[2]? = some y) (hl : L2.Loc X.env.scope y) (h0 : PE X e0 (tVar 0)) (h1 : PE X e1 (tVar 1)) (hr : JB X N E rest c) (hT : RndT n c)
    (hsw : swapsWith (.Subscript e0 (.Slice none (some e1) none p2) p3) (some (.Name y py)) p4.line X.env = pure false := by rfl) (hf : X.fn y = true ∨ X.env.scope.names.lookup y = some .local := by first | exact .inr rfl | assumption) :
    PSs X (.Assign [.Name y py] (.Subscript e0 (.Slice none (some e1) none p2) p3) p4 :: rest) (tRnd X.K N n) := by
  refine PSs.imp (pss_cons (ps_set hN hi hl (pe_slice sl_list h0 po_none (po_some h1)) hsw hf) hr) fun Z σ H q => ?_
  obtain ⟨a, ns, m, t, rfl, ht, hm, hS, hTb, hQ⟩ := q
  obtain ⟨l, el, ll⟩ := cut_ints ns m
  refine ⟨.ref a, rfl, .int (Int.ofNat m), rfl, Int.ofNat m, rfl, a, ns.map V.int, rfl, hS, fun p hp => ?_⟩
  rw [el]
  have o0 : Wl.Ok X.K N.toNames ⟨fun _ => 0, ⟨0, []⟩, H⟩ := ⟨(fun _ _ e => nomatch e), (fun _ _ e => nomatch e), (fun _ _ _ _ e => nomatch e), hTb⟩
  have hz : (l.map D.int).length ≤ sizeLine := by rw [List.length_map]; exact Nat.le_trans ll (Nat.le_trans hm (by decide))
  refine new_lst (Q := fun v H' => tS X.K N E c Z (some (.ref a) :: some (.int (Int.ofNat m)) :: some v :: t) H') o0 (fun W1 v x1 o1 e1 r1 => ?_) hp (ints_rel (ns := l)) hz
  refine ⟨W1, rndσ n, kR, rfl, o1, ?_, ?_, ⟨(fun _ _ _ _ _ _ e => by cases e), fun W2 d v2 x2 o2 r2 e2 => ?_, (fun _ _ _ _ _ _ e => by cases e), (fun _ _ _ _ _ _ e => by cases e), (fun _ _ _ _ _ _ _ e => by cases e)⟩⟩
  · refine ⟨by simp [rndσ, ht], fun i d e => ?_⟩
    match i with
    | 0 => simp [rndσ] at e
    | 1 => simp [rndσ] at e
    | 2 =>
      simp only [rndσ, List.getElem?_cons_succ, List.getElem?_cons_zero, Option.some.injEq] at e
      subst e
      exact ⟨v, rfl, r1⟩
    | i + 3 =>
      simp only [rndσ, List.getElem?_cons_succ] at e
      have := List.mem_of_getElem? e
      rw [List.mem_replicate] at this
      cases this.2
  · rw [e1]; exact hT l (Nat.le_trans ll hm)
  · unfold kR at e2
    dsimp only at e2
    cases d with
    | ref r =>
      dsimp only at e2
      cases eg : W2.η.get r with
      | none => rw [eg] at e2; cases e2
      | some cc =>
        cases cc with
        | lst l2 => rw [eg] at e2; exact hQ W2 r l2 v2 (x1.trans o0 o1 x2) o2 eg e2 r2
        | _ => rw [eg] at e2; cases e2
    | _ => cases e2
end
end DL

/-! the dice's own defs -/
namespace DL
open PySem PySem.Spec L2
def b_roll : CS := (sSeq (sIf (ctOr (cTst (cOp fEq (cOp fIx (cVar 0) (cC (.int 2))) (cC (.int 2)))) (ctAnd (cTst (cOp fEq (cOp fIx (cVar 0) (cC (.int 2))) (cC (.int 1)))) (cTst (cOp (fB2 igt) (cOp fIx (cVar 0) (cC (.int 0))) (cC (.int 0)))))) (sSeq (sAsg (cOp fMod (cFn (f1 gInt) (cCons (cOp fIx (cVar 0) (cC (.int 0))) cNil)) (cVar 1)) (gNm 2)) (sSeq (sAsg (cOp fDiv (cOp fIx (cVar 0) (cC (.int 0))) (cVar 1)) (gSb (cVar 0) (cC (.int 0)))) (sRet (cVar 2)))) sNil) (sSeq (sAsg (cC (.int 0)) (gSb (cVar 0) (cC (.int 2)))) (sSeq (sAsg (cOp fMod (cFn (f1 gInt) (cCons (cOp fAdd (cOp fAdd (cOp fMul (cOp fIx (cVar 0) (cC (.int 0))) (cC (.int 48271))) (cOp fMul (cOp fIx (cVar 0) (cC (.int 1))) (cC (.int 69621)))) (cC (.int 11))) cNil)) (cC (.int 2147483647))) (gSb (cVar 0) (cC (.int 0)))) (sSeq (sAsg (cOp fAdd (cOp fIx (cVar 0) (cC (.int 1))) (cC (.int 1))) (gSb (cVar 0) (cC (.int 1)))) (sRet (cOp fMod (cFn (f1 gInt) (cCons (cOp fAdd (cOp fDiv (cOp fIx (cVar 0) (cC (.int 0))) (cC (.int 7))) (cOp fIx (cVar 0) (cC (.int 0)))) cNil)) (cVar 1)))))))
def b_dice : CS := (sSeq (sIf (cTst (cChain (fB2 ilt) (fB2 ilt) (cOp fSub (cC (.int 0)) (cC (.int 10))) (cVar 0) (cC (.int 10)))) (sRet (cLst (cCons (cFn (f1 gAbs) (cCons (cVar 0) cNil)) (cCons (cC (.int 0)) (cCons (cC (.int 2)) cNil))))) sNil) (sRet (cLst (cCons (cVar 0) (cCons (cOp fAdd (cC (.int 1)) (cOp fMod (cFn (f1 gInt) (cCons (cVar 0) cNil)) (cC (.int 1009)))) (cCons (cFn (f1 gInt) (cCons (cOp (fB2 ige) (cVar 0) (cOp fPow (cC (.int 10)) (cC (.int 18)))) cNil)) cNil))))))
def b_rnd : CS := (sSeq (sIf (cTst (cOp fEq (cVar 2) (cLst cNil))) (sAsg (cLst (cCons (cC (.int 0)) cNil)) (gNm 2)) sNil) (sRet (cLc (ciSeq (cVar 2)) (gNm 3) ctYes (cCall fDice (cCons (cVar 3) cNil)) [3])))
theorem rnd_ok : RndT 4 b_rnd := by
  intro l hl
  match l, hl with
  | [], _ => rfl
  | [a], _ => rfl
  | [a, b], _ => rfl
  | [a, b, c], _ => rfl
  | [a, b, c, d], _ => rfl
  | _ :: _ :: _ :: _ :: _ :: _, h => exact absurd h (by simp)
theorem dice_ok : DiceOk (cDef 1 1 b_dice) := by
  intro c η kv kx h
  show b_dice [some (.int c)] η ⟨fun _ η1 => kv .non η1, kv, fun _ _ => false, fun _ _ => false, kx⟩ = true
  have pw : ∀ η' : Hd, fPow (.int 10) (.int 18) η' = some (.int (ipow 10 18), η') := fun _ => rfl
  have low : ∀ b : Bool, ige c (ipow 10 18) = b → b_dice [some (.int c)] η ⟨fun _ η1 => kv .non η1, kv, fun _ _ => false, fun _ _ => false, kx⟩ = true := fun b eb => by
    cases e1 : ilt (isub 0 10) c with
    | true =>
      cases e2 : ilt c 10 with
      | true =>
        simp [b_dice, sSeq, sIf, cTst, cChain, cOp, cC, cVar, fSub, fI2, fB2, e1, e2, sRet, cLst, cCons, cNil, cFn, f1, gAbs, line]
        exact h _ _ _
      | false =>
        cases b <;>
        · simp [b_dice, sSeq, sIf, sNil, cTst, cChain, cOp, cC, cVar, fSub, fI2, fB2, e1, e2, sRet, cLst, cCons, cNil, cFn, f1, gInt, line, fAdd, fOr, fMod, fI2c, modOk, pw, eb]
          exact h _ _ _
    | false =>
      cases b <;>
      · simp [b_dice, sSeq, sIf, sNil, cTst, cChain, cOp, cC, cVar, fSub, fI2, fB2, e1, sRet, cLst, cCons, cNil, cFn, f1, gInt, line, fAdd, fOr, fMod, fI2c, modOk, pw, eb]
        exact h _ _ _
  exact low _ rfl
theorem roll_ok : RollOk (cDef 2 3 b_roll) := by
  intro g m p q r η kv kx h0 h1 hg hk
  obtain ⟨n, rfl⟩ : ∃ n : Nat, m = Int.ofNat (n + 1) := ⟨m.toNat - 1, by show m = ((m.toNat - 1 + 1 : Nat) : Int); omega⟩
  have hn : n ≤ 1000000000 := by have : ((n + 1 : Nat) : Int) ≤ 1000000001 := h1; omega
  have gs : ∀ (η' : Hd) (l l' : List D), η'.get g = some (.lst l) → (η'.set g (.lst l')).get g = some (.lst l') := fun η' l l' e => by rw [Hd.get_set, if_pos rfl, e]; rfl
  show b_roll [some (.ref g), some (.int (Int.ofNat (n + 1))), none] η ⟨fun _ η1 => kv .non η1, kv, fun _ _ => false, fun _ _ => false, kx⟩ = true
  have ix : ∀ (η' : Hd) (a b c : Int), η'.get g = some (.lst (l3 a b c)) → fIx (.ref g) (.int 0) η' = some (.int a, η') ∧ fIx (.ref g) (.int 1) η' = some (.int b, η') ∧ fIx (.ref g) (.int 2) η' = some (.int c, η') := fun η' a b c e => by
    refine ⟨?_, ?_, ?_⟩ <;> (simp only [fIx, e]; rfl)
  have st : ∀ (η' : Hd) (a b c v : Int), η'.get g = some (.lst (l3 a b c)) → fSet (.ref g) (.int 0) (.int v) η' = some (η'.set g (.lst (l3 v b c))) ∧ fSet (.ref g) (.int 1) (.int v) η' = some (η'.set g (.lst (l3 a v c))) ∧ fSet (.ref g) (.int 2) (.int v) η' = some (η'.set g (.lst (l3 a b v))) := fun η' a b c v e => by
    refine ⟨?_, ?_, ?_⟩ <;> (simp only [fSet, e]; rfl)
  have eqi : ∀ (a b : Int) (η' : Hd), fEq (.int a) (.int b) η' = some (.bl (ieq a b), η') := fun a b η' => rfl
  have dv : divOk 0 (Int.ofNat (n + 1)) = true := by
    show Nat.ble n 1000000000 = true
    exact Nat.ble_eq_true_of_le hn
  have dv' : ∀ a, divOk a (Int.ofNat (n + 1)) = true := fun a => dv
  have md' : ∀ a, modOk a (Int.ofNat (n + 1)) = true := fun a => rfl
  have lo : ∀ a : Int, 0 ≤ imod a (Int.ofNat (n + 1)) ∧ imod a (Int.ofNat (n + 1)) < Int.ofNat (n + 1) := fun a => ⟨Int.emod_nonneg _ (by show ((n + 1 : Nat) : Int) ≠ 0; omega), Int.emod_lt_of_pos _ (by show (0 : Int) < ((n + 1 : Nat) : Int); omega)⟩
  have i0 := (ix η p q r hg).1
  have i2 := (ix η p q r hg).2.2
  have mul : ∀ (a : Int) (η' : Hd), fMul (.int a) (.int 48271) η' = some (.int (imul a 48271), η') ∧ fMul (.int a) (.int 69621) η' = some (.int (imul a 69621), η') := fun a η' => by
    have : mulOk a 48271 = true ∧ mulOk a 69621 = true := by unfold mulOk; exact ⟨by rw [Bool.or_eq_true]; exact .inr rfl, by rw [Bool.or_eq_true]; exact .inr rfl⟩
    simp [fMul, fOr, fI2c, this.1, this.2]
  have m1 := fun a η' => (mul a η').1
  have m2 := fun a η' => (mul a η').2
  have md1 : ∀ (a : Int) (η' : Hd), fMod (.int a) (.int 2147483647) η' = some (.int (imod a 2147483647), η') := fun _ _ => rfl
  have md2 : ∀ (a : Int) (η' : Hd), fMod (.int a) (.int (Int.ofNat (n + 1))) η' = some (.int (imod a (Int.ofNat (n + 1))), η') := fun _ _ => rfl
  have dv1 : ∀ (a : Int) (η' : Hd), fDiv (.int a) (.int (Int.ofNat (n + 1))) η' = some (.int (idiv a (Int.ofNat (n + 1))), η') := fun a η' => by simp only [fDiv, fI2c, dv']
  have dv7 : ∀ (a : Int) (η' : Hd), fDiv (.int a) (.int 7) η' = some (.int (idiv a 7), η') := fun _ _ => rfl
  have ad : ∀ (a b : Int) (η' : Hd), fAdd (.int a) (.int b) η' = some (.int (iadd a b), η') := fun _ _ _ => rfl
  have gt : ∀ (a b : Int) (η' : Hd), fB2 igt (.int a) (.int b) η' = some (.bl (igt a b), η') := fun _ _ _ => rfl
  have s0 := fun v => (st η p q r v hg).1
  have s2 := (st η p q r 0 hg).2.2
  have hS := fun a b c => gs η _ (l3 a b c) hg
  have j0 := fun a b c => (ix _ a b c (hS a b c)).1
  have j1 := fun a b c => (ix _ a b c (hS a b c)).2.1
  have t0 : ∀ a b c v, fSet (.ref g) (.int 0) (.int v) (η.set g (.lst (l3 a b c))) = some (η.set g (.lst (l3 v b c))) := fun a b c v => by rw [(st _ a b c v (hS a b c)).1, Hd.set_set]
  have t1 : ∀ a b c v, fSet (.ref g) (.int 1) (.int v) (η.set g (.lst (l3 a b c))) = some (η.set g (.lst (l3 a v c))) := fun a b c v => by rw [(st _ a b c v (hS a b c)).2.1, Hd.set_set]
  have fin : ∀ a : Int, ∀ l : List D, (∃ x y z, l = l3 x y z) → kv (.int (imod a (Int.ofNat (n + 1)))) (η.set g (.lst l)) = true := fun a l ⟨x, y, z, e⟩ => by
    rw [e]; exact hk _ _ _ _ (lo a).1 (lo a).2
  have three : ∀ (x y z : Int), ∃ x' y' z', l3 x y z = l3 x' y' z' := fun x y z => ⟨x, y, z, rfl⟩
  generalize hM : Int.ofNat (n + 1) = M at *
  have long : (match ieq r 2 with
      | true => false
      | false => match ieq r 1 with
        | true => !(igt p 0)
        | false => true) = true → b_roll [some (.ref g), some (.int M), none] η ⟨fun _ η1 => kv .non η1, kv, fun _ _ => false, fun _ _ => false, kx⟩ = true := fun hh => by
    cases e2 : ieq r 2 with
    | true => rw [e2] at hh; cases hh
    | false =>
      rw [e2] at hh
      cases e1 : ieq r 1 with
      | false =>
        simp [b_roll, sSeq, sIf, sNil, ctOr, ctAnd, cTst, cOp, cC, cVar, sRet, sAsg, gNm, gSb, cCons, cNil, cFn, f1, gInt, i0, i2, eqi, e1, e2, s2, j0, j1, t0, t1, m1, m2, ad, md1, dv7, md2, fin, three]
      | true =>
        rw [e1] at hh
        have e0 : igt p 0 = false := by simpa using hh
        simp [b_roll, sSeq, sIf, sNil, ctOr, ctAnd, cTst, cOp, cC, cVar, sRet, sAsg, gNm, gSb, cCons, cNil, cFn, f1, gInt, i0, i2, eqi, e0, e1, e2, gt, s2, j0, j1, t0, t1, m1, m2, ad, md1, dv7, md2, fin, three]
  cases e2 : ieq r 2 with
  | true => simp [b_roll, sSeq, sIf, sNil, ctOr, ctAnd, cTst, cOp, cC, cVar, sRet, sAsg, gNm, gSb, cCons, cNil, cFn, f1, gInt, i0, i2, eqi, e2, md2, dv1, s0, fin, three]
  | false =>
    cases e1 : ieq r 1 with
    | false => exact long (by rw [e2, e1])
    | true =>
      cases e0 : igt p 0 with
      | false => exact long (by rw [e2, e1, e0]; rfl)
      | true => simp [b_roll, sSeq, sIf, sNil, ctOr, ctAnd, cTst, cOp, cC, cVar, sRet, sAsg, gNm, gSb, cCons, cNil, cFn, f1, gInt, i0, i2, eqi, e0, e1, e2, gt, md2, dv1, s0, fin, three]
end DL

/-! the ends of a law -/
namespace DL
open PySem PySem.Spec L2
section
variable {X : Cx} {N : Nm} {E : XK}
end
def spLaw (K : PySem.W.Frag) (N : Nm) : Sp := fun vs H Q _ => ∃ (a : Addr) (ns : List Int), vs = [.ref a] ∧ SqL K H a (ns.map V.int) ∧ Tabs N.tabs H ∧ ∀ H', Q (.bl true) H'
theorem tLaw_of {K : PySem.W.Frag} {N : Nm} {Ns : List Str} {vs : List V} {H : Hp} {Q : VK} {E : XK} {nx : St → Hp → Prop} (h : spLaw K N vs H Q E) (hl : 1 ≤ Ns.length) : tLaw K N Ns.length { nx := nx, rt := Q } (L2.start Ns vs) H := by
  obtain ⟨a, ns, rfl, h1, h2, h3⟩ := h
  exact ⟨a, ns, rfl, by simp [L2.start]; omega, h1, h2, h3⟩
theorem tRnd_of {K : PySem.W.Frag} {N : Nm} {Ns : List Str} {vs : List V} {H : Hp} {Q : VK} {E : XK} {nx : St → Hp → Prop} (h : spRnd K N vs H Q E) (hl : 3 ≤ Ns.length) : tRnd K N Ns.length { nx := nx, rt := Q } (L2.start Ns vs) H := by
  obtain ⟨a, ns, m, rfl, h1, h2, h3, h4⟩ := h
  match Ns, hl with
  | _ :: _ :: _ :: t, _ => exact ⟨a, ns, m, List.replicate t.length none, by simp [L2.start, List.replicate_succ], by simp, h1, h2, h3, h4⟩
end DL

/-! generator expressions within sum, any, all -/
namespace DL
open PySem PySem.Spec L2
/-- the context of a generator expression's body -/
abbrev genCx (X : Cx) (AY : Around) (s : Shared) (H : Hp) (cenv : Env) (fp : List Addr) : Cx :=
  { X with A := AY, s_0 := s, H_0 := H, env := cenv, outer := X.stack, stack := cenv :: X.stack, ex := fp, fn := fun _ => false, calm := true, pn := [], xe := fun _ _ => False }
section
variable {X : Cx} {pins : List (Addr × Obj)} {σ : L2.St} {H : Hp} {s : Shared}
theorem gen_start {AY : Around} {scope : Scope} {own : List (Str × Nat)} {fp : List Addr} {code : Value} {cenv : Env} {h' : Heap} {g' : Array GenState} {t' : Nat} {m0 : Str → Option Value}
    (I : Inv X pins σ H s) (ok : BlkOk X.N X.env.scope scope own) (hN : X.N.Nodup) (hfp : ∀ b ∈ fp, FpOk X pins H b ∧ b < s.heap.objs.size)
    (hce : cenv = genEnv scope (cloFrom X.env.cells scope.names []) s.heap.objs.size code builtinsNs X.env) (hcell : ∀ y ∈ scope.names, y.2 ≠ .cell) (hAh : AY.handled = none) (hAf : AY.frames = some (cenv :: X.stack))
    (hns : h'.Ns s.heap.objs.size m0) (kp : ∀ b o, s.heap.get? b = some o → h'.get? b = some o) (hb : PyProof.Rows.AllBare g') :
    Inv (genCx X AY s H cenv fp) [] (wipe σ (own.map (·.2))) H { s with heap := h', gens := g', toks := t' } := by
  have hfree : ∀ y ∈ scope.names, y.2 = .free → ∃ c, X.env.cells.lookup y.1 = some c := fun y hy e => (ok.free y hy e).elim (fun k => I.ok.has _ (.inl k)) fun k => I.ok.has _ (.inr k)
  have hL : cenv.locals = s.heap.objs.size := by rw [hce]; rfl
  have hcl : cenv.cells = cloFrom X.env.cells scope.names [] := by rw [hce]; rfl
  have hsc : cenv.scope = scope := by rw [hce]; rfl
  have cm : ∀ {y c}, cenv.cells.lookup y = some c → X.env.cells.lookup y = some c ∧ c < s.heap.objs.size := fun {y c} e => by
    rw [hcl] at e
    rcases cloFrom_mem (PySem.mem_of_lookup e) with hm | ⟨h1, e2⟩
    · cases hm
    · obtain ⟨c1, hc⟩ := hfree _ h1 rfl
      have hc : X.env.cells.lookup y = some c1 := hc
      have e3 : c = c1 := by rw [e2, hc]; rfl
      subst e3
      obtain ⟨_, z⟩ := I.cell _ _ hc
      exact ⟨hc, z.lt⟩
  have look : ∀ {y}, scope.names.lookup y = some .free → ∃ c, cenv.cells.lookup y = some c := fun {y} hl => by
    rw [hcl]
    exact mem_lookup (cloFrom_has (cells := X.env.cells) (acc := []) (PySem.mem_of_lookup hl))
  have okY : (genCx X AY s H cenv fp).Ok := by
    refine ⟨I.ok.mod, by show cenv.scope.kind = _; rw [hsc]; exact ok.kind, by show cenv.globals = _; rw [hce]; exact I.ok.glob, by show cenv.builtins = _; rw [hce]; rfl, by show s.heap.objs.size ≤ cenv.locals; rw [hL]; exact Nat.le_refl _,
      fun y z c e1 e2 => I.ok.inj y z c (cm e1).1 (cm e2).1, fun y hy => ?_, (fun y c z _ => by cases z), fun _ => hAh, hAf, .inr ⟨rfl, by show cenv.frame = some cenv.locals; rw [hce]; rfl⟩, fun b hb => ⟨?_, fun y c e z => ?_⟩, I.bs, Nat.le_trans I.ok.bsz I.sz, fun b o e hb => ?_, fun b hb z => ?_, I.stack, I.stkFree⟩
    · have hy : scope.names.lookup y = some .cell ∨ scope.names.lookup y = some .free := by
        have hy' : cenv.scope.names.lookup y = some .cell ∨ cenv.scope.names.lookup y = some .free := hy
        rw [hsc] at hy'
        exact hy'
      rcases hy with hy | hy
      · exact absurd rfl (hcell _ (PySem.mem_of_lookup hy))
      · exact look hy
    · show b ≠ cenv.locals
      rw [hL]; exact Nat.ne_of_lt (hfp b hb).2
    · exact (hfp b hb).1.2.2.2.2.1 y c (cm e).1 z
    · rcases (hfp b hb).1.2.2.2.1 with z | z
      · exact I.ok.noex b o e z
      · exact absurd (Nat.lt_of_lt_of_le (Heap.lt_size e) (Nat.le_trans I.ok.bsz z)) (Nat.lt_irrefl _)
    · rcases List.mem_cons.mp (I.stkSub b z) with z | z
      · exact (hfp b hb).1.2.1 z
      · exact (hfp b hb).1.2.2.1 z
  refine ⟨okY, rfl, hb, Un.kept kp, ⟨m0, by show h'.Ns cenv.locals m0; rw [hL]; exact hns, fun i y av e1 e2 e3 => ?_⟩, fun y c e => ?_, ?_, fun y c e => ?_, fun p hp => absurd (show p ∈ ([] : List (Addr × Obj)) ++ [] from hp) (by simp), I.hok.kept kp, by rw [wipe_length]; exact I.len⟩
  · obtain ⟨e2, hne⟩ := wipe_some e2
    have no : ∀ k, scope.names.lookup y = some k → k = .local ∨ k = .cell → False := fun k e hh => by
      rcases ok.own _ (PySem.mem_of_lookup e) hh with e' | e'
      · obtain ⟨p, hp, hpy⟩ := List.mem_map.mp e'
        have e3 := ok.ix p hp
        have : p.1 = y := hpy
        rw [this] at e3
        exact hne (List.mem_map.mpr ⟨p, hp, nodup_ix hN e3 e1⟩)
      · exact e' (List.mem_of_getElem? e1)
    have e3 : Vis cenv.scope y := e3
    rw [hsc] at e3
    have hfr : scope.names.lookup y = some .free := by
      rcases e3 with e3 | e3 | e3
      · exact (no _ e3 (.inl rfl)).elim
      · exact (no _ e3 (.inr rfl)).elim
      · exact e3
    obtain ⟨m, hn, hl⟩ := I.loc
    have hvis : Vis X.env.scope y := (ok.free _ (PySem.mem_of_lookup hfr) rfl).elim (fun k => .inr (.inl k)) (fun k => .inr (.inr k))
    obtain ⟨w, r, q⟩ := hl i y av e1 e2 hvis
    obtain ⟨c, h1⟩ := look hfr
    refine ⟨w, r, .inr ⟨.inr (by show cenv.scope.names.lookup y = _; rw [hsc]; exact hfr), c, h1, ?_⟩⟩
    rcases q with ⟨k, _⟩ | ⟨_, c', e', z⟩
    · have k : X.env.scope.names.lookup y = some .local := k
      rcases ok.free _ (PySem.mem_of_lookup hfr) rfl with k' | k' <;> rw [show X.env.scope.names.lookup y = _ from k'] at k <;> cases k
    · rw [(cm h1).1] at e'; cases e'
      exact z.keeps kp
  · obtain ⟨w, z⟩ := I.cell y c (cm e).1
    exact ⟨w, z.keeps kp⟩
  · show H cenv.locals = none
    rw [hL]; exact I.hok.fresh (Nat.le_refl _)
  · exact I.freeC y c (cm e).1
end
end DL

/-! the body of a generator expression, from yield to yield -/
namespace DL
open PySem PySem.Spec L2
section
variable {Y : Cx} {Γ : Type} {γ : Heap → Γ}
/-- what is said of each yield: as, the consumer's objects; W, what is wanted ahead of each turn; Yd, what is known of a value that is handed out -/
def gY (Y : Cx) (γ : Heap → Γ) (n : Nat) (as fp : List Addr) (σw : L2.St) (tn : Nat → Heap → Prop) (W : Nat → Γ → Hp → Prop) (Yd : Nat → Γ → V → Hp → Prop) : Protocol := fun m s₀ v s kap =>
  ∃ i y H, i < n ∧ n - (i + 1) + 1 ≤ m ∧ RelV y v ∧ Inv Y (pinsAt as s₀.heap) σw H s ∧ tn (i + 1) s.heap ∧ (∀ b ∈ fp, H b = none) ∧ Yd i (γ s₀.heap) y H ∧ ∀ s', Inv Y (pinsAt as s'.heap) σw H s' → tn (i + 1) s'.heap → W (i + 1) (γ s'.heap) H → kap (.send .none) s'
def gR (Y : Cx) (γ : Heap → Γ) (as : List Addr) (σw : L2.St) (End : Γ → Hp → Prop) : Nat → Shared → Shared → Prop := fun _ s₀ s₁ => ∃ H, Inv Y (pinsAt as s₀.heap) σw H s₁ ∧ End (γ s₀.heap) H
structure GStep {Γ : Type} (n : Nat) (J : It) (g : TG) (tt : TT) (te : TE) (vs : List Nat) (σw : L2.St) (W : Nat → Γ → Hp → Prop) (Yd : Nat → Γ → V → Hp → Prop) (End : Γ → Hp → Prop) : Prop where
  go : ∀ h i H, i < n → W i h H → J.go i H ∧ ∀ x H', J.yld i H x H' → g x σw H' fun σ2 H2 => wipe σ2 vs = σw ∧ tt σ2 H2 fun b H3 => if b = true then te σ2 H3 fun y H4 => Yd i h y H4 else W (i + 1) h H3
  stop : ∀ h H, W n h H → J.stop n H ∧ End h H
theorem gen_seg {A : Around} {elt tg iter : Expr} {ifs : List Expr} {scope : Scope} {pos : Pos} {it : Addr} {as fp : List Addr} {n : Nat} {J : It} {tn : Nat → Heap → Prop} {g : TG} {tt : TT} {te : TE} {vs : List Nat} {σw : L2.St} {W : Nat → Γ → Hp → Prop} {Yd : Nat → Γ → V → Hp → Prop} {End : Γ → Hp → Prop}
    (hA : A.over (.compLoop (.GeneratorExp elt [⟨tg, iter, ifs, 0⟩] scope pos) 0 (.ref it) .none Y.env) [] = Y.A) (hc : Y.calm = true) (hpn : Y.pn = []) (hex : Y.ex = fp) (hco : Y.env.scope.isCoroutine = false) (hd : ∀ b ∈ fp, b ∉ as)
    (T : Turn Y.prog Y.w Y.K tg J fp it tn) (hx : Y.xe = fun _ _ => False) (pg : PG Y tg g) (pt : PTs Y ifs tt) (pe : PE Y elt te) (G : GStep n J g tt te vs σw W Yd End) :
    ∀ (k i : Nat) (s₀ s : Shared) (H : Hp) (m : Nat), n - i = k → i ≤ n → k + 1 ≤ m → Inv Y (pinsAt as s₀.heap) σw H s → tn i s.heap → (∀ b ∈ fp, H b = none) → W i (γ s₀.heap) H →
      Seg (model Y.prog Y.w) A (fun n s₀ r s₁ => r = .ok .next ∧ gR Y γ as σw End n s₀ s₁) (gY Y γ n as fp σw tn W Yd) m s₀
        (.compLoop (.GeneratorExp elt [⟨tg, iter, ifs, 0⟩] scope pos) 0 (.ref it) .none Y.env) ((model Y.prog Y.w).den (.compLoop (.GeneratorExp elt [⟨tg, iter, ifs, 0⟩] scope pos) 0 (.ref it) .none Y.env)) [] s := by
  have stat : ∀ {s₀ : Shared} {σ' : L2.St} {H' : Hp} {s' : Shared}, Inv Y (pinsAt as s₀.heap) σ' H' s' → (∀ b ∈ fp, H' b = none) → ∀ b ∈ fp, FpOk Y (pinsAt as s₀.heap) H' b := fun {s₀ σ' H' s'} I' hn b hb =>
    ⟨hn b hb, (I'.ok.exf b (by rw [hex]; exact hb)).1, I'.ok.exfs b (by rw [hex]; exact hb), .inl (by rw [hex]; exact hb), fun x c e => (I'.ok.exf b (by rw [hex]; exact hb)).2 x c e, fun p hp z => by
      rw [hpn] at hp
      exact hd b hb (by rw [← z]; exact (of_pinsAt (show p ∈ pinsAt as s₀.heap from hp)).1)⟩
  intro k
  induction k with
  | zero =>
    intro i s₀ s H m hk hi hm I st hn w
    have e : i = n := by omega
    subst e
    obtain ⟨stop, en⟩ := G.stop (γ s₀.heap) H w
    show Seg _ A _ _ _ s₀ _ ((compTurn (.GeneratorExp elt [⟨tg, iter, ifs, 0⟩] scope pos) 0 (.ref it) .none Y.env).onRaise (leaving Y.env)) [] s
    rw [compTurn_gen, Sem.onRaise_eq_wrap]
    refine seg_bind_wrap (wpAny_standAt ?_)
    have td := T.done Y rfl rfl rfl hc i _ s _ H (fun _ _ => False) I (stat I hn) st stop
    rw [← hA] at td
    refine seg_bind_wrap (thnF td fun r s1 ⟨hr, I1⟩ => ?_)
    subst hr
    exact seg_end (.ok .next) ⟨rfl, H, I1, en⟩
  | succ k ih =>
    intro i s₀ s H m hk hi hm I st hn w
    have hlt : i < n := by omega
    obtain ⟨go, step⟩ := G.go (γ s₀.heap) i H hlt w
    show Seg _ A _ _ _ s₀ _ ((compTurn (.GeneratorExp elt [⟨tg, iter, ifs, 0⟩] scope pos) 0 (.ref it) .none Y.env).onRaise (leaving Y.env)) [] s
    rw [compTurn_gen, Sem.onRaise_eq_wrap]
    refine seg_bind_wrap (wpAny_standAt ?_)
    have ti := T.item Y rfl rfl rfl hc i _ s _ H (fun _ _ => False) I (stat I hn) st go
    rw [← hA] at ti
    refine seg_bind_wrap (thnF ti fun r s1 ⟨u, hr, h1⟩ => ?_)
    subst hr
    refine seg_bind_wrap (thnF h1 fun _ s7 ⟨x, H7, I7, r7, y7, st7, n7⟩ => ?_)
    have I7' := I7.pinned (stat I7 n7) (T.obj _ _ st7)
    have ag := pg.run _ s7 _ H7 x u _ I7' r7 (step x H7 y7)
    rw [hx, ← hA] at ag
    refine seg_bind_wrap (thnF ag fun _ s8 ⟨σ8, H8, I8, hw8, q8⟩ => ?_)
    have at_ := pt.run _ s8 σ8 H8 _ I8 q8
    rw [hx, ← hA] at at_
    refine seg_bind_wrap (thnF at_ fun b s9 ⟨H9, I9, q9⟩ => ?_)
    have fin : ∀ {s' : Shared} {H' : Hp}, Inv Y (pinsAt as s₀.heap ++ pinsAt fp s7.heap) σ8 H' s' → Inv Y (pinsAt as s₀.heap) σw H' s' ∧ tn (i + 1) s'.heap ∧ ∀ b ∈ fp, H' b = none := fun {s' H'} I' => by
      have pin' : ∀ b ∈ fp, ∀ o, s7.heap.get? b = some o → s'.heap.get? b = some o ∧ H' b = none := fun b hb o e =>
        let z := I'.pin (b, o) (List.mem_append_right _ (List.mem_append_right _ (mem_pinsAt hb e)))
        ⟨z.1, z.2.1⟩
      have hl : σw.length = σ8.length := by rw [← hw8, wipe_length]
      refine ⟨(I'.unpinned (pins := pinsAt as s₀.heap)).weak hl (fun j v e => ?_), T.keep _ _ _ st7 fun b hb o e => (pin' b hb o e).1, fun b hb => ?_⟩
      · rw [← hw8] at e
        exact (wipe_some e).1
      · obtain ⟨o, e, _⟩ := T.obj _ _ st7 b hb
        exact (pin' b hb o e).2
    cases b with
    | false =>
      simp only [Bool.false_eq_true, if_false] at q9 ⊢
      obtain ⟨Ia, sta, na⟩ := fin I9
      exact seg_again rfl (ih (i + 1) s₀ s9 H9 m (by omega) hlt (by omega) Ia sta na q9)
    | true =>
      simp only [if_true] at q9 ⊢
      have hy : ∀ v, yieldOut Y.env v = yieldValue v := fun v => by simp only [yieldOut, hco, Bool.false_eq_true, if_false]
      simp only [hy]
      rw [Sem.bind_eq_wrap', Sem.bind_eq_wrap', Sem.wrap_wrap, Sem.wrap_wrap]
      have ae := pe.run _ s9 σ8 H9 _ I9 q9
      rw [hx, ← hA] at ae
      refine seg_wrap (thnF ae fun v s10 ⟨yv, H10, I10, r10, yd⟩ => ?_)
      obtain ⟨Ia, sta, na⟩ := fin I10
      obtain ⟨m', rfl⟩ : ∃ m', m = m' + 1 := ⟨m - 1, by omega⟩
      refine seg_at (seg_yield rfl rfl rfl ⟨i, yv, H10, hlt, by omega, r10, Ia, sta, na, yd, fun s' I' st' w' => ?_⟩)
      exact seg_again rfl (ih (i + 1) s' s' H10 m' (by omega) hlt (by omega) I' st' na w')
theorem gen_seg0 {A : Around} {elt tg iter : Expr} {ifs : List Expr} {scope : Scope} {pos : Pos} {it : Addr} {as fp : List Addr} {n : Nat} {J : It} {tn : Nat → Heap → Prop} {g : TG} {tt : TT} {te : TE} {vs : List Nat} {σw : L2.St} {W : Nat → Γ → Hp → Prop} {Yd : Nat → Γ → V → Hp → Prop} {End : Γ → Hp → Prop}
    (hA : A.over (.compLoop (.GeneratorExp elt [⟨tg, iter, ifs, 0⟩] scope pos) 0 (.ref it) .none Y.env) [] = Y.A) (hc : Y.calm = true) (hpn : Y.pn = []) (hex : Y.ex = fp) (hco : Y.env.scope.isCoroutine = false) (hd : ∀ b ∈ fp, b ∉ as)
    (T : Turn Y.prog Y.w Y.K tg J fp it tn) (hx : Y.xe = fun _ _ => False) (pg : PG Y tg g) (pt : PTs Y ifs tt) (pe : PE Y elt te) (G : GStep n J g tt te vs σw W Yd End)
    {s₀ s : Shared} {H : Hp} (I : Inv Y (pinsAt as s₀.heap) σw H s) (st : tn 0 s.heap) (hn : ∀ b ∈ fp, H b = none) (w : W 0 (γ s₀.heap) H) :
      Seg (model Y.prog Y.w) A (fun n s₀ r s₁ => r = .ok .next ∧ gR Y γ as σw End n s₀ s₁) (gY Y γ n as fp σw tn W Yd) (n + 1) s₀
        (.compStart (.GeneratorExp elt [⟨tg, iter, ifs, 0⟩] scope pos) 0 (.ref it) .none Y.env) ((model Y.prog Y.w).den (.compStart (.GeneratorExp elt [⟨tg, iter, ifs, 0⟩] scope pos) 0 (.ref it) .none Y.env)) [] s := by
  have loop := gen_seg (γ := γ) hA hc hpn hex hco hd T hx pg pt pe G n 0 s₀ s H (n + 1) (Nat.sub_zero _) (Nat.zero_le _) (Nat.le_refl _) I st hn w
  show Seg _ A _ _ _ s₀ _ ((compStart (.GeneratorExp elt [⟨tg, iter, ifs, 0⟩] scope pos) 0 (.ref it) .none Y.env).onRaise (leaving Y.env)) [] s
  unfold compStart
  rw [Sem.onRaise_eq_wrap]
  show Seg _ A _ _ _ s₀ _ ((ask >>= _).wrap _ _ _ _) [] s
  refine seg_bind_wrap (wpAny_askSetting ?_)
  split
  · exact seg_again rfl loop
  · refine seg_bind_wrap (wpAny_rule ?_)
    show Seg _ A _ _ _ s₀ _ ((standAt iter.pos >>= _).wrap _ _ _ _) [] s
    exact seg_bind_wrap (wpAny_standAt (seg_bind_wrap (T.self _ 0 s _ _ st (seg_again rfl loop))))
end
end DL

/-! the consumer's side of a generator expression -/
namespace DL
open PySem PySem.Spec L2
section
variable {Γ : Type} {γ : Heap → Γ} {Y : Cx} {A : Around} {as fp : List Addr} {n : Nat} {tn : Nat → Heap → Prop} {σw : L2.St} {W : Nat → Γ → Hp → Prop} {Yd : Nat → Γ → V → Hp → Prop} {End : Γ → Hp → Prop}
/-- woken in any state that is as it was, it goes on -/
def Rest (γ : Heap → Γ) (Y : Cx) (A : Around) (n : Nat) (as fp : List Addr) (σw : L2.St) (tn : Nat → Heap → Prop) (W : Nat → Γ → Hp → Prop) (Yd : Nat → Γ → V → Hp → Prop) (End : Γ → Hp → Prop) (i : Nat) (H : Hp) (gs : GenState) (m : Nat) : Prop :=
  ∀ s', Inv Y (pinsAt as s'.heap) σw H s' → tn i s'.heap → W i (γ s'.heap) H → gs.Goes (model Y.prog Y.w) A.in1 (fun n s₀ r s₁ => r = .ok .next ∧ gR Y γ as σw End n s₀ s₁) (gY Y γ n as fp σw tn W Yd) m (.send .none) s'
/-- the generator a, number gi, at rest ahead of turn i -/
structure GAt (γ : Heap → Γ) (Y : Cx) (A : Around) (n : Nat) (as fp : List Addr) (σw : L2.St) (tn : Nat → Heap → Prop) (W : Nat → Γ → Hp → Prop) (Yd : Nat → Γ → V → Hp → Prop) (End : Γ → Hp → Prop) (a : Addr) (gi i m : Nat) (H : Hp) (s : Shared) : Prop where
  isg : s.heap.IsGen a gi
  inv : Inv Y (pinsAt as s.heap) σw H s
  tni : tn i s.heap
  fpn : ∀ b ∈ fp, H b = none
  alive : ∀ b ∈ as, ∃ o, s.heap.get? b = some o
  gen : ∃ gs, s.gens[gi]? = some gs ∧ n - i + 1 ≤ m ∧ Rest γ Y A n as fp σw tn W Yd End i H gs m
theorem Inv.gens {pins : List (Addr × Obj)} {σ : L2.St} {H : Hp} {s : Shared} {g' : Array GenState} {h' : Heap} {t' : Nat} (I : Inv Y pins σ H s) (hb : PyProof.Rows.AllBare g') (k : ∀ b o, s.heap.get? b = some o → h'.get? b = some o) : Inv Y pins σ H { s with heap := h', gens := g', toks := t' } := by
  refine I.step (g' := g') (d' := s.drawn) (ch := []) (fun b hb => absurd hb (by simp)) (fun b o _ _ _ e _ => k b o e) (fun b o _ _ _ e _ => ⟨o.slots, k b o e⟩) (fun _ _ _ _ q => q) (fun b o _ e => ⟨o, k b o e⟩) (fun _ _ q => q) (fun _ _ _ q => q) (fun b ps q => ⟨#[], by rw [q]; simp⟩) (fun m hm => ?_) (fun b u q => ?_) hb
  · exact hm.keeps k
  · exact (I.hok b u q).stay (fun c v _ y => k c v y) (fun _ y => y) fun _ _ y => y
theorem bare_set {gs : Array GenState} {g : Nat} {x : GenState} (h : PyProof.Rows.AllBare gs) (hx : x.bare = true) : PyProof.Rows.AllBare (gs.setIfInBounds g x) := fun y hy => by
  obtain ⟨i, hi, rfl⟩ := Array.mem_iff_getElem.mp hy
  rw [Array.getElem_setIfInBounds (by simpa using hi)]
  split
  · exact hx
  · exact h _ (Array.getElem_mem _)
theorem Inv.setGen {pins : List (Addr × Obj)} {σ : L2.St} {H : Hp} {s : Shared} {g : Nat} {x : GenState} (I : Inv Y pins σ H s) (hx : x.bare = true) : Inv Y pins σ H (s.setGen g x) :=
  Inv.gens (t' := s.toks) I (bare_set I.bare hx) fun _ _ e => e
/-- the consumer's objects as they stand -/
theorem Inv.repin {σ : L2.St} {H : Hp} {s s0 : Shared} (hl : ∀ b ∈ as, ∃ o, s0.heap.get? b = some o) (I : Inv Y (pinsAt as s0.heap) σ H s) : Inv Y (pinsAt as s.heap) σ H s ∧ ∀ b ∈ as, ∀ o, s0.heap.get? b = some o → s.heap.get? b = some o := by
  have pin : ∀ b ∈ as, ∀ o, s0.heap.get? b = some o → s.heap.get? b = some o := fun b hb o e => (I.pin (b, o) (List.mem_append_right _ (mem_pinsAt hb e))).1
  refine ⟨I.pins_of fun p hp => ?_, pin⟩
  obtain ⟨h1, h2⟩ := of_pinsAt hp
  obtain ⟨o, e⟩ := hl p.1 h1
  have e2 := pin _ h1 o e
  rw [h2] at e2
  cases e2
  exact I.pin _ (List.mem_append_right _ (mem_pinsAt h1 e))
theorem gen_next {a : Addr} {gi i m : Nat} {H : Hp} {s : Shared} {Q : Option Value → Shared → Prop} {E : Value → Shared → Prop} (hh : A.handled = none) (hroom : A.depth < recursionLimit) (ha : a ∈ as) (G : GAt γ Y A n as fp σw tn W Yd End a gi i (m + 1) H s) (w : W i (γ s.heap) H)
    (hsome : ∀ v s' i' y H', i' < n → RelV y v → GAt γ Y A n as fp σw tn W Yd End a gi (i' + 1) m H' s' → Yd i' (γ s.heap) y H' → (∀ b ∈ as, ∀ o, s.heap.get? b = some o → s'.heap.get? b = some o) → Q (some v) s')
    (hnone : ∀ s' H', Inv Y (pinsAt as s.heap) σw H' s' → End (γ s.heap) H' → Q none s') : wpAny (model Y.prog Y.w) A (pyNext (.ref a)) Q E s := by
  obtain ⟨gs, hgs, hm, rest⟩ := G.gen
  have hlt : gi + 1 ≤ s.gens.size := by
    rcases Nat.lt_or_ge gi s.gens.size with h' | h'
    · exact h'
    · rw [Array.getElem?_eq_none h'] at hgs; cases hgs
  refine GenW.wpAny_gsz hlt ?_
  refine wpAny_pyNext_genexpQ (P := gR Y γ as σw End) (Y := gY Y γ n as fp σw tn W Yd) (n := m + 1) hh G.inv.nolimit hroom G.isg hgs (rest _ (Inv.setGen (g := gi) G.inv rfl) G.tni w) (fun v s1 gs' hb hv hsz => ?_) (fun s1 hp h' hk _ => ?_)
  · obtain ⟨i', y, H', h1, h2, h3, h4, h5, h6, h7, h8⟩ := hv
    have hI : Inv Y (pinsAt as s.heap) σw H' s1 := h4
    obtain ⟨hI2, pin⟩ := Inv.repin (s0 := s) G.alive hI
    have hsz' : gi < s1.gens.size := by
      have : (s1.setGen gi gs').gens.size = s1.gens.size := by simp [Shared.setGen]
      omega
    obtain ⟨o, nm, qn, ho, r⟩ := G.isg
    refine hsome v _ i' y H' h1 h3 ⟨⟨o, nm, qn, pin a ha o ho, r⟩, Inv.setGen hI2 hb, h5, h6, fun b hb => ?_, gs', by simp [Shared.setGen, hsz'], h2, fun s' I' t' w' => h8 s' I' t' w'⟩ h7 pin
    obtain ⟨o, e⟩ := G.alive b hb
    exact ⟨o, pin b hb o e⟩
  · obtain ⟨H', hI, en⟩ := hp
    have hI : Inv Y (pinsAt as s.heap) σw H' s1 := hI
    exact hnone _ H' (Inv.gens (s := s1) (g' := (s1.setGen gi .finished).gens) (h' := h') (t' := s1.toks) hI (bare_set hI.bare rfl) hk) en
end
end DL

/-! any, all over a generator expression -/
namespace DL
open PySem PySem.Spec L2
/-- the sum so far, as it stands in the list S -/
def accAt (S : Addr) (h : Heap) : Int := match h.get? S with
  | some o => match o.data with
    | .seq xs _ => match xs[0]? with
      | some (Value.int z _) => z
      | _ => 0
    | _ => 0
  | none => 0
theorem accAt_of {S : Addr} {h : Heap} {z : Int} {t : Tok} {c : Nat} (e : h.get? S = some { cls := .type "list", dict := none, data := .seq #[.int z t] c, slots := #[] }) : accAt S h = z := by
  unfold accAt
  rw [e]
  rfl
section
variable {Γ : Type} {γ : Heap → Γ} {Y : Cx} {A : Around} {as fp : List Addr} {n : Nat} {tn : Nat → Heap → Prop} {σw : L2.St} {W : Nat → Γ → Hp → Prop} {Yd : Nat → Γ → V → Hp → Prop} {End : Γ → Hp → Prop} {a : Addr} {gi : Nat} {R : Result → Shared → Prop} {Fin : Bool → Hp → Prop}
end
theorem GAt.turned {Γ : Type} {γ : Heap → Γ} {Y : Cx} {A : Around} {as fp : List Addr} {n : Nat} {tn : Nat → Heap → Prop} {σw : L2.St} {W : Nat → Γ → Hp → Prop} {Yd : Nat → Γ → V → Hp → Prop} {End : Γ → Hp → Prop} {a S : Addr} {gi i m : Nat} {H : Hp} {s : Shared} {h' : Heap} {t' : Nat} {o' : Obj}
    (G : GAt γ Y A n as fp σw tn W Yd End a gi i m H s) (hS : S ∈ as) (hSa : S ≠ a) (hSf : S ∉ fp) (hst : ∀ b ∈ as, ∃ H0, FpOk Y [] H0 b) (tk : ∀ i h h', tn i h → (∀ b ∈ fp, ∀ o, h.get? b = some o → h'.get? b = some o) → tn i h') (hs : h'.get? S = some o') (hd : ∀ v, o'.data ≠ .cell v)
    (k : ∀ b o, b ≠ S → s.heap.get? b = some o → h'.get? b = some o) : GAt γ Y A n as fp σw tn W Yd End a gi i m H { s with heap := h', toks := t' } := by
  have hn : ∀ b ∈ as, H b = none := fun b hb => by
    obtain ⟨o, e⟩ := G.alive b hb
    exact (G.inv.pin (b, o) (List.mem_append_right _ (mem_pinsAt hb e))).2.1
  have I0 : Inv Y [] σw H s := G.inv.pins_of fun p hp => nomatch hp
  obtain ⟨H0, _, f1, f2, f3, f4, f5⟩ := hst S hS
  have I1 : Inv Y [] σw H { s with heap := h', toks := t' } := I0.turned (t' := t') k (hn S hS) f1 f3 f4 f5
  obtain ⟨o, nm, qn, ho, r⟩ := G.isg
  refine ⟨⟨o, nm, qn, k a o (Ne.symm hSa) ho, r⟩, I1.pins_of fun p hp => ?_, tk _ _ _ G.tni fun b hb o e => k b o (fun z => hSf (by rw [← z]; exact hb)) e, G.fpn, fun b hb => ?_, G.gen⟩
  · obtain ⟨h1, h2⟩ := of_pinsAt hp
    obtain ⟨H0, _, f1, f2, _⟩ := hst p.1 h1
    refine ⟨h2, hn _ h1, f1, f2, ?_⟩
    by_cases z : p.1 = S
    · rw [z] at h2
      have h2 : h'.get? S = some p.2 := h2
      rw [hs] at h2; cases h2; exact hd
    · obtain ⟨o, e⟩ := G.alive p.1 h1
      have h2 : h'.get? p.1 = some p.2 := h2
      rw [k _ o z e] at h2
      have h3 : o = p.2 := Option.some.inj h2
      rw [← h3]
      exact (G.inv.pin (p.1, o) (List.mem_append_right _ (mem_pinsAt h1 e))).2.2.2.2
  · by_cases z : b = S
    · exact ⟨o', by rw [z]; exact hs⟩
    · obtain ⟨o, e⟩ := G.alive b hb
      exact ⟨o, k b o z e⟩
section
variable {Y : Cx} {A : Around} {as fp : List Addr} {n : Nat} {tn : Nat → Heap → Prop} {σw : L2.St} {W : Nat → Int → Hp → Prop} {Yd : Nat → Int → V → Hp → Prop} {End : Int → Hp → Prop} {a S : Addr} {gi : Nat} {R : Result → Shared → Prop} {Fin : Int → Hp → Prop}
theorem sum_loop (hh : A.handled = none) (hroom : A.in1.depth < recursionLimit) (ha : a ∈ as) (hS : S ∈ as) (hSa : S ≠ a) (hSf : S ∉ fp) (hst : ∀ b ∈ as, ∃ H0, FpOk Y [] H0 b) (tk : ∀ i h h', tn i h → (∀ b ∈ fp, ∀ o, h.get? b = some o → h'.get? b = some o) → tn i h') (hY : ∀ i z y H, Yd i z y H → ∃ v, y = .int v ∧ InLong v ∧ InLong (z + v) ∧ W (i + 1) (z + v) H) (hE : ∀ z H, End z H → Fin z H)
    (hR : ∀ z t H' s' pins, Inv Y pins σw H' s' → Fin z H' → R (.ok (.ret (.int z t))) s') :
    ∀ (m i : Nat) (H : Hp) (s : Shared) (z : Int) (tA : Tok) (c : Nat), GAt (accAt S) Y A.in1 n as fp σw tn W Yd End a gi i m H s → s.heap.get? S = some { cls := .type "list", dict := none, data := .seq #[.int z tA] c, slots := #[] } → W i z H →
      codeAny (model Y.prog Y.w) A (.builtin "sum.loop" ⟨[.ref a, .ref S, rawInt 0, rawInt 0], []⟩) R s := by
  intro m
  induction m with
  | zero =>
    intro i H s z tA c G hs w
    obtain ⟨_, _, h, _⟩ := G.gen
    omega
  | succ m ih =>
    intro i H s z tA c G hs w
    refine codeAny_builtin F.entry_sum_loop ?_
    rw [Around.under_plainId F.plain_sum_loop _]
    show wpAny _ A.in1 (seqItems? (.ref S) >>= _) _ _ s
    refine wpAny_bind (wpAny_seqItems hs rfl ?_)
    show wpAny _ A.in1 (tryCatch (pyNext (.ref a)) _ >>= _) _ _ s
    refine wpAny_bind (wpAny_tryCatch (gen_next (A := A.in1) hh hroom ha G (by rw [accAt_of hs]; exact w) (fun u s' i' y H' h1 rv G' yd pin => ?_) (fun s' H' I' en => ?_)))
    · rw [accAt_of hs] at yd
      obtain ⟨v, rfl, ⟨f1, f2⟩, ⟨f3, f4⟩, w'⟩ := hY i' z y H' yd
      obtain ⟨t, rfl⟩ := _root_.id rv
      have hs' := pin S hS _ hs
      have hc : ((decide (-(2 ^ 63) ≤ v) && decide (v < 2 ^ 63)) && (decide (-(2 ^ 63) ≤ z + v) && decide (z + v < 2 ^ 63))) = true := by
        simp only [Bool.and_eq_true, decide_eq_true_eq]
        exact ⟨⟨f1, f2⟩, f3, f4⟩
      show wpAny _ A.in1 (if (_ : Bool) = true then (PySem.mkInt (z + v) >>= _) else _) _ _ _
      split
      · refine wpAny_bind (wpAny_mkInt ?_)
        show wpAny _ A.in1 (updateSeq S (fun _ => #[.int (z + v) s'.toks]) >>= _) _ _ _
        refine wpAny_bind ?_
        refine wpAny_updateSeq hs' rfl (wpAny_pure ⟨plainId_quiet F.plain_sum_loop _, ih (i' + 1) H' _ (z + v) s'.toks _ ?_ (Heap.get?_update_self _ hs' rfl) w'⟩)
        exact GAt.turned (S := S) (s := s') (t' := s'.toks + 1) G' hS hSa hSf hst tk (Heap.get?_update_self _ hs' rfl) (fun v z => by cases z) fun b o hb e => (Heap.get?_update_other _ _ (fun h : S = b => hb h.symm)).trans e
      · rename_i hneg
        exact absurd hc hneg
    · rw [accAt_of hs] at en
      exact wpAny_pure (hR z tA H' s' _ I' (hE z H' en))
end
end DL

/-! the making of a generator expression -/
namespace DL
open PySem PySem.Spec L2
theorem over_gen {A : Around} {elt tg iter : Expr} {ifs : List Expr} {scope : Scope} {pos : Pos} {it acc : Value} {env : Env} : A.over (.compLoop (.GeneratorExp elt [⟨tg, iter, ifs, 0⟩] scope pos) 0 it acc env) [] = A.deeper env := by
  first
    | rfl
    | (obtain ⟨hd, d, fr, gs, u⟩ := A; simp [Around.over, Around.deeper, marksOver, frameCount, unitsOf, envsOf, guardsOf, pushEnvs, pushGuards, Code.envs, Code.env?, Code.isFrame, Code.guards, Code.isGuard, Code.weight, Code.frames, Code.isCreation, Code.isCaller, Code.cUnits])
section
variable {X : Cx} {pins : List (Addr × Obj)} {σ : L2.St} {H : Hp} {s : Shared}
/-- the code object of a generator expression is new, or found in the table -/
theorem gen_code {T : Tbl} {c P : Addr} {scope : Scope} {gpos : Pos} {E : Value → Shared → Prop} {Q : Value → Addr → Shared → Prop} (I : Inv X pins σ H s) (TB : LamX.TabB X.base X.mg c P) (hcode : X.env.code = .ref c)
    (hm : ∃ e ∈ T, e.1 = P) (hu : ∀ e ∈ T, e.1 = P → e.2.2 gpos.line gpos.col = false) (hT : Tabs T H)
    (h : ∀ (cv : Value) (H1 : Hp) (s' : Shared), Inv X pins σ H1 s' → LamX.ExtN H H1 → Tabs T H1 → s.heap.objs.size ≤ s'.heap.objs.size → (∀ b o, H b = none → s.heap.get? b = some o → s'.heap.get? b = some o ∧ H1 b = none) → Q cv builtinsNs s') :
    wpAny (model X.prog X.w) X.A (genexprCode X.env gpos (X.env.qual ++ "<genexpr>") scope) (fun code s₃ => wpAny (model X.prog X.w) X.A (builtinsFor X.env.globals X.env.builtins) (fun bi s₄ => Q code bi s₄) E s₃) E s := by
  obtain ⟨e0, m0, p0⟩ := hm
  obtain ⟨ps, hP, ht, _⟩ := hT e0 m0
  rw [p0] at hP
  have hPs : s.heap.get? P = some { cls := .none, data := .fields ps } := I.hok P _ hP
  have cd : PySem.W.CodeHd s.heap c P := TB.code.keeps I.bk
  have bl : ∀ {h' : Heap} {tk : Nat} {cv : Value}, (∀ b o, b ≠ P → s.heap.get? b = some o → h'.get? b = some o) → Q cv builtinsNs { s with heap := h', toks := tk } →
      wpAny (model X.prog X.w) X.A (builtinsFor X.env.globals X.env.builtins) (fun bi s₄ => Q cv bi s₄) E { s with heap := h', toks := tk } := fun {h' tk cv} k q => by
    obtain ⟨bm, ob, e1, e2, e3, e4, e5, e6, e7, e8⟩ := TB.bm
    obtain ⟨og, es, ep, hg, r⟩ := I.mod.glob.keeps I.bk
    exact wpAny_builtinsFor (m := X.mg) (by rw [I.ok.glob]; exact ⟨og, es, ep, k _ og TB.gP hg, r⟩) e1 e2 (k _ _ e4 (I.bk _ _ e5)) e6 e7 e8 q
  cases hc : codeAmong gpos ps.toList with
  | none =>
    refine wpAny_genexprCodeX hcode (cd.code hPs ht) (cd.tab hPs) hc fun c' h' tk hx hge hlt hco' hrec htab' _ => ?_
    obtain ⟨c2, oc, vs, t, e2, hoc, hd, hv⟩ := hrec
    cases e2
    have nC : H c' = none := I.hok.fresh hge
    have I1 := LamX.inv_table (t' := tk) (more := #[rawInt gpos.line, rawInt gpos.col, .ref c']) (h' := h') I hP hx htab'.2 hge ⟨oc, vs, t, hoc, hd, hv⟩
    have hE : LamX.ExtN H (upd (upd H P (.tbl (ps ++ #[rawInt gpos.line, rawInt gpos.col, .ref c']))) c' (LamX.CodeO c' (X.env.qual ++ "<genexpr>"))) := fun b o e n => by
      rw [upd_ne (ne_of_none e nC), upd_ne (fun z => n ps (Option.some.inj (e.symm.trans (by rw [z]; exact hP))))]
      exact e
    have eL : (ps ++ #[rawInt gpos.line, rawInt gpos.col, .ref c']).toList = ps.toList ++ [rawInt gpos.line, rawInt gpos.col, .ref c'] := by simp
    refine bl hx (h (.ref c') _ _ I1 hE (fun p hp => ?_) (Nat.le_trans hge (Nat.le_of_lt hlt)) fun b o hb e => ?_)
    · obtain ⟨es, a1, a2, a3⟩ := hT p hp
      by_cases hb : p.1 = P
      · rw [hb] at a1 ⊢
        rw [hP] at a1
        cases a1
        refine ⟨_, by rw [upd_ne (ne_of_none hP nC), upd_same], by rw [eL]; exact PySem.TriplesOk_snoc _ _ _ _ ht, fun at_ hl cv hcv => ?_⟩
        rw [eL] at hcv
        rcases among_snoc _ ht hcv with z | ⟨_, z1, z2⟩
        · obtain ⟨c0, e1, e2⟩ := a3 at_ hl cv z
          exact ⟨c0, e1, hE _ _ e2 LamX.codeO_ne⟩
        · have := hu p hp hb
          rw [z1, z2, hl] at this
          cases this
      · refine ⟨es, by rw [upd_ne (ne_of_none a1 nC), upd_ne hb]; exact a1, a2, fun at_ hl cv hcv => ?_⟩
        obtain ⟨c0, e1, e2⟩ := a3 at_ hl cv hcv
        exact ⟨c0, e1, hE _ _ e2 LamX.codeO_ne⟩
    · have hbP : b ≠ P := fun z => by rw [z, hP] at hb; cases hb
      have hbc : b ≠ c' := Nat.ne_of_lt (Nat.lt_of_lt_of_le (Heap.lt_size e) hge)
      exact ⟨hx b o hbP e, by rw [upd_ne hbc, upd_ne hbP]; exact hb⟩
  | some cv =>
    refine wpAny_genexprCode_hit hcode (cd.code hPs ht) hc ?_
    exact bl (h' := s.heap) (tk := s.toks) (fun _ _ _ e => e) (h cv H s I (LamX.ExtN.refl H) hT (Nat.le_refl _) fun b o hb e => ⟨e, hb⟩)
/-- the generator expression's own scope -/
structure GenSc (scope : Scope) : Prop where
  co : scope.isCoroutine = false
  cell : ∀ y ∈ scope.names, y.2 ≠ .cell
  dot : scope.names.lookup (".0" : Str) = some NameKind.local
def genScB (scope : Scope) : Bool := !scope.isCoroutine && (scope.names.all fun y => !decide (y.2 = .cell)) && decide (scope.names.lookup (".0" : Str) = some NameKind.local)
theorem genSc_by {scope : Scope} (h : genScB scope = true) : GenSc scope := by
  unfold genScB at h
  simp only [Bool.and_eq_true, Bool.not_eq_true', decide_eq_true_eq, decide_eq_false_iff_not, List.all_eq_true] at h
  exact ⟨h.1.1, h.1.2, h.2⟩
abbrev gEnv (X : Cx) (scope : Scope) (L : Addr) (code : Value) : Env := genEnv scope (cloFrom X.env.cells scope.names []) L code builtinsNs X.env
/-- the generator a, number gi, has been made in the state s5; Y its body's context -/
structure Mk (X : Cx) (pins : List (Addr × Obj)) (σ : L2.St) (g : TG) (tt : TT) (te : TE) (vs : List Nat) (Y : Cx) (J : It) (fp : List Addr) (tn : Nat → Heap → Prop) (a : Addr) (gi : Nat) (H2 : Hp) (s5 : Shared) : Prop where
  inv : Inv Y [] (wipe σ vs) H2 s5
  isg : s5.heap.IsGen a gi
  tn0 : tn 0 s5.heap
  keep : ∀ i h h', tn i h → (∀ b ∈ fp, ∀ o, h.get? b = some o → h'.get? b = some o) → tn i h'
  fpn : ∀ b ∈ fp, H2 b = none
  fpl : ∀ b ∈ fp, b < a
  fpa : FpOk Y [] H2 a
  sz : s5.heap.objs.size = a + 1
  obj : ∃ o, s5.heap.get? a = some o ∧ ∀ v, o.data ≠ .cell v
  gst : ∃ gs, s5.gens[gi]? = some gs ∧ ∀ (Γ : Type) (γ : Heap → Γ) (n : Nat) (as : List Addr) (W : Nat → Γ → Hp → Prop) (Yd : Nat → Γ → V → Hp → Prop) (End : Γ → Hp → Prop), (∀ b ∈ fp, b ∉ as) → GStep n J g tt te vs (wipe σ vs) W Yd End → Rest γ Y X.A.in1 n as fp (wipe σ vs) tn W Yd End 0 H2 gs (n + 1)
  prog : Y.prog = X.prog
  w : Y.w = X.w
  back : ∀ pins' σ' H' s', Inv Y pins' σ' H' s' → Inv X pins σ H' s'
theorem gen_made {T : Tbl} {c P : Addr} {elt tg iter : Expr} {ifs : List Expr} {scope : Scope} {own : List (Str × Nat)} {gpos : Pos} {wi : TI} {g : TG} {tt : TT} {te : TE} {k : Nat} {Q' : Value → Shared → Prop} {R : It → Hp → Prop}
    (hr : Room (k + 1) X.A) (hN : X.N.Nodup) (TB : LamX.TabB X.base X.mg c P) (hcode : X.env.code = .ref c) (hm : ∃ e ∈ T, e.1 = P) (hu : ∀ e ∈ T, e.1 = P → e.2.2 gpos.line gpos.col = false) (S : GenSc scope)
    (hi : PI X tg iter wi) (ok : BlkOk X.N X.env.scope scope own)
    (hg : ∀ (AY : Around) (s : Shared) (H : Hp) (L : Addr) (code : Value) (fp : List Addr), Room k AY → PG (genCx X AY s H (gEnv X scope L code) fp) tg g)
    (ht : ∀ (AY : Around) (s : Shared) (H : Hp) (L : Addr) (code : Value) (fp : List Addr), Room k AY → PTs (genCx X AY s H (gEnv X scope L code) fp) ifs tt)
    (he : ∀ (AY : Around) (s : Shared) (H : Hp) (L : Addr) (code : Value) (fp : List Addr), Room k AY → PE (genCx X AY s H (gEnv X scope L code) fp) elt te)
    (hs : ∀ v, genFold iter X.env v = pure v) (I : Inv X pins σ H s) (h : wi σ H fun J H1 => Tabs T H1 ∧ ∀ H2, LamX.ExtN H1 H2 → Tabs T H2 → R J H2)
    (hQ : ∀ (Y : Cx) (J : It) (fp : List Addr) (tn : Nat → Heap → Prop) (a : Addr) (gi : Nat) (H2 : Hp) (s5 : Shared), R J H2 → Mk X pins σ g tt te (own.map (·.2)) Y J fp tn a gi H2 s5 → Q' (.ref a) s5) :
    wpAny (model X.prog X.w) X.A (eval (.GeneratorExp elt [⟨tg, iter, ifs, 0⟩] scope gpos) X.env) Q' X.xe s := by
  have hfree : ∀ y ∈ scope.names, y.2 = .free → ∃ c, X.env.cells.lookup y.1 = some c := fun y hy e => (ok.free y hy e).elim (fun k => I.ok.has _ (.inl k)) fun k => I.ok.has _ (.inr k)
  refine wpAny_GeneratorExp_make S.co (closure_ok hfree) S.cell S.dot ok.kind (by have := hr.dp; omega) ?_ hs
  refine thn (hi.run pins s σ H _ I h) fun xv s1 hx => thn hx fun itv s2 h2 => ?_
  obtain ⟨it, fp, tn, J, H1, e, I2, Tn, st2, f2, hT1, q⟩ := h2
  subst e
  refine ⟨I2.nolimit, gen_code I2 TB hcode hm hu hT1 fun cv H2 s4 I4 x4 t4 sz4 k4 => ?_⟩
  have q2 := q H2 x4 t4
  intro h' hns hsb
  have st4 : tn 0 s4.heap := Tn.keep _ _ _ st2 fun b hb o e => (k4 b o (f2 b hb).1 e).1
  have f4 : ∀ b ∈ fp, FpOk X pins H2 b ∧ b < s4.heap.objs.size := fun b hb => by
    obtain ⟨o, e, _⟩ := Tn.obj _ _ st2 b hb
    exact ⟨⟨(k4 b o (f2 b hb).1 e).2, (f2 b hb).2⟩, Nat.lt_of_lt_of_le (Heap.lt_size e) sz4⟩
  have kp1 : ∀ b o, s4.heap.get? b = some o → h'.get? b = some o := fun b o e => hsb.extBut b o (Nat.ne_of_lt (Heap.lt_size e)) (Heap.get?_push_of_some _ e)
  have sz1 : h'.objs.size = s4.heap.objs.size + 1 := by rw [hsb.1, Heap.size_push]
  generalize hAY : X.A.in1.in1.deeper (gEnv X scope s4.heap.objs.size cv) = AY
  have rY : Room k AY := by
    rw [← hAY]
    exact ⟨hr.hd, by have := hr.dp; show X.A.depth + 1 + 3 * k + 5 < _; omega, by have := hr.un; show X.A.units + 1 + 1 + 3 + 16 * k + 200 < _; omega⟩
  have fY : AY.frames = some (gEnv X scope s4.heap.objs.size cv :: X.stack) := by
    rw [← hAY]; exact Around.frames_deeper I.ok.frames
  have I5a := gen_start (AY := AY) (fp := fp) (t' := s4.toks) (g' := s4.gens) (h' := h') (code := cv) I4 ok hN f4 rfl S.cell rY.hd fY hns kp1 I4.bare
  have I5 := gen_start (AY := AY) (fp := fp) (t' := s4.toks + 1 + 1 + 1) (g' := s4.gens.push (.fresh (.compStart (.GeneratorExp elt [⟨tg, iter, ifs, 0⟩] scope gpos) 0 (.ref it) .none (gEnv X scope s4.heap.objs.size cv)))) (h' := h'.push { cls := .type "generator", data := .fields #[.int s4.gens.size 0, .str "<genexpr>" (s4.toks + 1), .str (X.env.qual ++ "<genexpr>") (s4.toks + 1 + 1)] }) (code := cv) I4 ok hN f4 rfl S.cell rY.hd fY (hns.push _) (fun b o e => Heap.get?_push_of_some _ (kp1 b o e)) (I4.bare.push rfl)
  refine hQ (genCx X AY s4 H2 (gEnv X scope s4.heap.objs.size cv) fp) J fp tn h'.objs.size s4.gens.size H2 _ q2 ⟨I5, ⟨_, _, _, Heap.get?_push_size _ rfl, rfl, rfl, rfl⟩, Tn.keep _ _ _ st4 fun b hb o e => Heap.get?_push_of_some _ (kp1 b o e), Tn.keep, fun b hb => (f4 b hb).1.1, fun b hb => ?_, ?_, Heap.size_push .., ⟨_, Heap.get?_push_size _ rfl, fun v z => by cases z⟩, ?_, rfl, rfl, ?_⟩
  · rw [sz1]; exact Nat.lt_succ_of_lt (f4 b hb).2
  · exact I5a.fpOk (Nat.le_refl _) (I4.hok.fresh (by rw [sz1]; exact Nat.le_succ _))
  · refine ⟨_, Array.getElem?_push_size .., fun Γ γ n as W Yd End hd G s' I' t' w' => ?_⟩
    refine ⟨rfl, ?_⟩
    exact gen_seg0 (γ := γ) (A := X.A.in1.in1) (Y := genCx X AY s4 H2 (gEnv X scope s4.heap.objs.size cv) fp) (s₀ := s') (by rw [over_gen]; exact hAY) rfl rfl rfl S.co hd Tn rfl (hg AY s4 H2 s4.heap.objs.size cv fp rY) (ht AY s4 H2 s4.heap.objs.size cv fp rY) (he AY s4 H2 s4.heap.objs.size cv fp rY) G I' t' (fun b hb => (f4 b hb).1.1) w'
  · intro pins' σ' H' s' I'
    exact I4.call' (ch := fp) I'.os I'.base I'.hok I'.bare fun b hb => ⟨(f4 b hb).1.2.2.2.1, (f4 b hb).1.2.1, (f4 b hb).1.2.2.2.2.1, (f4 b hb).1.2.2.2.2.2⟩
end
end DL

/-! any, all, sum of a generator expression -/
namespace DL
open PySem PySem.Spec L2
section
variable {X : Cx} {N : Nm} {E : XK}
/-- all that a generator expression asks -/
structure Gx (X : Cx) (T : Tbl) (k : Nat) (elt tg iter : Expr) (ifs : List Expr) (scope : Scope) (own : List (Str × Nat)) (wi : TI) (g : TG) (tt : TT) (te : TE) (gp : Pos) : Prop where
  hr : Room (k + 1) X.A
  hN : X.N.Nodup
  code : ∃ c P, LamX.TabB X.base X.mg c P ∧ X.env.code = .ref c ∧ (∃ e ∈ T, e.1 = P) ∧ ∀ e ∈ T, e.1 = P → e.2.2 gp.line gp.col = false
  sc : GenSc scope
  hi : PI X tg iter wi
  ok : BlkOk X.N X.env.scope scope own
  hg : ∀ (AY : Around) (s : Shared) (H : Hp) (L : Addr) (code : Value) (fp : List Addr), Room k AY → PG (genCx X AY s H (gEnv X scope L code) fp) tg g
  ht : ∀ (AY : Around) (s : Shared) (H : Hp) (L : Addr) (code : Value) (fp : List Addr), Room k AY → PTs (genCx X AY s H (gEnv X scope L code) fp) ifs tt
  he : ∀ (AY : Around) (s : Shared) (H : Hp) (L : Addr) (code : Value) (fp : List Addr), Room k AY → PE (genCx X AY s H (gEnv X scope L code) fp) elt te
  hs : ∀ v, genFold iter X.env v = pure v
variable {T : Tbl} {k : Nat} {elt tg iter : Expr} {ifs : List Expr} {scope : Scope} {own : List (Str × Nat)} {wi : TI} {g : TG} {tt : TT} {te : TE}
theorem Mk.at {pins : List (Addr × Obj)} {σ : L2.St} {vs : List Nat} {Y : Cx} {J : It} {fp : List Addr} {tn : Nat → Heap → Prop} {a : Addr} {gi : Nat} {H2 : Hp} {s5 : Shared} (M : Mk X pins σ g tt te vs Y J fp tn a gi H2 s5)
    {Γ : Type} {γ : Heap → Γ} {n : Nat} {W : Nat → Γ → Hp → Prop} {Yd : Nat → Γ → V → Hp → Prop} {End : Γ → Hp → Prop} (G : GStep n J g tt te vs (wipe σ vs) W Yd End) : GAt γ Y X.A.in1 n [a] fp (wipe σ vs) tn W Yd End a gi 0 (n + 1) H2 s5 := by
  obtain ⟨gs, hgs, rest⟩ := M.gst
  have ia : Inv Y ([] ++ pinsAt [a] s5.heap) (wipe σ vs) H2 s5 := M.inv.pinned (fun b hb => by rw [List.mem_singleton.mp hb]; exact M.fpa) fun b hb => by rw [List.mem_singleton.mp hb]; exact M.obj
  refine ⟨M.isg, ia, M.tn0, M.fpn, fun b hb => ?_, gs, hgs, by omega, rest Γ γ n [a] W Yd End (fun b hb z => ?_) G⟩
  · rw [List.mem_singleton.mp hb]; obtain ⟨o, e, _⟩ := M.obj; exact ⟨o, e⟩
  · have := M.fpl b hb
    rw [List.mem_singleton.mp z] at this
    exact Nat.lt_irrefl _ this
def tSumG (T : Tbl) (wi : TI) (g : TG) (tt : TT) (te : TE) (vs : List Nat) : TE := fun σ H Q => wi σ H fun J H1 => Tabs T H1 ∧ ∀ H2, LamX.ExtN H1 H2 → Tabs T H2 →
  ∃ (n : Nat) (W : Nat → Int → Hp → Prop) (Yd : Nat → Int → V → Hp → Prop) (End : Int → Hp → Prop), GStep n J g tt te vs (wipe σ vs) W Yd End ∧ W 0 0 H2 ∧ (∀ i z y H, Yd i z y H → ∃ v, y = .int v ∧ InLong v ∧ InLong (z + v) ∧ W (i + 1) (z + v) H) ∧ ∀ z H, End z H → Q (.int z) H
theorem pe_gsum {p pos gpos : Pos} (hg : Gl X "sum") (hm : X.mg "sum" = none) (hb : bootBuiltins "sum" = some (.builtin "sum")) (G : Gx X T k elt tg iter ifs scope own wi g tt te gpos)
    (he : starEach [.GeneratorExp elt [⟨tg, iter, ifs, 0⟩] scope gpos] X.env = (false, eval (.GeneratorExp elt [⟨tg, iter, ifs, 0⟩] scope gpos) X.env) :: starEach [] X.env := by rfl) :
    PE X (.Call (.Name "sum" p) [.GeneratorExp elt [⟨tg, iter, ifs, 0⟩] scope gpos] [] pos) (tSumG T wi g tt te (own.map (·.2))) := by
  refine ⟨fun pins s σ H Q I h => ?_⟩
  refine wpAny_Call_Name_kw (ld_blt I hg hm hb ?_)
  refine PyProof.Rows.callWith_builtin1 ?_ he (by rfl)
  rw [he]
  show wpAny _ _ (spliced ((false, eval (.GeneratorExp elt [⟨tg, iter, ifs, 0⟩] scope gpos) X.env) :: backTo pos (starEach [] X.env))) _ _ s
  obtain ⟨c, P, TB, hcode, hmT, hu⟩ := G.code
  refine Calls.spliced_cons (gen_made (R := fun J H2 => ∃ (n : Nat) (W : Nat → Int → Hp → Prop) (Yd : Nat → Int → V → Hp → Prop) (End : Int → Hp → Prop), GStep n J g tt te (own.map (·.2)) (wipe σ (own.map (·.2))) W Yd End ∧ W 0 0 H2 ∧ (∀ i z y H, Yd i z y H → ∃ v, y = .int v ∧ InLong v ∧ InLong (z + v) ∧ W (i + 1) (z + v) H) ∧ ∀ z H, End z H → Q (.int z) H)
    G.hr G.hN TB hcode hmT hu G.sc G.hi G.ok G.hg G.ht G.he G.hs I h fun Y J fp tn a gi H2 s5 hR M => ?_)
  obtain ⟨n, W, Yd, End, GS, w0, hY, hE⟩ := hR
  refine Calls.spliced_nil ?_
  refine call_function_tree F.kind_sum F.plain_sum F.entry_sum (F.args_sum1 _) ?_
  unfold Builtin.«sum»
  simp only [List.length_cons, List.length_nil]
  rw [if_neg (by decide)]
  refine wpAny_bind (wpAny_of_eq (show Builtin.Builtins.bindParams "sum" ["start"] 0 { } = pure [none] from rfl) ?_)
  refine wpAny_bind (wpAny_pyIter_gen M.isg ?_)
  refine wpAny_bind (wpAny_mkInt ?_)
  refine wpAny_bind (wpAny_pure ?_)
  simp only [List.forIn_cons, List.forIn_nil]
  refine wpAny_bind (wpAny_bind (wpAny_bind (wpAny_isInstance (T := "int") (b := false) (typeIs_int _ _ _) sub_int_str ?_)))
  simp only [Bool.false_eq_true, if_false]
  refine wpAny_pure (wpAny_bind (wpAny_bind (wpAny_isInstance (T := "int") (b := false) (typeIs_int _ _ _) sub_int_bytes ?_)))
  simp only [Bool.false_eq_true, if_false]
  refine wpAny_pure (wpAny_bind (wpAny_bind (wpAny_isInstance (T := "int") (b := false) (typeIs_int _ _ _) sub_int_bytearray ?_)))
  simp only [Bool.false_eq_true, if_false]
  refine wpAny_pure (wpAny_pure ?_)
  refine wpAny_bind (wpAny_newObj_type ?_)
  refine wpAny_pure ⟨plainId_quiet F.plain_sum_loop _, ?_⟩
  rw [← M.prog, ← M.w]
  have hS0 : s5.heap.objs.size = a + 1 := M.sz
  obtain ⟨gs, hgs, rest⟩ := M.gst
  obtain ⟨og, eg, dg⟩ := M.obj
  have hst : ∀ b ∈ [a, s5.heap.objs.size], ∃ H0, FpOk Y [] H0 b := fun b hb => by
    rcases List.mem_cons.mp hb with z | z
    · rw [z]; exact ⟨_, M.fpa⟩
    · rw [List.mem_singleton.mp z]; exact ⟨H2, M.inv.fpOk (Nat.le_refl _) (M.inv.hok.fresh (Nat.le_refl _))⟩
  have hfp : ∀ b ∈ fp, b ∉ [a, s5.heap.objs.size] := fun b hb z => by
    have := M.fpl b hb
    rcases List.mem_cons.mp z with z | z
    · rw [z] at this; exact Nat.lt_irrefl _ this
    · rw [List.mem_singleton.mp z, hS0] at this; exact Nat.not_lt_of_le (Nat.le_succ _) this
  refine sum_loop (A := X.A) (n := n) (σw := wipe σ (own.map (fun x => x.2))) (as := [a, s5.heap.objs.size]) (S := s5.heap.objs.size) (a := a) (gi := gi) (Fin := fun z H => Q (.int z) H) G.hr.hd (by have := G.hr.dp; show X.A.depth < _; omega) (by simp) (by simp) (fun z => Nat.succ_ne_self _ (hS0.symm.trans z)) (fun z => hfp _ z (by simp)) hst M.keep hY hE (fun z t H' s' pins' I' f => ⟨.int z, H', M.back _ _ _ _ I', ⟨t, rfl⟩, f⟩) (n + 1) 0 H2 _ 0 s5.toks 0 ?_ (Heap.get?_push_size _ rfl) w0
  have kp : ∀ b o, s5.heap.get? b = some o → (s5.heap.push { cls := .type "list", data := .seq #[.int 0 s5.toks] }).get? b = some o := fun b o e => Heap.get?_push_of_some _ e
  have I6 : Inv Y [] (wipe σ (own.map (·.2))) H2 { s5 with heap := s5.heap.push { cls := .type "list", data := .seq #[.int 0 s5.toks] }, toks := s5.toks + 1 } := M.inv.kept kp
  obtain ⟨o, nm, qn, ho, r⟩ := M.isg
  have I7 := I6.pinned (pins := []) (fp := [a, s5.heap.objs.size]) (fun b hb => by
    obtain ⟨H0, f0, fr⟩ := hst b hb
    refine ⟨?_, fr⟩
    rcases List.mem_cons.mp hb with z | z
    · rw [z]; exact M.fpa.1
    · rw [List.mem_singleton.mp z]; exact M.inv.hok.fresh (Nat.le_refl _)) (fun b hb => by
    rcases List.mem_cons.mp hb with z | z
    · rw [z]; exact ⟨og, kp a og eg, dg⟩
    · rw [List.mem_singleton.mp z]; exact ⟨_, Heap.get?_push_size _ rfl, fun v z => by cases z⟩)
  refine ⟨⟨o, nm, qn, kp a o ho, r⟩, I7, M.keep _ _ _ M.tn0 fun b hb o e => kp b o e, M.fpn, fun b hb => ?_, gs, hgs, by omega, rest Int _ n _ W Yd End hfp GS⟩
  rcases List.mem_cons.mp hb with z | z
  · rw [z]; exact ⟨og, kp a og eg⟩
  · rw [List.mem_singleton.mp z]; exact ⟨_, Heap.get?_push_size _ rfl⟩
end
end DL

/-! any, all, sum: the readings -/
namespace DL
open PySem PySem.Spec L2
def sumD (g : CG) (t : CT) (e : CE) (σ : SD) (k : Int → Hd → Bool) : List D → Int → Hd → Bool
  | [], z, η => k z η
  | d :: ds, z, η => g d σ η (fun σ1 η1 => t σ1 η1 (fun b η2 => match b with
    | true => e σ1 η2 (fun y η3 => match y with
      | .int v => match rOk v, rOk (z + v) with
        | true, true => sumD g t e σ k ds (z + v) η3
        | _, _ => false
      | _ => false) kF
    | false => sumD g t e σ k ds z η2) kF) kF
def cSumG (i : CI) (g : CG) (t : CT) (e : CE) (vs : List Nat) : CE := fun σ η kv kx => i σ η (fun it η1 => sumD g t e (wipeD σ vs) (fun z η2 => kv (.int z) (it.un η2)) it.l 0 (it.fr η1)) kx
theorem rOk_long {i : Int} (h : rOk i = true) : InLong i := by
  obtain ⟨h1, h2⟩ := rOk_ok h
  exact ⟨by omega, by omega⟩
section
variable {X : Cx} {N : Nm} {E : XK}
/-- the world ahead of the walk, when the table has grown -/
theorem grown_walk {K : PySem.W.Frag} {W1 : Wl} {it : Its} {H2 : Hp} (o1 : W1.Ok K N.toNames) (fz : FzOk W1 it) (x2 : LamX.ExtN W1.H H2) (t2 : Tabs N.tabs H2) :
    Ext (it.w W1) ⟨W1.μ, it.fr W1.η, H2⟩ ∧ Wl.Ok K N.toNames ⟨W1.μ, it.fr W1.η, H2⟩ := by
  obtain ⟨xf, of⟩ := Its.froze o1 fz
  exact of.grown x2 t2
theorem sum_of {E' : XK} {K : PySem.W.Frag} {ci : CI} {g : CG} {t : CT} {e : CE} {vs : List Nat} {σ : St} {H : Hp} {Q : VK} (h : tE K N E (cSumG ci g t e vs) σ H Q) : tSumG N.tabs (tI K N E ci) (tGw K N vs g) (tT K N E' t) (tE K N E' e) vs σ H Q := by
  obtain ⟨W, σd, kv, kx, rfl, o, s, h, hv, hx⟩ := h
  refine ⟨W, σd, _, kx, rfl, o, s, h, fun W1 it J x1 o1 fz wk h1 => ⟨o1.tab, fun H2 x2 t2 => ?_⟩, hx⟩
  obtain ⟨xf, of⟩ := Its.froze o1 fz
  obtain ⟨xs, os⟩ := grown_walk o1 fz x2 t2
  have s0 : RelS (it.w W1) (wipeD σd vs) (wipe σ vs) := ((s.mono o x1).mono o1 xf).wipe vs
  have fin : ∀ (W2 : Wl) (b : Int), Ext (it.w W1) W2 → W2.Ok K N.toNames → kv (.int b) (it.un W2.η) = true → Q (.int b) W2.H := fun W2 b x o2 hb => by
    obtain ⟨xt, ot⟩ := Its.thaw o1 fz x o2
    exact hv ⟨W2.μ, it.un W2.η, W2.H⟩ (.int b) (.int b) (x1.trans o o1 xt) ot (by rw [RelD]) hb
  refine ⟨it.l.length, fun i z H => i ≤ it.l.length ∧ ∃ W2, W2.H = H ∧ Ext (it.w W1) W2 ∧ W2.Ok K N.toNames ∧ sumD g t e (wipeD σd vs) (fun b η2 => kv (.int b) (it.un η2)) (it.l.drop i) z W2.η = true,
    fun i z y H => i < it.l.length ∧ ∃ W2 v, W2.H = H ∧ y = .int v ∧ Ext (it.w W1) W2 ∧ W2.Ok K N.toNames ∧ (match rOk v, rOk (z + v) with
      | true, true => sumD g t e (wipeD σd vs) (fun b η2 => kv (.int b) (it.un η2)) (it.l.drop (i + 1)) (z + v) W2.η
      | _, _ => false) = true,
    fun z H => ∃ W2, W2.H = H ∧ Ext (it.w W1) W2 ∧ W2.Ok K N.toNames ∧ kv (.int z) (it.un W2.η) = true, ⟨?_, ?_⟩, ⟨Nat.zero_le _, _, rfl, xs, os, h1⟩, ?_, ?_⟩
  · rintro z i H hlt ⟨hi, W2, rfl, xw, o2, h2⟩
    have s2 : RelS W2 (wipeD σd vs) (wipe σ vs) := s0.mono of xw
    refine ⟨wk.go W2 i (xw.sty of) o2 hlt, fun y H3 hy => ?_⟩
    obtain ⟨W3, d, e3, x3, o3, eH, eη, r3⟩ := wk.yld W2 i y H3 (xw.sty of) o2 hlt hy
    subst eH
    have ed : it.l.drop i = d :: it.l.drop (i + 1) := by
      rw [List.drop_eq_getElem_cons hlt]
      have : it.l[i] = d := by
        have := List.getElem?_eq_getElem hlt
        rw [this] at e3; exact Option.some.inj e3
      rw [this]
    rw [ed] at h2
    refine ⟨W3, d, wipeD σd vs, _, rfl, o3, r3, s2.mono o2 x3, (by rw [eη]; exact h2), fun W4 σd4 σ4 x4 o4 s4 w4 h4 => ⟨w4.trans (wipe_wipe vs σ), ?_⟩⟩
    refine tT.bind (kx := kF) o4 s4 Xk.never h4 fun W5 b x5 o5 s5 hx5 h5 => ?_
    have x25 : Ext (it.w W1) W5 := xw.trans of o2 (x3.trans o2 o3 (x4.trans o3 o4 x5))
    cases b with
    | true =>
      rw [if_pos rfl]
      refine tE.bind (kx := kF) o5 s5 Xk.never h5 fun W6 dy vy x6 o6 r6 s6 hx6 h6 => ?_
      cases dy with
      | int c =>
        rw [RelD] at r6
        exact ⟨hlt, W6, c, rfl, r6, x25.trans of o5 x6, o6, h6⟩
      | _ => cases h6
    | false =>
      rw [if_neg (by decide)]
      exact ⟨hlt, W5, rfl, x25, o5, h5⟩
  · rintro z H ⟨hi, W2, rfl, xw, o2, h2⟩
    rw [List.drop_length] at h2
    exact ⟨wk.stop W2 (xw.sty of) o2, W2, rfl, xw, o2, h2⟩
  · rintro i z y H ⟨hlt, W2, v, rfl, rfl, xw, o2, h2⟩
    cases e1 : rOk v with
    | false => rw [e1] at h2; cases h2
    | true =>
      cases e2 : rOk (z + v) with
      | false => rw [e1, e2] at h2; cases h2
      | true =>
        rw [e1, e2] at h2
        exact ⟨v, rfl, rOk_long e1, rOk_long e2, hlt, W2, rfl, xw, o2, h2⟩
  · rintro z H ⟨W2, rfl, xw, o2, h2⟩
    exact fin W2 _ xw o2 h2
/-- what a generator expression asks, by readings -/
structure GxD (X : Cx) (N : Nm) (E E' : XK) (k : Nat) (elt tg iter : Expr) (ifs : List Expr) (scope : Scope) (own : List (Str × Nat)) (ci : CI) (g : CG) (t : CT) (e : CE) (gp : Pos) : Prop where
  hr : Room (k + 1) X.A
  hN : X.N.Nodup
  code : ∃ c P, LamX.TabB X.base X.mg c P ∧ X.env.code = .ref c ∧ (∃ e ∈ N.tabs, e.1 = P) ∧ ∀ e ∈ N.tabs, e.1 = P → e.2.2 gp.line gp.col = false
  sc : genScB scope = true
  hi : JI X N E tg iter ci
  ok : BlkOk X.N X.env.scope scope own
  hg : ∀ (AY : Around) (s : Shared) (H : Hp) (L : Addr) (code : Value) (fp : List Addr), Room k AY → JGw (genCx X AY s H (gEnv X scope L code) fp) N (own.map (·.2)) tg g
  ht : ∀ (AY : Around) (s : Shared) (H : Hp) (L : Addr) (code : Value) (fp : List Addr), Room k AY → JTs (genCx X AY s H (gEnv X scope L code) fp) N E' ifs t
  he : ∀ (AY : Around) (s : Shared) (H : Hp) (L : Addr) (code : Value) (fp : List Addr), Room k AY → JE (genCx X AY s H (gEnv X scope L code) fp) N E' elt e
  hs : ∀ v, genFold iter X.env v = pure v
variable {E' : XK} {k : Nat} {elt tg iter : Expr} {ifs : List Expr} {scope : Scope} {own : List (Str × Nat)} {ci : CI} {g : CG} {t : CT} {e : CE} {p pos gpos : Pos}
theorem GxD.gx (G : GxD X N E E' k elt tg iter ifs scope own ci g t e gpos) : Gx X N.tabs k elt tg iter ifs scope own (tI X.K N E ci) (tGw X.K N (own.map (·.2)) g) (tT X.K N E' t) (tE X.K N E' e) gpos :=
  ⟨G.hr, G.hN, G.code, genSc_by G.sc, G.hi, G.ok, G.hg, G.ht, G.he, G.hs⟩
theorem je_gsum (hg : Gl X "sum") (hm : X.mg "sum" = none) (G : GxD X N E E' k elt tg iter ifs scope own ci g t e gpos)
    (he : starEach [.GeneratorExp elt [⟨tg, iter, ifs, 0⟩] scope gpos] X.env = (false, eval (.GeneratorExp elt [⟨tg, iter, ifs, 0⟩] scope gpos) X.env) :: starEach [] X.env := by rfl) :
    JE X N E (.Call (.Name "sum" p) [.GeneratorExp elt [⟨tg, iter, ifs, 0⟩] scope gpos] [] pos) (cSumG ci g t e (own.map (·.2))) := PE.imp (pe_gsum hg hm (by decide +kernel) G.gx he) fun σ H Q q => sum_of q
end
end DL

/-! sum, min of lists, count, three names at once, o[i] op= e -/
namespace DL
open PySem PySem.Spec L2
section
variable {X : Cx} {N : Nm} {E : XK}
/-! ### sum -/
/-! ### min of a list of rows of ints -/
section
variable {prog : Program} {w : World} {A : Around} {R : Result → Shared → Prop} {I : Addr} {fp wr : List Addr} {G : Array GenState → Array GenState → Prop} {n : Nat} {P : Nat → Value → Prop} {St : Nat → Shared → Prop}
end
end
end DL

/-! count, three names at once, o[i] op= e, tuple(reversed(..)) -/
namespace DL
open PySem PySem.Spec L2
section
variable {X : Cx} {N : Nm} {E : XK}
/-- three names at once -/
theorem js_par3 {i j l : Nat} {x y z : Str} {a b c : Expr} {ca : CA} {px py pz pt pos : Pos} {kt k2 pt2} (hc : X.calm = true) (hN : X.N.Nodup) (hi : X.N[i]? = some x) (hj : X.N[j]? = some y) (hl : X.N[l]? = some z) (hij : i ≠ j) (hil : i ≠ l) (hjl : j ≠ l)
    (hx : X.env.scope.names.lookup x = some .local) (hy : X.env.scope.names.lookup y = some .local) (hz : X.env.scope.names.lookup z = some .local) (ha : JA X N E [a, b, c] ca)
    (hw : swappedStores [.Tuple [.Name x px, .Name y py, .Name z pz] kt pt] (.Tuple [a, b, c] k2 pt2) X.env = pure (some [x, y, z]))
    (hs : swapsWithSole [.Tuple [.Name x px, .Name y py, .Name z pz] kt pt] (.Tuple [a, b, c] k2 pt2) pos.line X.env = pure false := by rfl) :
    JS X N E (.Assign [.Tuple [.Name x px, .Name y py, .Name z pz] kt pt] (.Tuple [a, b, c] k2 pt2) pos) (sPar3 i j l ca) :=
  PS.imp (ps_par3 hc hN hi hj hl hij hil hjl hx hy hz ha hw hs) fun Z σ H q => by
    obtain ⟨W, σd, k, rfl, o, s, h, hk⟩ := q
    refine tAr.bind o s hk.xc h fun W1 ds vs x1 o1 r1 s1 hx1 h1 => ?_
    match ds, r1, h1 with
    | [d, e, f], r1, h1 =>
      obtain ⟨v, u, w, rfl, ra, rb, rc⟩ := rel3 r1
      exact ⟨v, u, w, rfl, hk.nx W1 _ _ x1 o1 (((s1.set i ra).set j rb).set l rc) h1⟩
    | [], _, h1 => cases h1
    | [_], _, h1 => cases h1
    | [_, _], _, h1 => cases h1
    | _ :: _ :: _ :: _ :: _, _, h1 => cases h1
end
end DL

/-! tuple(reversed(t)), t a tuple -/
namespace DL
open PySem PySem.Spec PyProof.Rows L2 RT
section
variable {prog : Program} {w : World} {A : Around} {E : Value → Shared → Prop} {s : Shared}
end
section
variable {X : Cx} {N : Nm} {E : XK}
end
end DL

/-! the end: the tables of all top defs are empty -/
namespace DL
open PySem PySem.Spec PyProof.Rows L2 LamX
section
variable {N : Nm} {P : Program} {w : World} {K : PySem.W.Frag} {mg : Str → Option Value} {base : Heap}
/-- a def whose code object is known -/
theorem jf_defc {x qual : Str} {st : Stmt} {f c : Addr} {fd : FuncData} {Ns ps : List Str} {k : Nat} {b : CS} (F : Fun K x qual st f fd) (S : FnScope Ns ps (defScope st)) (hc : fd.code = .ref c)
    (hbody : ∀ (A : Around) (outer : List Env) (s : Shared) (H : Hp) (E : XK), Room k (A.deeper (PyProof.Rows.envOfC qual (defScope st) s.heap.objs.size f (.ref c))) → JB (cxOf (L2.CX P w) P w K mg base Ns qual (defScope st) f (.ref c) A outer s H E) N E (defBody st) b) :
    JF P w K mg base (k + 1) f fd ps N (cDef ps.length Ns.length b) := by
  obtain ⟨oc, od, kV, doc, pm, an, cdv, ct, osl, rfl, lk, hcd⟩ := F.ex
  have hc : cdv = .ref c := hc
  subst hc
  refine fn_of lk hcd S (fun vs H Q E h => ?_) (fun A outer s H vs Q E hr h => ?_)
  · obtain ⟨W, ds, kv, kx, _, _, r, h, _⟩ := h
    unfold cDef at h
    cases e : Nat.beq ds.length ps.length with
    | false => rw [e] at h; cases h
    | true => rw [← r.length]; exact Nat.eq_of_beq_eq_true e
  · obtain ⟨W, ds, kv, kx, rfl, o, r, h, hv, hx⟩ := h
    unfold cDef at h
    cases e : Nat.beq ds.length ps.length with
    | false => rw [e] at h; cases h
    | true =>
      rw [e] at h
      have el : ds.length = ps.length := Nat.eq_of_beq_eq_true e
      refine ⟨_, hbody A outer s W.H E hr, W, startD ps.length Ns.length ds, _, rfl, o, by rw [← el]; exact rel_start r, h, ⟨fun W' σd σ x o' s' e' => hv W' .non .non x o' mkNon e', hv, (fun _ _ _ _ _ _ e' => nomatch e'), (fun _ _ _ _ _ _ e' => nomatch e'), hx⟩⟩
/-- each table's name is told once -/
theorem tab_one {α : Type} {T : List (Addr × α)} (h : (T.map (·.1)).Nodup) {P : Addr} {q : α} (hm : (P, q) ∈ T) : ∀ p ∈ T, p.1 = P → p.2 = q := by
  induction T with
  | nil => cases hm
  | cons t T ih =>
    intro p hp e
    have h' := List.nodup_cons.mp (show (t.1 :: T.map (·.1)).Nodup from h)
    rcases List.mem_cons.mp hp with hp | hp
    · rcases List.mem_cons.mp hm with hm | hm
      · rw [hp, ← hm]
      · exact absurd (List.mem_map.mpr ⟨_, hm, by show P = t.1; rw [← e, hp]⟩) h'.1
    · rcases List.mem_cons.mp hm with hm | hm
      · exact absurd (List.mem_map.mpr ⟨p, hp, by rw [e, ← hm]⟩) h'.1
      · exact ih h'.2 hm p hp e
end
section
variable {X : Cx} {N : Nm} {E : XK}
theorem je_tell2 {l : List (Value × Str)} {hm : Nat → Option Str} {x a : Str} {g c P : Addr} {k : Nat} {st : Stmt} {fd : FuncData} {Ng : List Str} {params : Arguments} {body : Expr} {scope : Scope} {cb : CE} {p lpos pos : Pos}
    (F : Fun X.K x x st g fd) (hg : Gl X x) (hmg : X.mg x = some (.ref g)) (hb : L2.Binds X.K fd [a] []) (Sg : FnScope Ng [a] (defScope st)) (hNg : Ng[0]? = some a) (hva : Vis (defScope st) a)
    (hG : ∀ cdv, LamX.GivesTo X Ng x (defScope st) g cdv (defBody st) a (X.env.qual ++ "<lambda>") (TTm X.K l)) (hH : HmOk X.K N l hm)
    (TB : LamX.TabB X.base X.mg c P) (hcode : X.env.code = .ref c) {lam : Nat → Nat → Bool} (hmT : (P, X.env.qual ++ "<lambda>", lam) ∈ N.tabs) (hlm : lam lpos.line lpos.col = true) (hu : ∀ e ∈ N.tabs, e.1 = P → e.2.1 = X.env.qual ++ "<lambda>") (hr : Room (k + 2) X.A) (L : LamX.LamS X.env.scope scope) (hdef : defaultsOf params X.env = ([], []))
    (hbind : ∀ (q : Str) (cl : List (Str × Addr)) (pm cv ctv : Value), bindArgs (PySem.W.kla_fn "<lambda>" q params body scope cl pm cv ctv) ⟨[], []⟩ = pure [])
    (hbody : ∀ (A : Around) (outer : List Env) (s : Shared) (H : Hp) (E : XK) (f c' : Addr), Room k (A.deeper (LamX.lamEnv X scope s.heap.objs.size f c')) → JE (LamX.lamCx X A outer s H E scope f c') N E body cb)
    (hdb : (x == ("__debug__" : Str)) = false := by decide) (hd : (a == ("__debug__" : Str)) = false := by decide) (hcd : (a == ("__classdict__" : Str)) = false := by decide) :
    JE X N E (.Call (.Name x p) [.Lambda params body scope lpos] [] pos) (cTold hm cb) := by
  obtain ⟨oc, od, kV, doc, pm, an, cdv, ct, osl, rfl, lk, hco⟩ := F.ex
  exact je_told hg hmg F.kp lk hco hb Sg hNg hva (hG cdv) hH TB hcode hmT hlm hu hr L hdef hbind hbody hdb hd hcd
end
end DL

/-! a for whose walk is cut into pieces -/
namespace DL
open PySem PySem.Spec L2
/-- a place within a walk: what is frozen meanwhile, what is left to be walked, the state -/
structure Pc where
  nb : Nat
  fz : Option (Nat × List D)
  rest : List D
  st : SD × Hd
def sameFz : Option (Nat × List D) → Option (Nat × List D) → Bool
  | none, none => true
  | some (a, l), some (b, m) => match Nat.beq a b with
    | true => eqL (same 8) l m
    | false => false
  | _, _ => false
/-- c stands here -/
def Pc.here (c : Pc) (fz : Option (Nat × List D)) (nb : Nat) (ds : List D) (σ : SD) (η : Hd) : Bool := match Nat.beq nb c.nb, Nat.ble nb c.st.2.nx with
  | true, true => match eqL (same 8) ds c.rest with
    | true => match sameFz fz c.fz with
      | true => leS c.st σ η
      | false => false
    | false => false
  | _, _ => false
section
variable {X : Cx} {N : Nm} {E : XK} {m : Nat}
end
end DL

/-! instances: attributes, methods, making -/
namespace DL
open PySem PySem.Spec L2
def fget (k : Nat) : List (Nat × D) → Option D
  | [] => none
  | p :: t => match Nat.beq p.1 k with
    | true => some p.2
    | false => fget k t
def fput (k : Nat) (d : D) : List (Nat × D) → List (Nat × D)
  | [] => [(k, d)]
  | p :: t => match Nat.beq p.1 k with
    | true => (p.1, d) :: t
    | false => p :: fput k d t
theorem fld_inj {FL : List Str} (hn : FL.Nodup) (hq : ("?" : Str) ∉ FL) {k : Nat} (hk : k < FL.length) : ∀ j, FL.getD j "?" = FL.getD k "?" → j = k := by
  intro j e
  have ek : FL.getD k "?" = FL[k] := by rw [List.getD, List.getElem?_eq_getElem hk]; rfl
  by_cases hj : j < FL.length
  · have ej : FL.getD j "?" = FL[j] := by rw [List.getD, List.getElem?_eq_getElem hj]; rfl
    rw [ej, ek] at e
    exact (List.getElem_inj hn).mp e
  · have ej : FL.getD j "?" = "?" := by rw [List.getD, List.getElem?_eq_none (by omega)]; rfl
    rw [ej, ek] at e
    exact absurd (by rw [e]; exact List.getElem_mem hk) hq
theorem fld_no {FL : List Str} {m : Str} (h : m ∉ FL) (hq : m ≠ "?") : ∀ j, FL.getD j "?" ≠ m := by
  intro j e
  by_cases hj : j < FL.length
  · have ej : FL.getD j "?" = FL[j] := by rw [List.getD, List.getElem?_eq_getElem hj]; rfl
    rw [ej] at e
    exact h (by rw [← e]; exact List.getElem_mem hj)
  · have ej : FL.getD j "?" = "?" := by rw [List.getD, List.getElem?_eq_none (by omega)]; rfl
    rw [ej] at e
    exact hq e.symm
section
variable {W : Wl} {N : Names}
theorem RelFs.get {f : Str} {k : Nat} (hf : N.fld k = f) : ∀ {fs : List (Nat × D)} {gs : List (Str × V)} {d : D}, (∀ j, N.fld j = f → j = k) → RelFs W N fs gs → fget k fs = some d → ∃ v, gs.lookup f = some v ∧ RelD W d v
  | [], gs, d, hi, h, e => by cases e
  | (j, x) :: fs, gs, d, hi, h, e => by
    rw [RelFs] at h
    obtain ⟨v, gs', rfl, h1, h2⟩ := h
    unfold fget at e
    cases q : Nat.beq j k with
    | true =>
      rw [q] at e
      cases e
      have : j = k := Nat.eq_of_beq_eq_true q
      subst this
      exact ⟨v, by rw [hf]; simp [List.lookup], h1⟩
    | false =>
      rw [q] at e
      obtain ⟨v', l, r⟩ := RelFs.get hf hi h2 e
      refine ⟨v', ?_, r⟩
      have ne : ¬ f = N.fld j := fun z => by
        have := hi j z.symm
        rw [this, Nat.beq_refl] at q; cases q
      have ne' : (f == N.fld j) = false := by simpa using ne
      simp only [List.lookup, ne']
      exact l
theorem RelFs.no {f : Str} (hf : ∀ j, N.fld j ≠ f) : ∀ {fs : List (Nat × D)} {gs : List (Str × V)}, RelFs W N fs gs → gs.lookup f = none
  | [], gs, h => by rw [RelFs] at h; subst h; rfl
  | (j, x) :: fs, gs, h => by
    rw [RelFs] at h
    obtain ⟨v, gs', rfl, h1, h2⟩ := h
    have ne' : (f == N.fld j) = false := by simpa using fun z => hf j z.symm
    simp only [List.lookup, ne']
    exact RelFs.no hf h2
theorem RelFs.put {f : Str} {k : Nat} (hf : N.fld k = f) (hi : ∀ j, N.fld j = f → j = k) {d : D} {v : V} (r : RelD W d v) : ∀ {fs : List (Nat × D)} {gs : List (Str × V)}, RelFs W N fs gs → RelFs W N (fput k d fs) (putF f v gs)
  | [], gs, h => by
    rw [RelFs] at h; subst h
    show RelFs W N [(k, d)] [(f, v)]
    rw [RelFs]; exact ⟨v, [], by rw [hf], r, by rw [RelFs]⟩
  | (j, x) :: fs, gs, h => by
    rw [RelFs] at h
    obtain ⟨u, gs', rfl, h1, h2⟩ := h
    unfold fput
    cases q : Nat.beq j k with
    | true =>
      have : j = k := Nat.eq_of_beq_eq_true q
      subst this
      show RelFs W N ((j, d) :: fs) (if N.fld j = f then (N.fld j, v) :: gs' else _)
      rw [if_pos hf, RelFs]
      exact ⟨v, gs', rfl, r, h2⟩
    | false =>
      have ne : ¬ N.fld j = f := fun z => by
        have := hi j z
        rw [this, Nat.beq_refl] at q; cases q
      show RelFs W N ((j, x) :: fput k d fs) (if N.fld j = f then _ else (N.fld j, u) :: putF f v gs')
      rw [if_neg ne, RelFs]
      exact ⟨u, _, rfl, h1, RelFs.put hf hi r h2⟩
theorem RelFs.len : ∀ {fs : List (Nat × D)} {gs : List (Str × V)}, RelFs W N fs gs → fs.length = gs.length
  | [], gs, h => by rw [RelFs] at h; subst h; rfl
  | (j, x) :: fs, gs, h => by
    rw [RelFs] at h
    obtain ⟨u, gs', rfl, h1, h2⟩ := h
    simp [RelFs.len h2]
end
/-- the fields of an instance of class c -/
def insAt (c : Nat) (η : Hd) : D → Option (Nat × List (Nat × D))
  | .ref r => match η.get r with
    | some (.ins c' fs) => match Nat.beq c' c with
      | true => some (r, fs)
      | false => none
    | _ => none
  | _ => none
section
variable {X : Cx} {N : Nm} {E : XK}
end
end DL

/-! dicts: in, len, sorted, displays; names of the top -/
namespace DL
open PySem PySem.Spec L2
section
variable {X : Cx} {N : Nm} {E : XK}
/-! ### in -/
theorem OpR.or {f : Value → Value → Sem Value} {r r' : R2} (h : OpR X f r) (h' : OpR X f r') : OpR X f (fun x y H Q => r x y H Q ∨ r' x y H Q) :=
  fun pins s σ H x y v u Q I rx ry q => q.elim (h pins s σ H x y v u Q I rx ry) (h' pins s σ H x y v u Q I rx ry)
/-! ### len -/
def gLenA (d : D) (η : Hd) : Option (D × Hd) := match d with
  | .ref r => match η.get r with
    | some (.dct _ kvs) => some (.int (Int.ofNat kvs.length), η)
    | _ => gLen d η
  | _ => gLen d η
theorem blt_lenA : CallR X (.builtin "len") (rN X.K N (f1 gLenA)) := CallR.imp (CallR.or (blt_len (N := N)) (CallR.or call_lenD call_len_dT)) fun xs H Q q => by
  obtain ⟨W, ds, d, η', rfl, o, rs, hf, hq⟩ := q
  obtain ⟨d0, rfl, hg⟩ := f1_inv hf
  have old : gLen d0 W.η = some (d, η') → rN X.K N fLen xs W.H Q := fun h => ⟨W, [d0], d, η', rfl, o, rs, h, hq⟩
  cases d0 with
  | ref r =>
    simp only [gLenA] at hg
    cases e : W.η.get r with
    | none => rw [e] at hg; exact .inl (old hg)
    | some c =>
      rw [e] at hg
      cases c with
      | dct t kvs =>
        simp only [Option.some.injEq, Prod.mk.injEq] at hg
        obtain ⟨rfl, rfl⟩ := hg
        obtain ⟨v, rfl, r1⟩ := rel1 rs
        rw [relRef r1]
        cases t with
        | false =>
          obtain ⟨ps, h1, h2, h3⟩ := o.cell _ _ e
          refine .inr (.inl ⟨_, ps, rfl, h1, ?_⟩)
          rw [← relK_len h2]
          exact same_w o hq mkInt
        | true =>
          obtain ⟨ps, h1, h2, h3⟩ := o.cell _ _ e
          refine .inr (.inr ⟨_, ps, rfl, h1, ?_⟩)
          rw [← relT_len h2]
          exact same_w o hq mkInt
      | _ => exact .inl (old hg)
  | _ => exact .inl (old hg)
/-! ### a name of the top that holds an int -/
/-! ### sorted of a dict with int keys -/
end
end DL

/-! comprehensions by clauses -/
namespace DL
open PySem PySem.Spec L2
/-- one clause: its walk, its target, its tests, what is done in each turn -/
def LoopR (J : It) (g : TG) (tt : TT) (tb : St → Hp → (Hp → Prop) → Prop) (vs : List Nat) (σw : St) (H0 : Hp) (Fn : Hp → Prop) : Prop :=
  ∃ W : Nat → Nat → Hp → Prop, (∃ m, W 0 m H0) ∧ ∀ i m H, W i m H → (J.stop i H ∧ Fn H) ∨ (J.go i H ∧ ∃ Nx : Hp → Prop, (∀ H', Nx H' → ∃ m', m' < m ∧ W (i + 1) m' H') ∧
    ∀ x H', J.yld i H x H' → g x σw H' fun σ2 H2 => wipe σ2 vs = σw ∧ tt σ2 H2 fun b H3 => if b = true then tb σ2 H3 Nx else Nx H3)
section
variable {Y : Cx}
end
section
variable {X : Cx}
end
end DL

/-! dict comprehensions: the readings -/
namespace DL
open PySem PySem.Spec L2
section
variable {X : Cx} {N : Nm} {E : XK}
/-! ### what is stored -/
end
end DL

/-! dict displays: {}, {k: v} -/
namespace DL
open PySem PySem.Spec L2
section
variable {X : Cx} {N : Nm} {E : XK}
end
end DL

/-! enumerate and zip over lists and tuples -/
namespace DL
open PySem PySem.Spec L2
/-! ### a list (true) or a tuple -/
def Sq (K : PySem.W.Frag) : Bool → Hp → Addr → List V → Prop
  | true => SqL K
  | false => SqT K
def IsQ : Bool → Heap → Addr → Array Value → Prop
  | true => fun h a l => h.IsList a l
  | false => fun h a l => h.IsTuple a l
def IsQI : Bool → Heap → Addr → Addr → Nat → Prop
  | true => fun h it a i => h.IsListIter it a i
  | false => fun h it a i => h.IsTupleIter it a i
def objQ : Bool → Addr → Obj
  | true => fun a => { cls := .type "list_iterator", data := .fields #[.ref a, .int 0 0] }
  | false => fun a => { cls := .type "tuple_iterator", data := .fields #[.ref a, .int 0 0] }
theorem objQ_is (f : Bool) {h : Heap} {it a : Addr} (e : h.get? it = some (objQ f a)) : IsQI f h it a 0 := by
  cases f with
  | true => exact ⟨_, e, rfl, rfl⟩
  | false => exact ⟨_, e, rfl, rfl⟩
theorem isQI_at {f : Bool} {h h' : Heap} {it a : Addr} {i : Nat} (st : IsQI f h it a i) (k : ∀ o, h.get? it = some o → h'.get? it = some o) : IsQI f h' it a i := by
  cases f with
  | true => exact Heap.IsListIter.at st k
  | false => exact Heap.IsTupleIter.at st k
theorem isQI_obj {f : Bool} {h : Heap} {it a : Addr} {i : Nat} (st : IsQI f h it a i) : ∃ o, h.get? it = some o ∧ ∀ v, o.data ≠ .cell v := by
  cases f with
  | true => obtain ⟨o, e, _, d⟩ := st; exact ⟨o, e, fun v q => by rw [d] at q; cases q⟩
  | false => obtain ⟨o, e, _, d⟩ := st; exact ⟨o, e, fun v q => by rw [d] at q; cases q⟩
theorem begins_q (f : Bool) (a : Addr) (its : Array Value) : Begins (.ref a) (objQ f a) fun h => IsQ f h a its := by
  cases f with
  | true => exact begins_list a its
  | false => exact begins_tuple a its
theorem draws_q {prog : Program} {w : World} {A : Around} (f : Bool) (hh : A.handled = none) (it l : Addr) (hne : l ≠ it) (its : Array Value) :
    Draws prog w A.in1 it [it, l] its.size (fun i v => its[i]? = some v) (fun i h => IsQI f h it l i ∧ IsQ f h l its) := by
  cases f with
  | true => exact Draws.list (A := A.in1) hh it l hne its
  | false => exact Draws.tuple (A := A.in1) hh it l hne its
theorem inv_q {X : Cx} {pins : List (Addr × Obj)} {σ : St} {H : Hp} {s : Shared} {a : Addr} {xs : List V} {f : Bool} (I : Inv X pins σ H s) (h : Sq X.K f H a xs) : ∃ its : List Value, Vals xs its ∧ IsQ f s.heap a its.toArray ∧ a < s.heap.objs.size := by
  cases f with
  | true => obtain ⟨its, rv, p, _⟩ := I.list h; exact ⟨its, rv, p.isList, p.lt⟩
  | false =>
    obtain ⟨its, rv, p, _⟩ := I.tuple h
    have p' : s.heap.IsTuple a its.toArray := p
    obtain ⟨o, e, _⟩ := p'
    exact ⟨its, rv, p, Heap.lt_size e⟩
theorem inv_q_inj {X : Cx} {pins : List (Addr × Obj)} {σ : St} {H : Hp} {s : Shared} {a : Addr} {xs ys : List V} {f : Bool} (I : Inv X pins σ H s) (h : Sq X.K f H a xs) (h' : Sq X.K f H a ys) : xs = ys := by
  cases f with
  | true => exact I.list_inj h h'
  | false => exact I.tuple_inj h h'
/-! ### enumerate -/
set_option maxHeartbeats 1000000 in
/-! ### zip of two -/
def Itz2 (K : PySem.W.Frag) (f g : Bool) (a b : Addr) : It :=
  ⟨fun i H => ∃ (xs ys : List V) (x y : V), Sq K f H a xs ∧ Sq K g H b ys ∧ xs[i]? = some x ∧ ys[i]? = some y,
    fun i H v H' => ∃ T x y, v = .ref T ∧ H T = none ∧ H' = upd H T (.tup [x, y]) ∧ (∀ xs, Sq K f H a xs → xs[i]? = some x) ∧ ∀ ys, Sq K g H b ys → ys[i]? = some y,
    fun i H => ∃ xs ys : List V, Sq K f H a xs ∧ Sq K g H b ys ∧ i ≤ xs.length ∧ i ≤ ys.length ∧ (i = xs.length ∨ i = ys.length)⟩
theorem lt_of_get {its : List Value} {i : Nat} {u : Value} (h : its[i]? = some u) : i < its.toArray.size := by
  obtain ⟨z, _⟩ := List.getElem?_eq_some_iff.mp h
  simpa using z
theorem arr_get {its : List Value} {i : Nat} {u y : Value} (h : its[i]? = some u) (hy : its.toArray[i]? = some y) : y = u := by
  rw [show its.toArray[i]? = its[i]? by simp, h] at hy
  exact (Option.some.inj hy).symm
theorem turn_zip2 {P : Program} {w : World} {K : PySem.W.Frag} {elts : List Expr} {kk : Nat} {tpos : Pos} {f g : Bool} {a b z TI TO i1 i2 : Addr} (S : ZipSep2 z TI TO i1 i2 [i1, a] [i2, b]) (ha : a ≠ i1) (hb : b ≠ i2) :
    Turn P w K (.Tuple elts kk tpos) (Itz2 K f g a b) [z, TI, TO, i1, i2] z (fun i h => IsZip h z TI TO .none ∧ IsTupOf2 h TI (.ref i1) (.ref i2) ∧ (∃ x y, IsTupOf2 h TO x y) ∧ IsQI f h i1 a i ∧ IsQI g h i2 b i) where
  mem := by simp
  obj := fun i h st c hc => by
    obtain ⟨hz, hTI, ⟨x, y, hTO⟩, h1, h2⟩ := st
    have e' : c = z ∨ c = TI ∨ c = TO ∨ c = i1 ∨ c = i2 := by simpa using hc
    rcases e' with q | q | q | q | q
    · rw [q]; exact ⟨_, hz, fun v q => nomatch q⟩
    · rw [q]; exact ⟨_, hTI, fun v q => nomatch q⟩
    · rw [q]; exact ⟨_, hTO, fun v q => nomatch q⟩
    · rw [q]; exact isQI_obj h1
    · rw [q]; exact isQI_obj h2
  keep := fun i h h' st k => by
    obtain ⟨hz, hTI, ⟨x, y, hTO⟩, h1, h2⟩ := st
    exact ⟨k z (by simp) _ hz, k TI (by simp) _ hTI, ⟨x, y, k TO (by simp) _ hTO⟩, isQI_at h1 fun o q => k i1 (by simp) o q, isQI_at h2 fun o q => k i2 (by simp) o q⟩
  item := by
    intro X hP hw hK hc i pins s σ H E I hf st hg
    subst hP hw hK
    obtain ⟨hz, hTI, ⟨x0, y0, hTO⟩, h1, h2⟩ := st
    obtain ⟨xs, ys, x, y, hqx, hqy, hx, hy⟩ := hg
    obtain ⟨its, rv, p, _⟩ := inv_q I hqx
    obtain ⟨its2, rv2, p2, _⟩ := inv_q I hqy
    obtain ⟨u, hu, ru⟩ := rv.get hx
    obtain ⟨u2, hu2, ru2⟩ := rv2.get hy
    have hzl : z < s.heap.objs.size := Heap.lt_size hz
    refine wpAny_pyNext_zipD2_item S (draws_q f (I.ok.hd hc) i1 a ha its.toArray) (draws_q g (I.ok.hd hc) i2 b hb its2.toArray) hz hTI hTO ⟨h1, p⟩ ⟨h2, p2⟩ (lt_of_get hu) (lt_of_get hu2) fun y1 y2 h' tk e1 e2 z' TO' h1' h2' hT hsz hk => ?_
    obtain rfl := arr_get hu e1
    obtain rfl := arr_get hu2 e2
    refine ⟨_, rfl, wpAny_letOwnedTupleGo_zip (s := { s with heap := h', toks := tk }) z' fun h'' z'' sb => ?_⟩
    have hT2 : h''.get? s.heap.objs.size = some { cls := .type "tuple", data := .seq #[y1, y2] } := (sb.2 _ (Nat.ne_of_gt hzl)).trans hT
    have new : ObjOk X.prog X.w (upd H s.heap.objs.size (.tup [x, y])) h'' s.heap.objs.size (.tup [x, y]) :=
      ⟨by show 2 ≤ sizeLine; decide, [y1, y2], .cons ru (.cons ru2 .nil), ⟨_, hT2, rfl, _, rfl⟩⟩
    have I1 : Inv X pins σ (upd H s.heap.objs.size (.tup [x, y])) { s with heap := h'', toks := tk } :=
      I.turnedNew (t' := tk) (ch := [z, TI, TO, i1, i2]) (fun c o hb q => (sb.2 c (fun q' => hb (by simp [q']))).trans (hk c o (fun q' => hb (by simp [q'])) (fun q' => hb (by simp [q'])) (fun q' => hb (by simp [q'])) (fun q' => hb (by simp [q'])) q)) hf (Nat.le_refl _) new
    refine ⟨.ref s.heap.objs.size, _, I1, rfl, ⟨_, x, y, rfl, I.hok.fresh (Nat.le_refl _), rfl, fun l hl => by rw [inv_q_inj I hl hqx]; exact hx, fun l hl => by rw [inv_q_inj I hl hqy]; exact hy⟩, ⟨z'', ?_, ⟨y1, y2, ?_⟩, ?_, ?_⟩, fun c hcm => ?_⟩
    · exact (sb.2 _ S.TIz).trans (hk _ _ S.TIz S.TITO S.TIi1 S.TIi2 hTI)
    · exact (sb.2 _ S.TOz).trans TO'
    · exact isQI_at h1'.1 fun o q => (sb.2 _ (Ne.symm S.zi1)).trans q
    · exact isQI_at h2'.1 fun o q => (sb.2 _ (Ne.symm S.zi2)).trans q
    · have hlt : c < s.heap.objs.size := by
        have e' : c = z ∨ c = TI ∨ c = TO ∨ c = i1 ∨ c = i2 := by simpa using hcm
        rcases e' with q | q | q | q | q
        · rw [q]; exact hzl
        · rw [q]; exact Heap.lt_size hTI
        · rw [q]; exact Heap.lt_size hTO
        · rw [q]; obtain ⟨_, e1, _⟩ := isQI_obj h1; exact Heap.lt_size e1
        · rw [q]; obtain ⟨_, e2, _⟩ := isQI_obj h2; exact Heap.lt_size e2
      rw [upd_ne (Nat.ne_of_lt hlt)]
      exact (hf c hcm).1
  done := by
    intro X hP hw hK hc i pins s σ H E I hf st hg
    subst hP hw hK
    obtain ⟨hz, hTI, ⟨x0, y0, hTO⟩, h1, h2⟩ := st
    obtain ⟨xs, ys, hqx, hqy, l1', l2', hend⟩ := hg
    obtain ⟨its, rv, p, _⟩ := inv_q I hqx
    obtain ⟨its2, rv2, p2, _⟩ := inv_q I hqy
    have l1 := rv.length
    have l2 := rv2.length
    exact wpAny_pyNext_zipD2_end S (draws_q f (I.ok.hd hc) i1 a ha its.toArray) (draws_q g (I.ok.hd hc) i2 b hb its2.toArray) hz hTI hTO ⟨h1, p⟩ ⟨h2, p2⟩ (by simp; omega) (by simp; omega) (by simp; omega) fun h' tk hk => ⟨rfl, I.turnedL (t' := tk) (ch := [z, TI, TO, i1, i2]) (fun c o hb q =>
      hk c o (fun q' => hb (by simp [q'])) (fun q' => hb (by simp [q'])) (fun q' => hb (by simp [q'])) (fun q' => hb (by simp [q'])) q) hf⟩
  self := fun A i s Q E st h => wpAny_pyIter_zip st.1 h
def iZip2 (K : PySem.W.Frag) (ta : TA) : TI := fun σ H R => ta σ H fun vs H1 => ∃ f g a b xs ys, vs = [.ref a, .ref b] ∧ Sq K f H1 a xs ∧ Sq K g H1 b ys ∧ R (Itz2 K f g a b) H1
theorem pi_zip2 {X : Cx} {e e2 : Expr} {ta : TA} {p pos tpos : Pos} {elts : List Expr} {kk : Nat} (hg : Gl X "zip") (hm : X.mg "zip" = none) (ha : PA X [e, e2] ta)
    (hs : starEach [e, e2] X.env = (false, eval e X.env) :: starEach [e2] X.env := by rfl) (hpl : (backTo pos (starEach [e2] X.env)).any (·.1) = false := by rfl) :
    PI X (.Tuple elts kk tpos) (.Call (.Name "zip" p) [e, e2] [] pos) (iZip2 X.K ta) := by
  refine ⟨fun pins s σ H R I h => ?_⟩
  refine PyProof.Rows.Call_ (ld_blt I hg hm PyProof.Rows.boot_zip (PyProof.Rows.callWith_type1 (thn (ha.run pos pins s σ H _ I h) fun us s1 ⟨vs, H1, I1, r1, q1⟩ => ?_) hs hpl))
  obtain ⟨f, g, a, b, xs, ys, ex, hqx, hqy, q⟩ := q1
  subst ex
  cases r1 with
  | cons r rr =>
    cases rr with
    | cons r' rr =>
      cases rr
      cases r
      cases r'
      obtain ⟨its, rv, p1, la⟩ := inv_q I1 hqx
      obtain ⟨its2, rv2, p2, lb⟩ := inv_q I1 hqy
      refine zip_begins2 (begins_q f a its.toArray) (begins_q g b its2.toArray) p1 p2 fun h' hz hTI hTO h1 h2 hsz hk => wpAny_pyIter_zip hz ?_
      have I2 : Inv X pins σ H1 { s1 with heap := h' } := I1.kept (t' := s1.toks) hk
      have S := zip_sep2 (N := s1.heap.objs.size) (fp1 := [a]) (fp2 := [b]) (fun c hc => by rw [List.mem_singleton.mp hc]; exact la) (fun c hc => by rw [List.mem_singleton.mp hc]; exact lb)
      refine ⟨s1.heap.objs.size + 4, [s1.heap.objs.size + 4, s1.heap.objs.size + 2, s1.heap.objs.size + 3, s1.heap.objs.size, s1.heap.objs.size + 1], _, _, H1, rfl, I2, turn_zip2 S (Nat.ne_of_lt la) (Nat.ne_of_lt (Nat.lt_succ_of_lt lb)), ⟨hz, hTI, ⟨_, _, hTO⟩, objQ_is f h1, objQ_is g h2⟩, fun c hcm => ?_, q⟩
      have e' : c = s1.heap.objs.size + 4 ∨ c = s1.heap.objs.size + 2 ∨ c = s1.heap.objs.size + 3 ∨ c = s1.heap.objs.size ∨ c = s1.heap.objs.size + 1 := by simpa using hcm
      have hle : s1.heap.objs.size ≤ c := by
        rcases e' with z | z | z | z | z
        · rw [z]; exact Nat.le_add_right _ _
        · rw [z]; exact Nat.le_add_right _ _
        · rw [z]; exact Nat.le_add_right _ _
        · rw [z]; exact Nat.le_refl _
        · rw [z]; exact Nat.le_add_right _ _
      exact I1.fpOk hle (I1.hok.fresh hle)
/-! ### zip of three -/
end DL

/-! enumerate and zip: the readings -/
namespace DL
open PySem PySem.Spec L2
/-- a list or tuple that stays from here on -/
def frzD (η : Hd) : D → Option (List D × Hd)
  | .tup l => some (l, η)
  | .ref r => match η.get r with
    | some (.lst l) => some (l, frzAt r l η)
    | some (.frz l) => some (l, η)
    | _ => none
  | _ => none
def Held (W : Wl) (f : Bool) (a : Addr) (l : List D) (vs : List V) : Prop := RelDs W l vs ∧ (f = false ∧ W.H a = some (.tup vs) ∨ f = true ∧ ∃ q, W.η.get q = some (.frz l) ∧ a = W.μ q ∧ W.H a = some (.lst vs))
section
variable {X : Cx} {N : Nm} {E : XK} {K : PySem.W.Frag} {W Wf W1 : Wl} {f : Bool} {a : Addr} {l : List D} {vs : List V}
theorem Held.sq (h : Held W f a l vs) (x : Sty W W1) : Sq K f W1.H a vs := by
  obtain ⟨_, ⟨rfl, h⟩ | ⟨rfl, q, h1, rfl, h3⟩⟩ := h
  · exact SqT.of (x.tx.tp _ _ h)
  · exact SqL.of (x.fz q l _ h1 h3)
theorem Held.rel (h : Held W f a l vs) (x : Sty W W1) : RelDs W1 l vs := h.1.tx x.tx
theorem Held.id (h : Held W f a l vs) (o : W.Ok K N.toNames) : Sq K f W.H a vs := h.sq ((Ext.refl W).sty o)
theorem frz_held {d : D} {v : V} {η' : Hd} (o : W.Ok K N.toNames) (r : RelD W d v) (h : frzD W.η d = some (l, η')) : Ext W ⟨W.μ, η', W.H⟩ ∧ Wl.Ok K N.toNames ⟨W.μ, η', W.H⟩ ∧ (∃ f a vs, v = .ref a ∧ Held ⟨W.μ, η', W.H⟩ f a l vs) ∧ ∀ f' a' l' vs', Held W f' a' l' vs' → Held ⟨W.μ, η', W.H⟩ f' a' l' vs' := by
  cases d with
  | tup l0 =>
    cases h
    obtain ⟨a, vs, rfl, hs, rs⟩ := relTup r
    exact ⟨Ext.refl W, o, ⟨false, a, vs, rfl, rs, .inl ⟨rfl, hs⟩⟩, fun _ _ _ _ h => h⟩
  | ref q =>
    simp only [frzD] at h
    cases e : W.η.get q with
    | none => rw [e] at h; cases h
    | some c =>
      rw [e] at h
      rw [relRef r]
      cases c with
      | lst l0 =>
        cases h
        obtain ⟨vs, h1, h2, h3⟩ := o.cell q _ e
        obtain ⟨xf, of⟩ := o.freeze e
        have gq : (frzAt q l W.η).get q = some (.frz l) := by
          unfold frzAt
          rw [Hd.get_set, if_pos rfl, e]; rfl
        refine ⟨xf, of, ⟨true, _, vs, rfl, h2.mono o xf, .inr ⟨rfl, q, gq, rfl, h1⟩⟩, fun f' a' l' vs' hh => ?_⟩
        obtain ⟨r1, hh⟩ := hh
        refine ⟨r1.mono o xf, ?_⟩
        rcases hh with ⟨e1, h⟩ | ⟨e1, p, g1, g2, g3⟩
        · exact .inl ⟨e1, h⟩
        · refine .inr ⟨e1, p, ?_, g2, g3⟩
          show (frzAt q l W.η).get p = some (.frz l')
          unfold frzAt
          have ne : p ≠ q := fun z => by rw [z, e] at g1; cases g1
          rw [Hd.get_set, if_neg ne]; exact g1
      | frz l0 =>
        cases h
        obtain ⟨vs, h1, h2, h3⟩ := o.cell q _ e
        exact ⟨Ext.refl W, o, ⟨true, _, vs, rfl, h2, .inr ⟨rfl, q, e, rfl, h1⟩⟩, fun _ _ _ _ h => h⟩
      | _ => cases h
  | _ => cases h
/-! ### enumerate -/
/-! ### zip of two -/
def zipD2 : List D → List D → List D
  | a :: as, b :: bs => .tup [a, b] :: zipD2 as bs
  | _, _ => []
theorem zipD2_nil : ∀ (b : List D), zipD2 [] b = []
  | [] => rfl
  | _ :: _ => rfl
theorem zipD2_nil' : ∀ (b : List D), zipD2 b [] = []
  | [] => rfl
  | _ :: _ => rfl
theorem zipD2_len : ∀ (a b : List D), (zipD2 a b).length = min a.length b.length
  | [], b => by rw [zipD2_nil]; simp
  | a :: as, [] => by rw [zipD2_nil']; simp
  | a :: as, b :: bs => by rw [zipD2, List.length_cons, zipD2_len as bs, List.length_cons, List.length_cons]; omega
theorem zipD2_get : ∀ (a b : List D) (k : Nat) (x y : D), a[k]? = some x → b[k]? = some y → (zipD2 a b)[k]? = some (.tup [x, y])
  | [], _, k, x, y, h, _ => by simp at h
  | _ :: _, [], k, x, y, _, h => by simp at h
  | a :: as, b :: bs, 0, x, y, h, h' => by simp at h h'; subst h h'; rfl
  | a :: as, b :: bs, k + 1, x, y, h, h' => by
    show (zipD2 as bs)[k]? = _
    exact zipD2_get as bs k x y (by simpa using h) (by simpa using h')
theorem walkD_zip2 {g : Bool} {b : Addr} {l2 : List D} {vs2 : List V} (h : Held Wf f a l vs) (h2 : Held Wf g b l2 vs2) : WalkD K N Wf (zipD2 l l2) (Itz2 K f g a b) := by
  have hl := h.1.length
  have hl2 := h2.1.length
  refine ⟨fun W1 i x o hi => ?_, fun W1 x o => ?_, fun W1 i y H' x o hi hy => ?_⟩
  · rw [zipD2_len] at hi
    exact ⟨vs, vs2, vs[i]'(by omega), vs2[i]'(by omega), h.sq x, h2.sq x, by simp [show i < vs.length by omega], by simp [show i < vs2.length by omega]⟩
  · rw [zipD2_len]; exact ⟨vs, vs2, h.sq x, h2.sq x, by omega, by omega, by omega⟩
  · obtain ⟨T, y0, y1, rfl, hT, rfl, hy, hy1⟩ := hy
    obtain ⟨d, e3, e4⟩ := (h.rel x).get (hy vs (h.sq x))
    obtain ⟨d1, e5, e6⟩ := (h2.rel x).get (hy1 vs2 (h2.sq x))
    obtain ⟨x2, o2⟩ := o.lay (ob := .tup [y0, y1]) hT
    refine ⟨W1.lay T (.tup [y0, y1]), .tup [d, d1], zipD2_get l l2 i d d1 e3 e5, x2, o2, rfl, rfl, ?_⟩
    rw [RelD]
    exact ⟨T, _, rfl, upd_same, .cons (e4.mono o x2) (.cons (e6.mono o x2) .nil)⟩
def ciZip2 (a : CA) : CI := fun σ η k kx => a σ η (fun ds η1 => match ds with
  | [d, e] => match frzD η1 d with
    | some (l, η2) => match frzD η2 e with
      | some (l2, η3) => k ⟨zipD2 l l2, none⟩ η3
      | none => false
    | none => false
  | _ => false) kx
theorem ji_zip2 {e e2 : Expr} {ca : CA} {p pos tpos : Pos} {elts : List Expr} {kk : Nat} (hg : Gl X "zip") (hm : X.mg "zip" = none) (ha : JA X N E [e, e2] ca)
    (hs : starEach [e, e2] X.env = (false, eval e X.env) :: starEach [e2] X.env := by rfl) (hpl : (backTo pos (starEach [e2] X.env)).any (·.1) = false := by rfl) :
    JI X N E (.Tuple elts kk tpos) (.Call (.Name "zip" p) [e, e2] [] pos) (ciZip2 ca) :=
  PI.imp (pi_zip2 hg hm ha hs hpl) fun σ H R q => by
    obtain ⟨W, σd, k, kx, rfl, o, s, h, hk, hx⟩ := q
    refine tAr.bind o s hx h fun W1 ds vs x1 o1 r1 s1 hx1 h1 => ?_
    match ds, r1, h1 with
    | [d, d'], r1, h1 =>
      obtain ⟨v, u, rfl, r, r'⟩ := rel2 r1
      simp only at h1
      cases e : frzD W1.η d with
      | none => rw [e] at h1; cases h1
      | some p =>
        obtain ⟨l, η2⟩ := p
        rw [e] at h1
        simp only at h1
        obtain ⟨x2, o2, ⟨f, a, vs, rfl, hh⟩, _⟩ := frz_held o1 r e
        cases e' : frzD η2 d' with
        | none => rw [e'] at h1; cases h1
        | some p =>
          obtain ⟨l2, η3⟩ := p
          rw [e'] at h1
          obtain ⟨x3, o3, ⟨g, b, vs2, rfl, hh2⟩, up⟩ := frz_held o2 (r'.mono o1 x2) e'
          have hh' := up _ _ _ _ hh
          exact ⟨f, g, a, b, vs, vs2, rfl, hh'.id o3, hh2.id o3, hk ⟨W1.μ, η3, W1.H⟩ ⟨zipD2 l l2, none⟩ _ (x1.trans o o1 (x2.trans o1 o2 x3)) o3 (fun r l e => nomatch e) (walkD_zip2 hh' hh2) h1⟩
    | [], _, h1 => cases h1
    | [_], _, h1 => simp at h1
    | _ :: _ :: _ :: _, _, h1 => simp at h1
/-! ### zip of three -/
end
end DL

/-! sorted of a dict whose keys are rows of ints -/
namespace DL
open PySem PySem.Spec L2
section
variable {prog : Program} {w : World} {d : Addr} {o : Obj} {es : Array DictEntry} {ep : Nat}
end
section
variable {X : Cx} {N : Nm} {E : XK}
end
end DL

/-! any, all of a generator expression with two clauses: the body -/
namespace DL
open PySem PySem.Spec L2
/-- as LoopR, the count of turns at most B -/
def LoopB (B : Nat) (J : It) (g : TG) (tt : TT) (tb : St → Hp → (Hp → Prop) → Prop) (vs : List Nat) (σw : St) (H0 : Hp) (Fn : Hp → Prop) : Prop :=
  ∃ W : Nat → Nat → Hp → Prop, (∃ m, m ≤ B ∧ W 0 m H0) ∧ ∀ i m H, W i m H → (J.stop i H ∧ Fn H) ∨ (J.go i H ∧ ∃ Nx : Hp → Prop, (∀ H', Nx H' → ∃ m', m' < m ∧ W (i + 1) m' H') ∧
    ∀ x H', J.yld i H x H' → g x σw H' fun σ2 H2 => wipe σ2 vs = σw ∧ tt σ2 H2 fun b H3 => if b = true then tb σ2 H3 Nx else Nx H3)
section
variable {Y : Cx}
end
end DL

/-! any, all of a generator expression with two clauses: the making, the walk -/
namespace DL
open PySem PySem.Spec L2
section
variable {Y : Cx}
end
end DL

/-! any, all of a generator expression with two clauses: the rules -/
namespace DL
open PySem PySem.Spec L2
section
variable {Y : Cx} {A : Around} {p : Bool} {Fin End : Hp → Prop} {oa : Obj} {σw : L2.St} {a : Addr} {gi : Nat} {R : Result → Shared → Prop}
end
section
variable {Y : Cx} {A : Around} {oa : Obj} {σw : L2.St} {a : Addr} {gi : Nat} {R : Result → Shared → Prop} {Fin : Bool → Hp → Prop}
end
section
variable {X : Cx} {pins : List (Addr × Obj)} {σ : L2.St} {H : Hp} {s : Shared}
variable {T : Tbl} {k : Nat} {elt t0 i0 t1 i1 : Expr} {ifs0 ifs1 : List Expr} {scope : Scope} {own : List (Str × Nat)} {vs1 : List Nat} {wi wi1 : TI} {g g1 : TG} {tt tt1 : TT} {te : TE}
end
end DL

/-! any, all of a generator expression with two clauses: the readings -/
namespace DL
open PySem PySem.Spec L2
section
variable {X : Cx} {N : Nm} {E : XK}
theorem LoopB.imp {B : Nat} {J : It} {g : TG} {tt : TT} {tb : St → Hp → (Hp → Prop) → Prop} {vs : List Nat} {σw : St} {H0 : Hp} {Fn Fn' : Hp → Prop} (h : LoopB B J g tt tb vs σw H0 Fn) (f : ∀ H, Fn H → Fn' H) : LoopB B J g tt tb vs σw H0 Fn' := by
  obtain ⟨W, hs, turn⟩ := h
  refine ⟨W, hs, fun i m H w => ?_⟩
  rcases turn i m H w with ⟨stop, z⟩ | z
  · exact .inl ⟨stop, f _ z⟩
  · exact .inr z
variable {E' : XK} {k : Nat} {elt t0 i0 t1 i1 : Expr} {ifs0 ifs1 : List Expr} {scope : Scope} {own : List (Str × Nat)} {vs1 : List Nat} {ci ci1 : CI} {g g1 : CG} {t t1' : CT} {e : CE} {p pos gpos : Pos}
end
end DL

/-! a name set to a dict comprehension -/
namespace DL
open PySem PySem.Spec L2
section
variable {X : Cx}
end
section
variable {X : Cx} {N : Nm} {E : XK}
end
end DL

/-! tuples that are known to have no dict: tuple(list), t.index(i) -/
namespace DL
open PySem PySem.Spec L2 PyProof.Rows
section
variable {X : Cx} {N : Nm} {E : XK}
/-! t.index(i) -/
end
end DL

/-! cuts to one of a set of states, the cells named anew -/
namespace DL
open PySem PySem.Spec L2
def RenD (n : Nat) (ρ : Nat → Nat) (d d' : D) : Prop := (∃ r, r < n ∧ d = .ref r ∧ d' = .ref (ρ r)) ∨ (d' = d ∧ below 8 0 d = true)
structure Ren (st : SD × Hd) (σ : SD) (η : Hd) (ρ : Nat → Nat) : Prop where
  one : 1 ≤ st.2.nx
  zero : ρ 0 = 0
  inj : ∀ i j, i < st.2.nx → j < st.2.nx → ρ i = ρ j → i = j
  lt : ∀ i, i < st.2.nx → ρ i < η.nx
  len : st.1.length = σ.length
  slot : ∀ (i : Nat) (d : D), st.1[i]? = some (some d) → ∃ d', σ[i]? = some (some d') ∧ RenD st.2.nx ρ d d'
  cell : ∀ (r : Nat) (c : Cell), st.2.get r = some c → r < st.2.nx ∧ ∃ c0, η.get (ρ r) = some c0 ∧ cle 0 c0 c = true
theorem tx_any {μ μ' : Nat → Addr} {η : Hd} {cs : List (Nat × Cell)} {H : Hp} : Tx ⟨μ, ⟨0, cs⟩, H⟩ ⟨μ', η, H⟩ := ⟨Nat.zero_le _, fun r h => absurd h (Nat.not_lt_zero r), fun _ _ h => h, fun _ _ _ h => h⟩
theorem Ren.ok {K : PySem.W.Frag} {N : Names} {W0 W : Wl} {st : SD × Hd} {σd : SD} {σ : St} {ρ : Nat → Nat} (o0 : W0.Ok K N) (o : W.Ok K N) (x : Ext W0 W) (s : RelS W σd σ) (h : Ren st σd W.η ρ) (h0 : W0.η.nx ≤ 1) :
    Ext W0 ⟨fun i => W.μ (ρ i), st.2, W.H⟩ ∧ Wl.Ok K N ⟨fun i => W.μ (ρ i), st.2, W.H⟩ ∧ RelS ⟨fun i => W.μ (ρ i), st.2, W.H⟩ st.1 σ := by
  refine ⟨⟨Nat.le_trans h0 h.one, fun r hr => ?_, x.fr, x.th, fun r c e => ?_⟩, ⟨fun r c e => (h.cell r c e).1, fun r c e => ?_, fun r s c d e1 e2 e => ?_, o.tab⟩, ?_⟩
  · have z : r = 0 := by have : r < W0.η.nx := hr; omega
    subst z
    show W.μ (ρ 0) = W0.μ 0
    rw [h.zero]; exact x.mu 0 hr
  · obtain ⟨hr, c0, g1, g2⟩ := h.cell r c e
    have gm := (cle_ok (cs := []) g2 (o.cell (ρ r) c0 g1)).2
    rcases x.cs (ρ r) c0 g1 with ⟨c1, k1, k2⟩ | ⟨k1, k2⟩
    · have hl := o0.lt _ _ k1
      have z : ρ r = 0 := by omega
      have z2 : r = 0 := h.inj r 0 hr h.one (by rw [z, h.zero])
      subst z2
      rw [h.zero] at k1
      exact .inl ⟨c1, k1, fun m => k2 (gm m)⟩
    · refine .inr ⟨?_, k2⟩
      by_cases z : r = 0
      · subst z; rw [h.zero] at k1; exact k1
      · omega
  · obtain ⟨hr, c0, g1, g2⟩ := h.cell r c e
    exact ((cle_ok (cs := []) g2 (o.cell (ρ r) c0 g1)).1).tx tx_any (fun _ _ h => h)
  · obtain ⟨hr, c1, g1, _⟩ := h.cell r c e1
    obtain ⟨hs, c2, g2, _⟩ := h.cell s d e2
    exact h.inj r s hr hs (o.inj _ _ c1 c2 g1 g2 e)
  · refine ⟨h.len.trans s.len, fun i d e => ?_⟩
    obtain ⟨d', e', rd⟩ := h.slot i d e
    obtain ⟨v, r1, r2⟩ := s.get i d' e'
    refine ⟨v, r1, ?_⟩
    rcases rd with ⟨r, hr, rfl, rfl⟩ | ⟨rfl, hb⟩
    · rw [RelD] at r2 ⊢
      exact ⟨hr, r2.2⟩
    · exact (below_rel (cs := []) 8 hb r2).tx tx_any
section
variable {X : Cx} {N : Nm} {E : XK} {m : Nat}
end
end DL

/-! is None; d.get(k, x) -/
namespace DL
open PySem PySem.Spec L2
section
variable {X : Cx} {N : Nm} {E : XK}
/-! d.get(k, x) -/
end
end DL

/-! sorted(d.items()), keys and values ints -/
namespace DL
open PySem PySem.Spec L2 PyProof.Rows
section
variable {K : PySem.W.Frag} {N : Names} {W : Wl}
theorem Wl.Ok.grow (o : W.Ok K N) {H' : Hp} (g : ∀ b u, W.H b = some u → H' b = some u) : Ext W ⟨W.μ, W.η, H'⟩ ∧ Wl.Ok K N ⟨W.μ, W.η, H'⟩ := by
  have x : Ext W ⟨W.μ, W.η, H'⟩ := ⟨Nat.le_refl _, fun _ _ => rfl, fun a u h _ _ => g a u h, fun a u h t => ⟨u, g a u h, t⟩, fun r c h => .inl ⟨c, h, id⟩⟩
  exact ⟨x, o.lt, fun r c e => (o.cell r c e).mono o x (fun ob _ => g _ ob), o.inj, tabs_keep o.tab fun b u h _ => g b u h⟩
end
section
variable {X : Cx}
end
end DL

/-! d.setdefault(k, x) -/
namespace DL
open PySem PySem.Spec L2
section
variable {X : Cx}
variable {N : Nm} {E : XK}
end
end DL

/-! sorted(d, key=lambda one: (len(one), one)) -/
namespace DL
open PySem PySem.Spec PyProof.Rows L2
section
variable {prog : Program} {w : World} {A : Around} {s : Shared}
end
end DL

/-! the order of rows by (len(one), one) -/
namespace DL
open PySem PySem.Spec PyProof.Rows L2
end DL

/-! sorted(d, key=lambda one: (len(one), one)), d a dict whose keys are rows of ints -/
namespace DL
open PySem PySem.Spec L2
section
variable {X : Cx} {N : Nm} {E : XK}
end
end DL

/-! sorted(d, key=lambda one: (len(one), one)): the reading -/
namespace DL
open PySem PySem.Spec L2
section
variable {X : Cx} {N : Nm} {E : XK}
end
end DL

/-! sorted(d.items()): the reading -/
namespace DL
open PySem PySem.Spec L2 PyProof.Rows
section
variable {X : Cx} {N : Nm} {E : XK}
end
end DL

/-! cuts to one of a set of states, the cells named anew, cells that hold cells -/
namespace DL
open PySem PySem.Spec L2
def RenDs (n : Nat) (ρ : Nat → Nat) : List D → List D → Prop
  | [], l => l = []
  | d :: t, l => ∃ d' t', l = d' :: t' ∧ RenD n ρ d d' ∧ RenDs n ρ t t'
def RenFs (n : Nat) (ρ : Nat → Nat) : List (Nat × D) → List (Nat × D) → Prop
  | [], l => l = []
  | (k, d) :: t, l => ∃ d' t', l = (k, d') :: t' ∧ RenD n ρ d d' ∧ RenFs n ρ t t'
def RenKv (n : Nat) (ρ : Nat → Nat) : List (D × D) → List (D × D) → Prop
  | [], l => l = []
  | (k, d) :: t, l => ∃ d' t', l = (k, d') :: t' ∧ RenD n ρ d d' ∧ RenKv n ρ t t'
def RenC (n : Nat) (ρ : Nat → Nat) (c c0 : Cell) : Prop := cle 0 c0 c = true ∨ (∃ l l0, c = .lst l ∧ c0 = .lst l0 ∧ RenDs n ρ l l0) ∨ (∃ k l l0, c = .ins k l ∧ c0 = .ins k l0 ∧ RenFs n ρ l l0) ∨ (∃ t l l0, c = .dct t l ∧ c0 = .dct t l0 ∧ RenKv n ρ l l0)
structure Ren2 (st : SD × Hd) (σ : SD) (η : Hd) (ρ : Nat → Nat) : Prop where
  one : 1 ≤ st.2.nx
  zero : ρ 0 = 0
  inj : ∀ i j, i < st.2.nx → j < st.2.nx → ρ i = ρ j → i = j
  lt : ∀ i, i < st.2.nx → ρ i < η.nx
  len : st.1.length = σ.length
  slot : ∀ (i : Nat) (d : D), st.1[i]? = some (some d) → ∃ d', σ[i]? = some (some d') ∧ RenD st.2.nx ρ d d'
  cell : ∀ (r : Nat) (c : Cell), st.2.get r = some c → r < st.2.nx ∧ ∃ c0, η.get (ρ r) = some c0 ∧ RenC st.2.nx ρ c c0
section
variable {W : Wl} {n : Nat} {ρ : Nat → Nat} {cs : List (Nat × Cell)}
theorem renD_rel {d d' : D} {v : V} (h : RenD n ρ d d') (r : RelD W d' v) : RelD ⟨fun i => W.μ (ρ i), ⟨n, cs⟩, W.H⟩ d v := by
  rcases h with ⟨r0, hr, rfl, rfl⟩ | ⟨rfl, hb⟩
  · rw [RelD] at r ⊢
    exact ⟨hr, r.2⟩
  · exact (below_rel (cs := []) 8 hb r).tx tx_any
theorem renDs_rel : ∀ {l l0 : List D} {vs : List V}, RenDs n ρ l l0 → RelDs W l0 vs → RelDs ⟨fun i => W.μ (ρ i), ⟨n, cs⟩, W.H⟩ l vs ∧ l.length = l0.length
  | [], l0, vs, h, r => by
    rw [RenDs] at h; subst h
    rw [RelDs] at r; subst r
    exact ⟨.nil, rfl⟩
  | d :: t, l0, vs, h, r => by
    rw [RenDs] at h
    obtain ⟨d', t', rfl, h1, h2⟩ := h
    rw [RelDs] at r
    obtain ⟨v, vs', rfl, r1, r2⟩ := r
    obtain ⟨q1, q2⟩ := renDs_rel h2 r2
    exact ⟨.cons (renD_rel h1 r1) q1, by simp [q2]⟩
theorem renFs_rel {N : Names} : ∀ {l l0 : List (Nat × D)} {vs : List (Str × V)}, RenFs n ρ l l0 → RelFs W N l0 vs → RelFs ⟨fun i => W.μ (ρ i), ⟨n, cs⟩, W.H⟩ N l vs ∧ l.length = l0.length
  | [], l0, vs, h, r => by
    rw [RenFs] at h; subst h
    rw [RelFs] at r; subst r
    exact ⟨by rw [RelFs], rfl⟩
  | (k, d) :: t, l0, vs, h, r => by
    rw [RenFs] at h
    obtain ⟨d', t', rfl, h1, h2⟩ := h
    rw [RelFs] at r
    obtain ⟨v, vs', rfl, r1, r2⟩ := r
    obtain ⟨q1, q2⟩ := renFs_rel h2 r2
    exact ⟨by rw [RelFs]; exact ⟨v, vs', rfl, renD_rel h1 r1, q1⟩, by simp [q2]⟩
theorem renKv_relK : ∀ {l l0 : List (D × D)} {vs : List (Key × V)}, RenKv n ρ l l0 → RelK W l0 vs → RelK ⟨fun i => W.μ (ρ i), ⟨n, cs⟩, W.H⟩ l vs ∧ l.length = l0.length
  | [], l0, vs, h, r => by
    rw [RenKv] at h; subst h
    rw [RelK] at r; subst r
    exact ⟨by rw [RelK], rfl⟩
  | (k, d) :: t, l0, vs, h, r => by
    rw [RenKv] at h
    obtain ⟨d', t', rfl, h1, h2⟩ := h
    rw [RelK] at r
    obtain ⟨k', v, vs', rfl, r0, r1, r2⟩ := r
    obtain ⟨q1, q2⟩ := renKv_relK h2 r2
    exact ⟨by rw [RelK]; exact ⟨k', v, vs', rfl, r0, renD_rel h1 r1, q1⟩, by simp [q2]⟩
theorem renKv_relT : ∀ {l l0 : List (D × D)} {vs : List (List Key × V)}, RenKv n ρ l l0 → RelT W l0 vs → RelT ⟨fun i => W.μ (ρ i), ⟨n, cs⟩, W.H⟩ l vs ∧ l.length = l0.length
  | [], l0, vs, h, r => by
    rw [RenKv] at h; subst h
    rw [RelT] at r; subst r
    exact ⟨by rw [RelT], rfl⟩
  | (k, d) :: t, l0, vs, h, r => by
    rw [RenKv] at h
    obtain ⟨d', t', rfl, h1, h2⟩ := h
    rw [RelT] at r
    obtain ⟨k', v, vs', rfl, r0, r1, r2⟩ := r
    obtain ⟨q1, q2⟩ := renKv_relT h2 r2
    exact ⟨by rw [RelT]; exact ⟨k', v, vs', rfl, r0, renD_rel h1 r1, q1⟩, by simp [q2]⟩
theorem renC_rel {K : PySem.W.Frag} {N : Names} {a : Addr} {c c0 : Cell} (h : RenC n ρ c c0) (r : RelC K N W a c0) : RelC K N ⟨fun i => W.μ (ρ i), ⟨n, cs⟩, W.H⟩ a c ∧ (c.mut = true → c0.mut = true) := by
  rcases h with h | ⟨l, l0, rfl, rfl, h⟩ | ⟨k, l, l0, rfl, rfl, h⟩ | ⟨t, l, l0, rfl, rfl, h⟩
  · obtain ⟨q1, q2⟩ := cle_ok (cs := []) h r
    exact ⟨q1.tx tx_any (fun _ _ h => h), q2⟩
  · obtain ⟨vs, r1, r2, r3⟩ := r
    obtain ⟨q1, q2⟩ := renDs_rel (cs := cs) h r2
    exact ⟨⟨vs, r1, q1, by rw [q2]; exact r3⟩, id⟩
  · obtain ⟨dx, gs, r1, r2, r3⟩ := r
    obtain ⟨q1, q2⟩ := renFs_rel (cs := cs) h r2
    exact ⟨⟨dx, gs, r1, q1, by rw [q2]; exact r3⟩, id⟩
  · cases t with
    | false =>
      obtain ⟨ps, r1, r2, r3⟩ := r
      obtain ⟨q1, q2⟩ := renKv_relK (cs := cs) h r2
      exact ⟨⟨ps, r1, q1, by rw [q2]; exact r3⟩, id⟩
    | true =>
      obtain ⟨ps, r1, r2, r3⟩ := r
      obtain ⟨q1, q2⟩ := renKv_relT (cs := cs) h r2
      exact ⟨⟨ps, r1, q1, by rw [q2]; exact r3⟩, id⟩
end
theorem Ren2.ok {K : PySem.W.Frag} {N : Names} {W0 W : Wl} {st : SD × Hd} {σd : SD} {σ : St} {ρ : Nat → Nat} (o0 : W0.Ok K N) (o : W.Ok K N) (x : Ext W0 W) (s : RelS W σd σ) (h : Ren2 st σd W.η ρ) (h0 : W0.η.nx ≤ 1) :
    Ext W0 ⟨fun i => W.μ (ρ i), st.2, W.H⟩ ∧ Wl.Ok K N ⟨fun i => W.μ (ρ i), st.2, W.H⟩ ∧ RelS ⟨fun i => W.μ (ρ i), st.2, W.H⟩ st.1 σ := by
  refine ⟨⟨Nat.le_trans h0 h.one, fun r hr => ?_, x.fr, x.th, fun r c e => ?_⟩, ⟨fun r c e => (h.cell r c e).1, fun r c e => ?_, fun r s c d e1 e2 e => ?_, o.tab⟩, ?_⟩
  · have z : r = 0 := by have : r < W0.η.nx := hr; omega
    subst z
    show W.μ (ρ 0) = W0.μ 0
    rw [h.zero]; exact x.mu 0 hr
  · obtain ⟨hr, c0, g1, g2⟩ := h.cell r c e
    have gm := (renC_rel (cs := []) g2 (o.cell (ρ r) c0 g1)).2
    rcases x.cs (ρ r) c0 g1 with ⟨c1, k1, k2⟩ | ⟨k1, k2⟩
    · have hl := o0.lt _ _ k1
      have z : ρ r = 0 := by omega
      have z2 : r = 0 := h.inj r 0 hr h.one (by rw [z, h.zero])
      subst z2
      rw [h.zero] at k1
      exact .inl ⟨c1, k1, fun m => k2 (gm m)⟩
    · refine .inr ⟨?_, k2⟩
      by_cases z : r = 0
      · subst z; rw [h.zero] at k1; exact k1
      · omega
  · obtain ⟨hr, c0, g1, g2⟩ := h.cell r c e
    exact (renC_rel (cs := st.2.cs) g2 (o.cell (ρ r) c0 g1)).1
  · obtain ⟨hr, c1, g1, _⟩ := h.cell r c e1
    obtain ⟨hs, c2, g2, _⟩ := h.cell s d e2
    exact h.inj r s hr hs (o.inj _ _ c1 c2 g1 g2 e)
  · refine ⟨h.len.trans s.len, fun i d e => ?_⟩
    obtain ⟨d', e', rd⟩ := h.slot i d e
    obtain ⟨v, r1, r2⟩ := s.get i d' e'
    exact ⟨v, r1, renD_rel rd r2⟩
section
variable {X : Cx} {N : Nm} {E : XK} {m : Nat}
noncomputable def KcP2 (S : SD × Hd → Prop) : CK := fun σ η => dec (∃ st ρ, S st ∧ Ren2 st σ η ρ)
theorem jk_cutP2 {rest : List Stmt} {c : CK} (S : SD × Hd → Prop) (h : JK X N E m rest c) (hS : ∀ st, S st → c st.1 st.2 = true) : JK X N E m rest (KcP2 S) := PSs.imp h fun Z σ H q => by
  obtain ⟨W0, W, σd, o0, h0, x, rfl, o, s, h, hk⟩ := q
  obtain ⟨st, ρ, hs, hr⟩ := @of_decide_eq_true _ (Classical.propDecidable _) h
  obtain ⟨x', o', s'⟩ := Ren2.ok o0 o x s hr h0
  exact ⟨W0, _, st.1, o0, h0, x', rfl, o', s', hS st hs, hk⟩
end
end DL

/-! a def of the dice that makes one of few cells -/
namespace DL
open PySem PySem.Spec L2
section
variable {P : Program} {w : World} {K : PySem.W.Frag} {mg : Str → Option Value} {base : Heap} {N : Nm}
end
end DL

/-! a def whose results are known for some arguments -/
namespace DL
open PySem PySem.Spec L2
section
variable {P : Program} {w : World} {K : PySem.W.Frag} {mg : Str → Option Value} {base : Heap} {N : Nm}
end
end DL

/-! a dict is walked: it is locked meanwhile -/
namespace DL
open PySem PySem.Spec L2
section
variable {K : PySem.W.Frag} {N : Names} {W W2 : Wl} {r : Nat} {t : Bool} {l : List (D × D)}
/-- what stands at a dict's address -/
def DObj (W : Wl) (t : Bool) (l : List (D × D)) (u : HO) : Prop := (t = false ∧ ∃ ps, u = .dK ps ∧ RelK W l ps ∧ l.length ≤ sizeLine) ∨ (t = true ∧ ∃ ps, u = .dT ps ∧ RelT W l ps ∧ l.length ≤ sizeLine)
theorem DObj.mono {W' : Wl} {u : HO} (o : W.Ok K N) (x : Ext W W') (h : DObj W t l u) : DObj W' t l u := by
  rcases h with ⟨rfl, ps, rfl, q, n⟩ | ⟨rfl, ps, rfl, q, n⟩
  · exact .inl ⟨rfl, ps, rfl, q.mono o x, n⟩
  · exact .inr ⟨rfl, ps, rfl, q.mono o x, n⟩
end
section
variable {X : Cx} {N : Nm} {E : XK}
end
end DL

/-! a dict with rows of rows of ints as keys: {}, d[k] = v, len(d) -/
namespace DL
open PySem PySem.Spec PyProof.Rows L2
section
variable {X : Cx} {N : Nm} {E : XK}
/-! ### keys -/
/-! ### d[k] = v -/
/-! ### len -/
/-! ### a tuple many times -/
def fRepT : F2 := fun x y η => match x with
  | .tup a => match y with
    | .int (.ofNat k) => match Nat.ble 1 a.length && (Nat.ble 2 k && (Nat.ble k 1000 && Nat.ble a.length 1000)) with
      | true => some (.tup (List.replicate k a).flatten, η)
      | false => none
    | _ => none
  | _ => none
theorem opd_repT : OpR X (binaryOp .Mult) (r2 X.K N fRepT) := OpR.imp op_repT fun x y H Q q => by
  obtain ⟨W, dx, dy, d, η', rfl, o, rx, ry, hf, hq⟩ := q
  cases dx with
  | tup a =>
    cases dy with
    | int i =>
      cases i with
      | ofNat k =>
        simp only [fRepT] at hf
        cases e : (Nat.ble 1 a.length && (Nat.ble 2 k && (Nat.ble k 1000 && Nat.ble a.length 1000))) with
        | false => rw [e] at hf; cases hf
        | true =>
          rw [e] at hf
          simp only [Option.some.injEq, Prod.mk.injEq] at hf
          obtain ⟨rfl, rfl⟩ := hf
          simp only [Bool.and_eq_true] at e
          obtain ⟨e1, e2, e3, e4⟩ := e
          have e1 := Nat.le_of_ble_eq_true e1
          have e2 := Nat.le_of_ble_eq_true e2
          have e3 := Nat.le_of_ble_eq_true e3
          have e4 := Nat.le_of_ble_eq_true e4
          obtain ⟨pa, va, rfl, sa, ra⟩ := relTup rx
          have hl := ra.length
          rw [relInt ry]
          refine ⟨pa, Int.ofNat k, va, rfl, rfl, SqT.of sa, fun z => ?_, by show (2 : Int) ≤ ((k : Nat) : Int); omega, by show ((k : Nat) : Int) ≤ 1000; omega, by omega, fun p hp => new_tup o hq hp (ra.rep k)⟩
          rw [z] at hl
          have hl : a.length = 0 := hl
          omega
      | negSucc _ => cases hf
    | _ => cases hf
  | _ => cases hf
end
end DL

/-! a def whose results are shown (not looked at) for all arguments of a kind -/
namespace DL
open PySem PySem.Spec L2
section
variable {P : Program} {w : World} {K : PySem.W.Frag} {mg : Str → Option Value} {base : Heap} {N : Nm}
end
/-! pure expressions -/
/-- the expression gives d and changes nothing -/
def Ev (A : CE) (σ : SD) (η : Hd) (d : D) : Prop := ∀ kv kx, A σ η kv kx = kv d η
def EvA (A : CA) (σ : SD) (η : Hd) (ds : List D) : Prop := ∀ kv kx, A σ η kv kx = kv ds η
theorem ev_var {σ : SD} {η : Hd} {i : Nat} {d : D} (h : σ[i]? = some (some d)) : Ev (cVar i) σ η d := fun kv kx => by unfold cVar; rw [h]
theorem ev_c {σ : SD} {η : Hd} {d : D} : Ev (cC d) σ η d := fun kv kx => rfl
theorem ev_op {σ : SD} {η : Hd} {f : F2} {A B : CE} {x y d : D} (a : Ev A σ η x) (b : Ev B σ η y) (h : f x y η = some (d, η)) : Ev (cOp f A B) σ η d := fun kv kx => by
  unfold cOp; rw [a]; rw [b]; rw [h]
theorem eva_nil {σ : SD} {η : Hd} : EvA cNil σ η [] := fun kv kx => rfl
theorem eva_cons {σ : SD} {η : Hd} {A : CE} {R : CA} {d : D} {ds : List D} (a : Ev A σ η d) (r : EvA R σ η ds) : EvA (cCons A R) σ η (d :: ds) := fun kv kx => by
  unfold cCons; rw [a]; rw [r]
theorem ev_fn {σ : SD} {η : Hd} {f : FN} {A : CA} {ds : List D} {d : D} (a : EvA A σ η ds) (h : f ds η = some (d, η)) : Ev (cFn f A) σ η d := fun kv kx => by
  unfold cFn; rw [a]; rw [h]
theorem get_set_ne {η : Hd} {r q : Nat} {c : Cell} (h : q ≠ r) : (η.set r c).get q = η.get q := by rw [Hd.get_set, if_neg h]
theorem get_set_eq {η : Hd} {r : Nat} {c c0 : Cell} (h : η.get r = some c0) : (η.set r c).get r = some c := by rw [Hd.get_set, if_pos rfl, h]; rfl
theorem get_new_ne {η : Hd} {q : Nat} {c : Cell} (h : q < η.nx) : (η.new c).get q = η.get q := by rw [Hd.get_new, if_neg (Nat.ne_of_lt h)]
theorem get_new_eq {η : Hd} {c : Cell} : (η.new c).get η.nx = some c := by rw [Hd.get_new, if_pos rfl]
end DL

/-! sorted of rows of rows of ints -/
namespace DL
open PySem PySem.Spec L2
/-! ### an order of rows by an order of their things -/
section
variable {α : Type} {lt : α → α → Bool}
end
/-! ### the machine -/
section
variable {prog : Program} {w : World} {A : Around} {E : Value → Shared → Prop} {s : Shared}
inductive Rows2 (h : Heap) : List Value → List (List Int) → Prop
  | nil : Rows2 h [] []
  | cons {x : Value} {r : List Int} {xs : List Value} {rs : List (List Int)} : IsRow h x r → Rows2 h xs rs → Rows2 h (x :: xs) (r :: rs)
theorem Rows2.len {h : Heap} {xs : List Value} {rs : List (List Int)} (a : Rows2 h xs rs) : xs.length = rs.length := by
  induction a with
  | nil => rfl
  | cons _ _ ih => simp [ih]
theorem IsRow.key {h : Heap} {a : Addr} {ns : List Int} (r : IsRow h (.ref a) ns) : IsTupleKey (intKind prog w) h ns a := by
  obtain ⟨a', o, xs, n, e, h1, h2, h3, h4⟩ := r
  cases e
  exact ⟨o, _, n, h1, h2, h3, items_of_vals h4⟩
end
end DL

/-! sorted of rows of rows of ints: the rule, the reading -/
namespace DL
open PySem PySem.Spec L2
section
variable {X : Cx} {N : Nm} {E : XK}
/-! ### read by trees -/
end
end DL

/-! isinstance(x, int), isinstance(x, tuple) -/
namespace DL
open PySem PySem.Spec L2
section
variable {X : Cx} {N : Nm} {E : XK}
end
end DL

/-! range going down by ones -/
namespace DL
open PySem PySem.Spec L2
section
variable {X : Cx} {N : Nm} {E : XK}
end
end DL

/-! what a piece of a reading does, said of all values: pure expressions, walks, heaps that grow -/
namespace DL
open PySem PySem.Spec L2
/-! ### lists told by a function -/
def tab {α : Type} (r : Nat) (f : Nat → α) : List α := (List.range r).map f
theorem tab_len {α : Type} {r : Nat} {f : Nat → α} : (tab r f).length = r := by simp [tab]
theorem tab_get {α : Type} {r k : Nat} {f : Nat → α} (h : k < r) : (tab r f)[k]? = some (f k) := by
  simp [tab, List.getElem?_range h]
theorem tab_ext {α : Type} {r : Nat} {f g : Nat → α} (h : ∀ i, i < r → f i = g i) : tab r f = tab r g := by
  unfold tab
  exact List.map_congr_left fun i hi => h i (List.mem_range.mp hi)
theorem tab_succ {α : Type} {r : Nat} {f : Nat → α} : tab (r + 1) f = tab r f ++ [f r] := by simp [tab, List.range_succ]
theorem tab_cons {α : Type} {r : Nat} {f : Nat → α} : tab (r + 1) f = f 0 :: tab r (fun i => f (i + 1)) := by
  simp [tab, List.range_succ_eq_map]
theorem tab_set {α : Type} {r k : Nat} {f : Nat → α} {v : α} : (tab r f).set k v = tab r (fun i => if i = k then v else f i) := by
  apply List.ext_getElem?
  intro i
  by_cases hi : i < r
  · rw [tab_get hi]
    by_cases e : i = k
    · subst e; rw [List.getElem?_set_self (by rw [tab_len]; exact hi), if_pos rfl]
    · rw [List.getElem?_set_ne (Ne.symm e), tab_get hi, if_neg e]
  · rw [List.getElem?_eq_none (by rw [List.length_set, tab_len]; omega), List.getElem?_eq_none (by rw [tab_len]; omega)]
abbrev iD (i : Int) : D := .int i
/-- a row of ints, rows of ints -/
def iRow (r : Nat) (f : Nat → Int) : List D := tab r (fun i => iD (f i))
theorem iRow_get {r k : Nat} {f : Nat → Int} (h : k < r) : (iRow r f)[k]? = some (iD (f k)) := tab_get h
theorem iRow_len {r : Nat} {f : Nat → Int} : (iRow r f).length = r := tab_len
/-! ### sums -/
def sumTo (t : Nat) (f : Nat → Int) : Int := match t with
  | 0 => 0
  | t + 1 => sumTo t f + f t
theorem sumTo_ext : ∀ {t : Nat} {f g : Nat → Int}, (∀ i, i < t → f i = g i) → sumTo t f = sumTo t g
  | 0, _, _, _ => rfl
  | t + 1, f, g, h => by rw [sumTo, sumTo, sumTo_ext (fun i hi => h i (by omega)), h t (by omega)]
theorem sumTo_add : ∀ {t : Nat} {f g : Nat → Int}, sumTo t (fun i => f i + g i) = sumTo t f + sumTo t g
  | 0, _, _ => rfl
  | t + 1, f, g => by simp only [sumTo, sumTo_add]; omega
theorem sumTo_zero : ∀ {t : Nat}, sumTo t (fun _ => 0) = 0
  | 0 => rfl
  | t + 1 => by rw [sumTo, sumTo_zero]; rfl
theorem sumTo_tail : ∀ {t : Nat} {f : Nat → Int}, sumTo (t + 1) f = f 0 + sumTo t (fun i => f (i + 1))
  | 0, f => by simp [sumTo]
  | t + 1, f => by rw [sumTo, sumTo_tail]; rw [sumTo]; omega
/-! ### pure expressions -/
section
variable {σ : SD} {η : Hd} {A B : CE}
theorem ev_ixT {l : List D} {k : Nat} {d : D} (a : Ev A σ η (.tup l)) (b : Ev B σ η (.int (Int.ofNat k))) (h : l[k]? = some d) : Ev (cOp fIx A B) σ η d := ev_op a b (by
  show (match l[k]? with | some d => some (d, η) | none => none) = _
  rw [h])
theorem list_cases {r : Nat} {l : List D} (h : η.list r = some l) : η.get r = some (.lst l) ∨ η.get r = some (.frz l) := by
  unfold Hd.list at h
  split at h
  · rename_i e; cases h; exact .inl e
  · rename_i e; cases h; exact .inr e
  · cases h
theorem list_lst {r : Nat} {l : List D} (h : η.get r = some (.lst l)) : η.list r = some l := by unfold Hd.list; rw [h]
theorem list_frz {r : Nat} {l : List D} (h : η.get r = some (.frz l)) : η.list r = some l := by unfold Hd.list; rw [h]
theorem ev_ixL {r : Nat} {l : List D} {k : Nat} {d : D} (a : Ev A σ η (.ref r)) (hl : η.list r = some l) (b : Ev B σ η (.int (Int.ofNat k))) (h : l[k]? = some d) : Ev (cOp fIx A B) σ η d := ev_op a b (by
  have e : (match atD l (Int.ofNat k) with | some d => some (d, η) | none => none) = some (d, η) := by show (match l[k]? with | some d => some (d, η) | none => none) = _; rw [h]
  rcases list_cases hl with q | q
  · simp only [fIx, q]; exact e
  · simp only [fIx, q]; exact e)
theorem ev_mulL {i j : Int} (a : Ev A σ η (.int i)) (b : Ev B σ η (.int j)) (h : i.natAbs ≤ 1000000000000000000) : Ev (cOp fMul A B) σ η (.int (i * j)) := ev_op a b (by
  have : mulOk i j = true := by unfold mulOk; rw [Nat.ble_eq_true_of_le h, Bool.true_or]
  simp only [fMul, fOr, fI2c, this, imul])
theorem ev_mulR {i j : Int} (a : Ev A σ η (.int i)) (b : Ev B σ η (.int j)) (h : j.natAbs ≤ 1000000000000000000) : Ev (cOp fMul A B) σ η (.int (i * j)) := ev_op a b (by
  have : mulOk i j = true := by unfold mulOk; rw [Nat.ble_eq_true_of_le h, Bool.or_true]
  simp only [fMul, fOr, fI2c, this, imul])
theorem ev_add {i j : Int} (a : Ev A σ η (.int i)) (b : Ev B σ η (.int j)) : Ev (cOp fAdd A B) σ η (.int (i + j)) := ev_op a b rfl
theorem ev_sub {i j : Int} (a : Ev A σ η (.int i)) (b : Ev B σ η (.int j)) : Ev (cOp fSub A B) σ η (.int (i - j)) := ev_op a b rfl
theorem ev_mod {i j : Int} (a : Ev A σ η (.int i)) (b : Ev B σ η (.int j)) (h : 0 < j) : Ev (cOp fMod A B) σ η (.int (i % j)) := ev_op a b (by
  have : modOk i j = true := by
    match j, h with
    | .ofNat (n + 1), _ => rfl
    | .ofNat 0, h => exact absurd h (by decide)
    | .negSucc n, h => exact absurd h (by simp)
  simp only [fMod, fI2c, this, imod])
theorem ieq_dec (i j : Int) : ieq i j = decide (i = j) := by
  rw [ieq_eq]
  by_cases h : i = j
  · subst h; simp
  · simp [h]
theorem ev_neI {i j : Int} (a : Ev A σ η (.int i)) (b : Ev B σ η (.int j)) : Ev (cOp fNe A B) σ η (.bl (!decide (i = j))) := ev_op a b (by
  have : eqF η (.int i) (.int j) = some (decide (i = j)) := by rw [← ieq_dec]; rfl
  simp only [fNe, this])
theorem ev_lenT {l : List D} (a : Ev A σ η (.tup l)) : Ev (cFn (f1 gLenA) (cCons A cNil)) σ η (.int (Int.ofNat l.length)) := ev_fn (eva_cons a eva_nil) rfl
theorem ev_lenL {r : Nat} {l : List D} (a : Ev A σ η (.ref r)) (h : η.list r = some l) : Ev (cFn (f1 gLenA) (cCons A cNil)) σ η (.int (Int.ofNat l.length)) := ev_fn (eva_cons a eva_nil) (by
  rcases list_cases h with q | q
  · simp only [f1, gLenA, q, gLen]
  · simp only [f1, gLenA, q, gLen])
theorem ev_neg {i : Int} (a : Ev A σ η (.int i)) : Ev (cNeg A) σ η (.int (Int.neg i)) := fun kv kx => by unfold cNeg; rw [a]
end
/-! ### what the statements are -/
section
variable {σ : SD} {η : Hd} {K : KS} {kv : KV} {kx : KX}
theorem w_seq {a b : CS} : sSeq a b σ η K = a σ η { K with nx := fun σ1 η1 => b σ1 η1 K } := rfl
theorem w_set {c : CE} {i : Nat} : sAsg c (gNm i) σ η K = c σ η (fun d η1 => K.nx (σ.set i (some d)) η1) K.xc := rfl
theorem w_sub {c a b : CE} : sAsg c (gSb a b) σ η K = c σ η (fun d η1 => a σ η1 (fun x η2 => b σ η2 (fun y η3 => match fSet x y d η3 with
  | some η4 => K.nx σ η4
  | none => false) K.xc) K.xc) K.xc := rfl
theorem w_ret {c : CE} : sRet c σ η K = c σ η K.rt K.xc := rfl
theorem w_fn1 {f : FN} {A : CE} : cFn f (cCons A cNil) σ η kv kx = A σ η (fun d η1 => match f [d] η1 with
  | some (d, η2) => kv d η2
  | none => false) kx := rfl
theorem w_call1 {F : CF} {A : CE} : cCall F (cCons A cNil) σ η kv kx = A σ η (fun d η1 => F [d] η1 kv kx) kx := rfl
theorem w_call2 {F : CF} {A B : CE} : cCall F (cCons A (cCons B cNil)) σ η kv kx = A σ η (fun x η1 => B σ η1 (fun y η2 => F [x, y] η2 kv kx) kx) kx := rfl
theorem w_call3 {F : CF} {A B C : CE} : cCall F (cCons A (cCons B (cCons C cNil))) σ η kv kx = A σ η (fun x η1 => B σ η1 (fun y η2 => C σ η2 (fun z η3 => F [x, y, z] η3 kv kx) kx) kx) kx := rfl
theorem w_par {i j : Nat} {A B : CE} : sPar i j (cCons A (cCons B cNil)) σ η K = A σ η (fun x η1 => B σ η1 (fun y η2 => K.nx ((σ.set i (some x)).set j (some y)) η2) K.xc) K.xc := rfl
theorem w_if {t : CT} {a b : CS} : sIf t a b σ η K = t σ η (fun x η1 => match x with
  | true => a σ η1 K
  | false => b σ η1 K) K.xc := rfl
theorem w_tst {A : CE} {k : Bool → Hd → Bool} : cTst A σ η k kx = A σ η (fun x η1 => match x with
  | .bl b => k b η1
  | _ => false) kx := rfl
theorem w_op {f : F2} {A B : CE} : cOp f A B σ η kv kx = A σ η (fun x η1 => B σ η1 (fun y η2 => match f x y η2 with
  | some (d, η3) => kv d η3
  | none => false) kx) kx := rfl
theorem w_nm {i : Nat} {d : D} {k : SD → Hd → Bool} : gNm i d σ η k kx = k (σ.set i (some d)) η := rfl
theorem w_nil : sNil σ η K = K.nx σ η := rfl
theorem w_def1 {m : Nat} {b : CS} {x : D} : cDef 1 m b [x] η kv kx = b (startD 1 m [x]) η ⟨fun _ η1 => kv .non η1, kv, fun _ _ => false, fun _ _ => false, kx⟩ := rfl
theorem w_def2 {m : Nat} {b : CS} {x y : D} : cDef 2 m b [x, y] η kv kx = b (startD 2 m [x, y]) η ⟨fun _ η1 => kv .non η1, kv, fun _ _ => false, fun _ _ => false, kx⟩ := rfl
theorem w_def3 {m : Nat} {b : CS} {x y z : D} : cDef 3 m b [x, y, z] η kv kx = b (startD 3 m [x, y, z]) η ⟨fun _ η1 => kv .non η1, kv, fun _ _ => false, fun _ _ => false, kx⟩ := rfl
theorem w_var {i : Nat} {d : D} (h : σ[i]? = some (some d)) : cVar i σ η kv kx = kv d η := ev_var h kv kx
theorem w_c {d : D} : cC d σ η kv kx = kv d η := rfl
end
/-! ### walks -/
/-- what is walked -/
def Itw (i : CI) (σ : SD) (η : Hd) (l : List D) (η1 : Hd) : Prop := ∀ k kx, i σ η k kx = k ⟨l, none⟩ η1
section
variable {σ : SD} {η : Hd} {A B C : CE}
theorem eva1 {x : D} (a : Ev A σ η x) : EvA (cCons A cNil) σ η [x] := eva_cons a eva_nil
theorem eva2 {x y : D} (a : Ev A σ η x) (b : Ev B σ η y) : EvA (cCons A (cCons B cNil)) σ η [x, y] := eva_cons a (eva1 b)
theorem it_r1 {j : Nat} (a : Ev A σ η (.int (Int.ofNat j))) (h : j ≤ 1000000000000000000) : Itw (ciR1 (cCons A cNil)) σ η (tab j (fun i => iD (Int.ofNat i))) η := fun k kx => by
  have gen : ∀ (n : Nat) (i : Nat), rangeD n (Int.ofNat i) = tab n (fun q => iD (Int.ofNat (i + q))) := by
    intro n
    induction n with
    | zero => intro i; rfl
    | succ n ih =>
      intro i
      rw [rangeD, tab_cons]
      have := ih (i + 1)
      rw [show Int.ofNat i + 1 = Int.ofNat (i + 1) from rfl, this]
      congr 1
      exact tab_ext fun q _ => by rw [show i + 1 + q = i + (q + 1) by omega]
  unfold ciR1
  rw [eva1 a]
  have h1 : rOk (Int.ofNat j) = true := Nat.ble_eq_true_of_le h
  have e := gen j 0
  simp only [Nat.zero_add] at e
  show (match rOk (Int.ofNat j) with | true => k ⟨rangeD (Int.ofNat j).toNat 0, none⟩ η | false => false) = _
  rw [h1, show (Int.ofNat j).toNat = j from rfl, show (0 : Int) = Int.ofNat 0 from rfl, e]
/-- the heap behind a list that is read alone from here on -/
def frzd (η : Hd) (v : D) : Hd := match v with
  | .ref r => match η.get r with
    | some (.lst l) => frzAt r l η
    | _ => η
  | _ => η
/-- what a value has, read as a row -/
def rowAt (η : Hd) (v : D) : Option (List D) := match v with
  | .tup l => some l
  | .ref r => η.list r
  | _ => none
theorem frzD_row {v : D} {l : List D} (h : rowAt η v = some l) : frzD η v = some (l, frzd η v) := by
  unfold rowAt at h
  split at h
  · cases h; rfl
  · rename_i r
    rcases list_cases h with q | q
    · simp only [frzD, frzd, q]
    · simp only [frzD, frzd, q]
  · cases h
theorem it_zip {v u : D} {l m : List D} (a : Ev A σ η v) (b : Ev B σ η u) (h : rowAt η v = some l) (h2 : rowAt (frzd η v) u = some m) : Itw (ciZip2 (cCons A (cCons B cNil))) σ η (zipD2 l m) (frzd (frzd η v) u) := fun k kx => by
  unfold ciZip2
  rw [eva2 a b]
  simp only [frzD_row h, frzD_row h2]
end
theorem zipD2_tab : ∀ {r : Nat} {f g : Nat → D}, zipD2 (tab r f) (tab r g) = tab r (fun q => .tup [f q, g q])
  | 0, _, _ => rfl
  | r + 1, f, g => by rw [tab_cons, tab_cons, zipD2, zipD2_tab, tab_cons]
/-! ### heaps that grow: lists of S may be read alone from now on -/
def Gr (S : List Nat) (η η' : Hd) : Prop := η.nx ≤ η'.nx ∧ ∀ q, q < η.nx → η'.get q = η.get q ∨ (q ∈ S ∧ ∃ l, η.get q = some (.lst l) ∧ η'.get q = some (.frz l))
section
variable {S : List Nat} {η η1 η2 : Hd}
theorem Gr.refl (S : List Nat) (η : Hd) : Gr S η η := ⟨Nat.le_refl _, fun _ _ => .inl rfl⟩
theorem Gr.trans (a : Gr S η η1) (b : Gr S η1 η2) : Gr S η η2 := ⟨Nat.le_trans a.1 b.1, fun q h => by
  rcases b.2 q (Nat.lt_of_lt_of_le h a.1) with e | ⟨hs, l, e1, e2⟩
  · rcases a.2 q h with f | ⟨hs, l, f1, f2⟩
    · exact .inl (e.trans f)
    · exact .inr ⟨hs, l, f1, e.trans f2⟩
  · rcases a.2 q h with f | ⟨_, l', f1, f2⟩
    · exact .inr ⟨hs, l, f.symm.trans e1, e2⟩
    · rw [e1] at f2; cases f2⟩
theorem Gr.sub {T : List Nat} (a : Gr S η η1) (h : ∀ q ∈ S, q < η.nx → q ∈ T) : Gr T η η1 := ⟨a.1, fun q hq => (a.2 q hq).imp id fun ⟨hs, r⟩ => ⟨h q hs hq, r⟩⟩
theorem Gr.list (a : Gr S η η1) {q : Nat} {l : List D} (h : q < η.nx) (e : η.list q = some l) : η1.list q = some l := by
  rcases a.2 q h with f | ⟨_, l', f1, f2⟩
  · rcases list_cases e with g | g
    · exact list_lst (f.trans g)
    · exact list_frz (f.trans g)
  · rcases list_cases e with g | g
    · rw [f1] at g; cases g; exact list_frz f2
    · rw [f1] at g; cases g
theorem Gr.get (a : Gr S η η1) {q : Nat} {c : Cell} (h : q < η.nx) (e : η.get q = some c) (hc : ∀ l, c ≠ .lst l) : η1.get q = some c := by
  rcases a.2 q h with f | ⟨_, l', f1, f2⟩
  · exact f.trans e
  · rw [e] at f1; exact absurd (Option.some.inj f1) (hc l')
theorem Gr.keep (a : Gr S η η1) {q : Nat} (h : q < η.nx) (hs : q ∉ S) : η1.get q = η.get q := by
  rcases a.2 q h with f | ⟨z, _⟩
  · exact f
  · exact absurd z hs
theorem Gr.new {c : Cell} : Gr S η (η.new c) := ⟨Nat.le_succ _, fun q h => .inl (get_new_ne h)⟩
theorem Gr.bump : Gr S η (Hd.bump η) := ⟨Nat.le_succ _, fun q h => .inl rfl⟩
theorem Gr.add {g : Nat} {c : Cell} {η0 : Hd} (h : η0.nx ≤ g) (a : Gr S η0 η) : Gr S η0 (η.add g c) := ⟨a.1, fun q hq => by
  rw [Hd.get_add, if_neg (by omega)]; exact a.2 q hq⟩
theorem Gr.frzd {v : D} (h : ∀ r l, v = .ref r → η.get r = some (.lst l) → r ∈ S) : Gr S η (frzd η v) := by
  unfold DL.frzd
  split
  · rename_i r
    split
    · rename_i l e
      refine ⟨Nat.le_refl _, fun q hq => ?_⟩
      show (η.set r (.frz l)).get q = _ ∨ _
      by_cases z : q = r
      · subst z
        exact .inr ⟨h q l rfl e, l, e, get_set_eq e⟩
      · exact .inl (get_set_ne z)
    · exact Gr.refl _ _
  · exact Gr.refl _ _
theorem frzd_nx {v : D} : (DL.frzd η v).nx = η.nx := by
  unfold DL.frzd
  split
  · split
    · rfl
    · rfl
  · rfl
theorem Gr.row (a : Gr S η η1) {v : D} {l : List D} (h : ∀ r, v = .ref r → r < η.nx) (e : rowAt η v = some l) : rowAt η1 v = some l := by
  unfold rowAt at e ⊢
  split at e
  · exact e
  · rename_i r; exact a.list (h r rfl) e
  · cases e
end
/-! ### comprehensions -/
/-- each item's element is pure -/
theorem lcD_ev {g : CG} {e : CE} {σ : SD} {η : Hd} {k : List D → Hd → Bool} (f : Nat → D) (it : Nat → D) : ∀ (r : Nat) (n : Nat) (acc : List D), r ≤ n → (∀ i, i < r → ∃ σ1, (∀ K kx, g (it i) σ η K kx = K σ1 η) ∧ Ev e σ1 η (f i)) →
    lcD g ctYes e σ k (tab r it) n acc η = k (acc.reverse ++ tab r f) η
  | 0, n, acc, _, _ => by simp [tab, lcD]
  | r + 1, n, acc, hn, h => by
    obtain ⟨n, rfl⟩ : ∃ m, n = m + 1 := ⟨n - 1, by omega⟩
    obtain ⟨σ1, h1, h2⟩ := h 0 (by omega)
    rw [tab_cons, lcD, h1]
    show e σ1 η _ kF = _
    rw [h2]
    rw [lcD_ev (fun i => f (i + 1)) (fun i => it (i + 1)) r n (f 0 :: acc) (by omega) (fun i hi => h (i + 1) (by omega))]
    rw [tab_cons, List.reverse_cons, List.append_assoc]
    rfl
theorem lc_ev {i : CI} {g : CG} {e : CE} {σ : SD} {η η1 : Hd} {vs : List Nat} {r : Nat} {f it : Nat → D} {kv : KV} {kx : KX} (hi : Itw i σ η (tab r it) η1) (hr : r ≤ 1000000) (h : ∀ i, i < r → ∃ σ1, (∀ K kx, g (it i) (wipeD σ vs) (Hd.bump η1) K kx = K σ1 (Hd.bump η1)) ∧ Ev e σ1 (Hd.bump η1) (f i)) :
    cLc i g ctYes e vs σ η kv kx = kv (.ref η1.nx) ((Hd.bump η1).add η1.nx (.lst (tab r f))) := by
  unfold cLc
  rw [hi]
  show lcD g ctYes e (wipeD σ vs) _ (tab r it) line1 [] (Hd.bump η1) = _
  rw [lcD_ev f it r line1 [] (by unfold line1; omega) h]
  rfl
/-- elements that let the heap go on within Inv -/
theorem lcD_inv {g : CG} {e : CE} {σ : SD} {k : List D → Hd → Bool} {Inv : Hd → Prop} (f : Nat → D) (it : Nat → D) : ∀ (r : Nat) (n : Nat) (acc : List D) (η : Hd), r ≤ n → Inv η →
    (∀ i, i < r → ∀ η, Inv η → ∀ kv : KV, (∀ η', Inv η' → kv (f i) η' = true) → g (it i) σ η (fun σ1 η1 => e σ1 η1 kv kF) kF = true) → (∀ η', Inv η' → k (acc.reverse ++ tab r f) η' = true) → lcD g ctYes e σ k (tab r it) n acc η = true
  | 0, n, acc, η, _, hI, _, hk => by have := hk η hI; simpa [tab, lcD] using this
  | r + 1, n, acc, η, hn, hI, h, hk => by
    obtain ⟨n, rfl⟩ : ∃ m, n = m + 1 := ⟨n - 1, by omega⟩
    rw [tab_cons, lcD]
    refine h 0 (by omega) η hI (fun y η3 => lcD g ctYes e σ k (tab r (fun i => it (i + 1))) n (y :: acc) η3) fun η' hI' => ?_
    refine lcD_inv (fun i => f (i + 1)) (fun i => it (i + 1)) r n (f 0 :: acc) η' (by omega) hI' (fun i hi => h (i + 1) (by omega)) fun η2 hI2 => ?_
    have := hk η2 hI2
    rw [tab_cons] at this
    rw [List.reverse_cons, List.append_assoc]
    exact this
end DL
namespace DL
open PySem PySem.Spec L2
section
variable {σ : SD} {η : Hd} {K : KS} {kv : KV} {kx : KX}
theorem w_or {a b : CT} {k : Bool → Hd → Bool} : ctOr a b σ η k kx = a σ η (fun x η1 => match x with
  | true => k true η1
  | false => b σ η1 k kx) kx := rfl
theorem w_tup2 {A B : CE} (h : Nat.ble 2 line = true) : cTup (cCons A (cCons B cNil)) σ η kv kx = A σ η (fun x η1 => B σ η1 (fun y η2 => kv (.tup [x, y]) η2) kx) kx := rfl
theorem w_asg {c : CE} {g : CG} : sAsg c g σ η K = c σ η (fun d η1 => g d σ η1 K.nx K.xc) K.xc := rfl
end
theorem iRow_pur {r : Nat} {f : Nat → Int} : pur 8 (.tup (iRow r f)) = true := by
  show (iRow r f).all (pur 7) = true
  rw [List.all_eq_true]
  intro d hd
  unfold iRow tab at hd
  obtain ⟨i, _, rfl⟩ := List.mem_map.mp hd
  rfl
theorem eqL_self {f : D → D → Bool} : ∀ {l : List D}, (∀ d ∈ l, f d d = true) → eqL f l l = true
  | [], _ => rfl
  | d :: l, h => by
    simp only [eqL, h d List.mem_cons_self]
    exact eqL_self fun x hx => h x (List.mem_cons_of_mem _ hx)
theorem eqF_rows {η : Hd} {r : Nat} {f g : Nat → Int} (h : ∀ i, i < r → f i = g i) : eqF η (.tup (iRow r f)) (.tup (iRow r g)) = some true := by
  have e : iRow r f = iRow r g := tab_ext fun i hi => by rw [h i hi]
  rw [e]
  have h1 := iRow_pur (r := r) (f := g)
  have h2 : eqn 8 (.tup (iRow r g)) (.tup (iRow r g)) = true := by
    show eqL (eqn 7) (iRow r g) (iRow r g) = true
    refine eqL_self fun d hd => ?_
    unfold iRow tab at hd
    obtain ⟨i, _, rfl⟩ := List.mem_map.mp hd
    show ieq (g i) (g i) = true
    rw [ieq_dec]; exact decide_eq_true rfl
  simp only [eqF, h1, h2]
theorem fNe_rows {η : Hd} {r : Nat} {f g : Nat → Int} (h : ∀ i, i < r → f i = g i) : fNe (.tup (iRow r f)) (.tup (iRow r g)) η = some (.bl false, η) := by
  simp only [fNe, eqF_rows h, Bool.not_true]
theorem fNe_int {η : Hd} {i j : Int} : fNe (.int i) (.int j) η = some (.bl (!decide (i = j)), η) := by
  have : eqF η (.int i) (.int j) = some (decide (i = j)) := by rw [← ieq_dec]; rfl
  simp only [fNe, this]
theorem roll_at {g b : Nat} {η : Hd} {kv : KV} {kx : KX} (hg : η.get g = some .dice) (hb : b ≤ 1000000000) (h : ∀ v, v < b + 1 → kv (iD (Int.ofNat v)) η = true) : fRoll [.ref g, .int (Int.ofNat (b + 1))] η kv kx = true := by
  have e : Nat.ble b 1000000000 = true := Nat.ble_eq_true_of_le hb
  simp only [fRoll, hg, e]
  have : ∀ n, n ≤ b + 1 → allN n (fun v => kv (.int (Int.ofNat v)) η) = true := by
    intro n
    induction n with
    | zero => intro _; rfl
    | succ n ih => intro hn; unfold allN; rw [show (fun v => kv (.int (Int.ofNat v)) η) n = true from h n (by omega)]; exact ih (by omega)
  exact this _ (Nat.le_refl _)
end DL

/-! marks: counts, parted, products, for all numbers -/
namespace DL
open PySem PySem.Spec L2
theorem ev_lenT' {σ : SD} {η : Hd} {A : CE} {l : List D} {n : Nat} (a : Ev A σ η (.tup l)) (h : l.length = n) : Ev (cFn (f1 gLenA) (cCons A cNil)) σ η (.int (Int.ofNat n)) := by
  subst h; exact ev_lenT a
/-- tuple(a new list) -/
theorem tup_new {η : Hd} {q : Nat} {l : List D} : f1 gTuple [.ref q] (η.add q (.lst l)) = some (.tup l, η.add q (.lst l)) := by
  have : (η.add q (.lst l)).list q = some l := list_lst (by rw [Hd.get_add, if_pos rfl])
  simp only [f1, gTuple, this]
structure MkOk (r : Nat) (m : Nat → Nat → Int) : Prop where
  tri : ∀ i k, k < r → i < k → m i k = 0
  dia : ∀ k, k < r → 0 < m k k
  nn : ∀ i k, i < r → k < r → 0 ≤ m i k ∧ m i k ≤ 1000
  r9 : r ≤ 100
def mkD (r : Nat) (m : Nat → Nat → Int) : D := .tup (tab r (fun i => .tup (iRow r (m i))))
/-- a def that gives d of the one cell C -/
def Gives1 (F : CF) (C : Cell) (d : D) : Prop := ∀ g η kv kx, η.get g = some C → kv d η = true → F [.ref g] η kv kx = true
/-- a value that stands: its cell is there -/
structure Row (S : List Nat) (η : Hd) (v : D) (l : List D) : Prop where
  at_ : rowAt η v = some l
  lt : ∀ q, v = .ref q → q < η.nx
  mem : ∀ q, v = .ref q → q ∈ S
theorem Row.mono {S : List Nat} {η η' : Hd} {v : D} {l : List D} (h : Row S η v l) (x : Gr S η η') : Row S η' v l := ⟨x.row h.lt h.at_, fun q e => Nat.lt_of_lt_of_le (h.lt q e) x.1, h.mem⟩
theorem Row.frz {S : List Nat} {η : Hd} {v : D} {l : List D} (h : Row S η v l) : Gr S η (frzd η v) := Gr.frzd fun r _ e _ => h.mem r e
end DL
namespace DL
open PySem PySem.Spec L2
section
variable {S : List Nat} {η0 η : Hd}
theorem Gr.setN {q : Nat} {c : Cell} (h : η0.nx ≤ q) (a : Gr S η0 η) : Gr S η0 (η.set q c) := ⟨a.1, fun p hp => by
  rw [get_set_ne (by omega)]; exact a.2 p hp⟩
theorem frzd_ref (η : Hd) (r : Nat) : frzd η (.ref r) = η ∨ ∃ l, frzd η (.ref r) = η.set r (.frz l) := by
  simp only [frzd]
  split
  · rename_i l _; exact .inr ⟨l, rfl⟩
  · exact .inl rfl
theorem Gr.frzN {r : Nat} (h : η0.nx ≤ r) (a : Gr S η0 η) : Gr S η0 (DL.frzd η (.ref r)) := by
  rcases frzd_ref η r with e | ⟨l, e⟩
  · rw [e]; exact a
  · rw [e]; exact a.setN h
theorem fSet_at {r t n : Nat} {v : D} {l : List D} (h : η.get r = some (.lst l)) (hl : l.length = n) (ht : t < n) : fSet (.ref r) (.int (Int.ofNat t)) v η = some (η.set r (.lst (l.set t v))) := by
  have : ixD l.length (Int.ofNat t) = some t := by
    unfold ixD
    have : Nat.blt t l.length = true := Nat.ble_eq_true_of_le (by omega)
    simp [this]
  simp only [fSet, h, this]
end
end DL

namespace DL
open PySem PySem.Spec L2
theorem thaw_none {k : KS} {l : List D} : k.thaw ⟨l, none⟩ = k := rfl
end DL

/-! marks: products of ways, the law's walk with numbers that nobody knows -/
namespace DL
open PySem PySem.Spec L2
/-- a group's marks, its cell -/
structure Gm (Fm : CF) (C : Cell) (r : Nat) (m : Nat → Nat → Int) : Prop where
  M : MkOk r m
  hM : Gives1 Fm C (mkD r m)
  nl : ∀ l, C ≠ .lst l
section
variable {Fm : CF} {C : Cell} {r : Nat} {m : Nat → Nat → Int}
end
/-! ### the law -/
section
variable (Fc Fp Fpr Fpt Fo : CF)
end
/-- the state behind the rolls -/
structure L37 (C : Cell) (r : Nat) (R : List D) (n p : Nat → Nat) (σ : SD) (η : Hd) (q : Nat) (x3 x6 x7 x8 : Option D) : Prop where
  sl : ∃ x0 x2 x9 x12 x13 x14 x15, σ = [x0, some (.ref 0), x2, x3, some (.ref q), some (.ref (q + 1)), x6, x7, x8, x9, some (.ref 1), some (.tup R), x12, x13, x14, x15]
  dice : η.get 0 = some .dice
  cell : η.get 1 = some C
  q2 : 2 ≤ q
  nx : q + 2 ≤ η.nx
  one : η.list q = some (iRow r (fun i => Int.ofNat (n i)))
  two : η.list (q + 1) = some (iRow r (fun i => Int.ofNat (p i)))
theorem L37.mono {C : Cell} (hC : ∀ l, C ≠ .lst l) {r : Nat} {R : List D} {n p : Nat → Nat} {σ : SD} {η η' : Hd} {q : Nat} {x3 x6 x7 x8 : Option D} (h : L37 C r R n p σ η q x3 x6 x7 x8) {S : List Nat} (x : Gr S η η') : L37 C r R n p σ η' q x3 x6 x7 x8 :=
  ⟨h.sl, x.get (by have := h.nx; have := h.q2; omega) h.dice (fun _ e => nomatch e), x.get (by have := h.nx; have := h.q2; omega) h.cell hC, h.q2, Nat.le_trans h.nx x.1, x.list (by have := h.nx; omega) h.one, x.list (by have := h.nx; omega) h.two⟩
end DL

/-! marks: the law's walk -/
namespace DL
open PySem PySem.Spec L2
section
variable {Fm : CF} {C : Cell} {r : Nat} {m : Nat → Nat → Int} {R : List D}
/-- what is known of a group: marks, and how products of its kinds are told by kinds -/
structure Gkn (Fm : CF) (C : Cell) (r : Nat) (m : Nat → Nat → Int) (s : Nat → Nat → Nat → Int) : Prop extends Gm Fm C r m where
  r0 : 0 < r
  r9 : r ≤ 10
  mb : ∀ i j, i < r → j < r → m i j ≤ 1000
  sn : ∀ i j k, i < r → j < r → k < r → 0 ≤ s i j k
  st : ∀ i j l, i < r → j < r → l < r → m i l * m j l = sumTo r (fun k => s i j k * m k l)
def prod (r : Nat) (s : Nat → Nat → Nat → Int) (n p : Nat → Int) (k : Nat) : Int := sumTo r (fun i => sumTo r (fun j => n i * p j * s i j k))
variable {s : Nat → Nat → Nat → Int}
abbrev oN (n : Nat → Nat) (i : Nat) : Int := Int.ofNat (n i)
section
variable (G : Gkn Fm C r m s) (hR : R.length = r) {n p : Nat → Nat} (hn : ∀ i, i < r → n i < 3) (hp : ∀ i, i < r → p i < 3)
theorem L37.rows {σ : SD} {η : Hd} {q : Nat} {x3 x6 x7 x8 : Option D} (h : L37 C r R n p σ η q x3 x6 x7 x8) : Row [q, q + 1] η (.ref q) (iRow r (oN n)) ∧ Row [q, q + 1] η (.ref (q + 1)) (iRow r (oN p)) :=
  ⟨⟨h.one, fun _ e => by cases e; have := h.nx; omega, fun _ e => by cases e; simp⟩, ⟨h.two, fun _ e => by cases e; have := h.nx; omega, fun _ e => by cases e; simp⟩⟩
include G hn hp in
include G hn hp in
include G hn hp in
include G hR hn hp in
include G hn hp in
end
end
end DL

set_option maxHeartbeats 4000000
/-! a tuple once -/
namespace DL
open PySem PySem.Spec PyProof.Rows L2
theorem tuple_mulW1 (l : Addr) (items : Array Value) (n : Nat) (dd : Option Addr) (sl : Array (Option Value)) (x : Int) (u : Tok) (c0 : (decide (x < -(2 ^ 63)) || decide (x ≥ 2 ^ 63)) = false) (c1 : (items.isEmpty || x == 1) = true) :
    Meets (Builtin.«tuple.__mul__» ⟨[.ref l, .int x u], []⟩) (fun _ R s => s.heap.get? l = some { cls := .type "tuple", dict := dd, data := .seq items n, slots := sl } ∧ R (.ok (.ret (Value.ref l))) s) :=
  .of_wp fun prog w A R s h => by
    obtain ⟨hp, g, d, tk, os⟩ := s
    obtain ⟨hl, h⟩ := h
    have f1 := AutoSeq1.idx_int
    wp_walk using wpAny_loadPart' hl
    repeat (first
      | (refine wpAny_ite_false (decide_eq_false (by rw [c0]; exact Bool.false_ne_true)) ?_; wp_walk using wpAny_loadPart' hl)
      | (refine wpAny_ite_true (decide_eq_true (by rw [c1])) ?_; wp_walk using wpAny_loadPart' hl))
    exact ⟨_, rfl, h⟩
def rRep1 (K : PySem.W.Frag) : R2 := fun x y H Q => ∃ l xs, x = .ref l ∧ y = .int 1 ∧ SqT K H l xs ∧ Q (.ref l) H
section
variable {X : Cx} {N : Nm} {E : XK}
theorem op_rep1 : OpR X (binaryOp .Mult) (rRep1 X.K) := by
  intro pins s σ H x y v u Q I rx ry h
  obtain ⟨l, xs, rfl, rfl, hT, q⟩ := h
  cases rx
  obtain ⟨t, rfl⟩ := ry
  obtain ⟨its, r, ⟨⟨cls, dd, data, sl⟩, ho, hc, n, hd⟩, hs⟩ := I.tuple hT
  simp only at hc hd
  subst hc hd
  have c1 : (its.toArray.isEmpty || (1 : Int) == 1) = true := by simp
  refine wpAny_binaryOp_repeat_ref (T := "tuple") (U := "int") (by decide) ⟨_, ho, rfl⟩ (fun s' => typeIs_int s' 1 t) noFill_tuple_mul F.fills_int_mul F.slot_int_rmul repeat_tuple F.slot_int_index.lookup
    (call_meets F.slot_int_rmul (typeIs_int s 1 t) F.entry_int_rmul (F.args_int_rmul_2 _ _) (int_rmul_tuple 1 t l its.toArray n dd sl)
      ⟨ho, rfl, ⟨_, ho, rfl⟩, call_meets F.slot_tuple_mul ⟨_, ho, rfl⟩ F.entry_tuple_mul (F.args_tuple_mul_2 _ _) (tuple_mulW1 l its.toArray n dd sl 1 t (by decide) c1) ⟨ho, ?_⟩⟩)
  exact ⟨.ref l, H, I.tok _, rfl, q⟩
def fRep1 : F2 := fun x y η => match x with
  | .tup a => match y with
    | .int (.ofNat k) => match Nat.beq k 1 with
      | true => some (.tup a, η)
      | false => none
    | _ => none
  | _ => none
theorem opd_rep1 : OpR X (binaryOp .Mult) (r2 X.K N fRep1) := OpR.imp op_rep1 fun x y H Q q => by
  obtain ⟨W, dx, dy, d, η', rfl, o, rx, ry, hf, hq⟩ := q
  unfold fRep1 at hf
  split at hf
  · rename_i a
    split at hf
    · rename_i k
      split at hf
      · rename_i e
        have e := Nat.eq_of_beq_eq_true e
        subst e
        cases hf
        obtain ⟨l, xs, rfl, h1, h2⟩ := relTup rx
        have ey := relInt ry
        subst ey
        exact ⟨l, xs, rfl, rfl, SqT.of h1, hq W _ (Ext.refl W) o rfl rx⟩
      · cases hf
    · cases hf
  · cases hf
def fRepU : F2 := fOr fRepT fRep1
theorem opd_repU : OpR X (binaryOp .Mult) (r2 X.K N fRepU) := opd_or opd_repT opd_rep1
end
end DL

/-! name.f op= e -/
namespace DL
open PySem PySem.Spec L2
section
variable {X : Cx} {N : Nm} {E : XK}
end
end DL

/-! what an expression gives, whatever the heap has grown by: values (Yl), new lists (Yn), walks (Iw) -/
namespace DL
open PySem PySem.Spec L2
def Yl (S : List Nat) (A : CE) (σ : SD) (η : Hd) (d : D) : Prop := ∀ (kv : KV) (kx : KX), (∀ η', Gr S η η' → kv d η' = true) → A σ η kv kx = true
def Yn (S : List Nat) (A : CE) (σ : SD) (η : Hd) (L : List D) : Prop := ∀ (kv : KV) (kx : KX), (∀ q η', Gr S η η' → η.nx ≤ q → q < η'.nx → η'.get q = some (.lst L) → kv (.ref q) η' = true) → A σ η kv kx = true
def Iw (S : List Nat) (i : CI) (σ : SD) (η : Hd) (l : List D) : Prop := ∀ (k : Its → Hd → Bool) (kx : KX), (∀ η', Gr S η η' → k ⟨l, none⟩ η' = true) → i σ η k kx = true
/-- a def's results -/
def Fl (S : List Nat) (F : CF) (ds : List D) (η : Hd) (d : D) : Prop := ∀ (kv : KV) (kx : KX), (∀ η', Gr S η η' → kv d η' = true) → F ds η kv kx = true
section
variable {S : List Nat} {σ : SD} {η : Hd} {A B C : CE}
theorem un_none {l : List D} {η : Hd} : (⟨l, none⟩ : Its).un η = η := rfl
theorem w_lst0 {kv : KV} {kx : KX} : cLst cNil σ η kv kx = kv (.ref η.nx) (η.new (.lst [])) := rfl
theorem yl_ev {d : D} (h : Ev A σ η d) : Yl S A σ η d := fun kv kx hk => by rw [h]; exact hk η (Gr.refl _ _)
theorem yl_var {i : Nat} {d : D} (h : σ[i]? = some (some d)) : Yl S (cVar i) σ η d := yl_ev (ev_var h)
theorem yl_op {f : F2} {x y d : D} (a : Yl S A σ η x) (b : ∀ η1, Gr S η η1 → Yl S B σ η1 y) (h : ∀ η1, Gr S η η1 → f x y η1 = some (d, η1)) : Yl S (cOp f A B) σ η d := fun kv kx hk => by
  rw [w_op]
  refine a _ _ fun η1 x1 => b η1 x1 _ _ fun η2 x2 => ?_
  rw [h η2 (x1.trans x2)]
  exact hk η2 (x1.trans x2)
theorem yl_mul {i j : Int} (a : Yl S A σ η (.int i)) (b : ∀ η1, Gr S η η1 → Yl S B σ η1 (.int j)) (h : i.natAbs ≤ 1000000000000000000 ∨ j.natAbs ≤ 1000000000000000000) : Yl S (cOp fMul A B) σ η (.int (i * j)) := yl_op a b fun η1 _ => by
  have : mulOk i j = true := by
    unfold mulOk
    rcases h with h | h
    · rw [Nat.ble_eq_true_of_le h, Bool.true_or]
    · rw [Nat.ble_eq_true_of_le h, Bool.or_true]
  simp only [fMul, fOr, fI2c, this, imul]
theorem fMod_at {i j : Int} (h : 0 < j) : fMod (.int i) (.int j) η = some (.int (i % j), η) := by
  have : modOk i j = true := by
    match j, h with
    | .ofNat (n + 1), _ => rfl
    | .ofNat 0, h => exact absurd h (by decide)
    | .negSucc n, h => exact absurd h (by simp)
  simp only [fMod, fI2c, this, imod]
theorem yl_mod {i j : Int} (a : Yl S A σ η (.int i)) (b : ∀ η1, Gr S η η1 → Yl S B σ η1 (.int j)) (h : 0 < j) : Yl S (cOp fMod A B) σ η (.int (i % j)) := yl_op a b fun η1 _ => fMod_at h
theorem yl_call1 {F : CF} {x d : D} (a : Yl S A σ η x) (h : ∀ η1, Gr S η η1 → Fl S F [x] η1 d) : Yl S (cCall F (cCons A cNil)) σ η d := fun kv kx hk => by
  rw [w_call1]
  exact a _ _ fun η1 x1 => h η1 x1 _ _ fun η2 x2 => hk η2 (x1.trans x2)
theorem yl_call3 {F : CF} {x y z d : D} (a : Yl S A σ η x) (b : ∀ η1, Gr S η η1 → Yl S B σ η1 y) (c : ∀ η1, Gr S η η1 → Yl S C σ η1 z) (h : ∀ η1, Gr S η η1 → Fl S F [x, y, z] η1 d) : Yl S (cCall F (cCons A (cCons B (cCons C cNil)))) σ η d := fun kv kx hk => by
  rw [w_call3]
  exact a _ _ fun η1 x1 => b η1 x1 _ _ fun η2 x2 => c η2 (x1.trans x2) _ _ fun η3 x3 => h η3 ((x1.trans x2).trans x3) _ _ fun η4 x4 => hk η4 (((x1.trans x2).trans x3).trans x4)
/-- the instance's cell stands -/
structure Ins (c g : Nat) (fs : List (Nat × D)) (η : Hd) : Prop where
  get : η.get g = some (.ins c fs)
  lt : g < η.nx
theorem Ins.mono {c g : Nat} {fs : List (Nat × D)} {η' : Hd} (h : Ins c g fs η) (x : Gr S η η') : Ins c g fs η' := ⟨x.get h.lt h.get (fun _ e => nomatch e), Nat.lt_of_lt_of_le h.lt x.1⟩
theorem Ins.at {c g : Nat} {fs : List (Nat × D)} (h : Ins c g fs η) : insAt c η (.ref g) = some (g, fs) := by simp only [insAt, h.get, Nat.beq_refl]
theorem yl_tup {L : List D} (h : Yn S A σ η L) : Yl S (cFn (f1 gTuple) (cCons A cNil)) σ η (.tup L) := fun kv kx hk => by
  rw [w_fn1]
  refine h _ _ fun q η' x _ _ e => ?_
  have : f1 gTuple [.ref q] η' = some (.tup L, η') := by simp only [f1, gTuple, list_lst e]
  rw [this]
  exact hk η' x
theorem yn_list {L : List D} (h : Yl S A σ η (.tup L)) (hl : L.length ≤ 1000000) : Yn S (cFn (f1 gList) (cCons A cNil)) σ η L := fun kv kx hk => by
  rw [w_fn1]
  refine h _ _ fun η' x => ?_
  have : Nat.ble L.length line = true := Nat.ble_eq_true_of_le (by unfold line; omega)
  have e : f1 gList [.tup L] η' = some (.ref η'.nx, η'.new (.lst L)) := by simp only [f1, gList, this]
  rw [e]
  exact hk _ _ (x.trans Gr.new) x.1 (Nat.lt_succ_self _) get_new_eq
theorem iw_of {i : CI} {l : List D} {η1 : Hd} (h : Itw i σ η l η1) (x : Gr S η η1) : Iw S i σ η l := fun k kx hk => by rw [h]; exact hk η1 x
theorem iw_r1 {j : Nat} (a : Yl S A σ η (.int (Int.ofNat j))) (h : j ≤ 1000000000000000000) : Iw S (ciR1 (cCons A cNil)) σ η (tab j (fun i => iD (Int.ofNat i))) := fun k kx hk => by
  show A σ η (fun d η1 => (fun ds η1 => match ds with
    | [.int j] => match rOk j with
      | true => k ⟨rangeD j.toNat 0, none⟩ η1
      | false => false
    | _ => false) [d] η1) kx = true
  refine a _ _ fun η1 x1 => ?_
  have e := it_r1 (σ := σ) (η := η1) (A := cC (.int (Int.ofNat j))) ev_c h k kx
  exact e.trans (hk η1 x1)
theorem iw_seq {l : List D} (a : Yl S A σ η (.tup l)) : Iw S (ciSeq A) σ η l := fun k kx hk => by
  unfold ciSeq
  exact a _ _ fun η1 x1 => hk η1 x1
end
/-! comprehensions, sums -/
section
variable {S : List Nat}
theorem lcD_yl {g : CG} {e : CE} {σ : SD} {η0 : Hd} {k : List D → Hd → Bool} (f : Nat → D) (it : Nat → D) (r n : Nat) (acc : List D) (η : Hd) (hn : r ≤ n) (x0 : Gr S η0 η)
    (h : ∀ i, i < r → ∀ η1, Gr S η0 η1 → ∃ σ1, (∀ K kx, g (it i) σ η1 K kx = K σ1 η1) ∧ Yl S e σ1 η1 (f i)) (hk : ∀ η', Gr S η0 η' → k (acc.reverse ++ tab r f) η' = true) : lcD g ctYes e σ k (tab r it) n acc η = true :=
  lcD_inv (Inv := fun η' => Gr S η0 η') f it r n acc η hn x0 (fun i hi η1 x1 kv hkv => by
    obtain ⟨σ1, h1, h2⟩ := h i hi η1 x1
    rw [h1]
    exact h2 _ _ fun η2 x2 => hkv η2 (x1.trans x2)) hk
theorem yn_lc {i : CI} {g : CG} {e : CE} {σ : SD} {η : Hd} {vs : List Nat} {r : Nat} {it f : Nat → D} (hi : Iw S i σ η (tab r it)) (hr : r ≤ 1000000)
    (h : ∀ i, i < r → ∀ η1, Gr S η η1 → ∃ σ1, (∀ K kx, g (it i) (wipeD σ vs) η1 K kx = K σ1 η1) ∧ Yl S e σ1 η1 (f i)) : Yn S (cLc i g ctYes e vs) σ η (tab r f) := fun kv kx hk => by
  unfold cLc
  refine hi _ _ fun η1 x1 => ?_
  show lcD g ctYes e (wipeD σ vs) _ (tab r it) line1 [] (Hd.bump η1) = true
  refine lcD_yl (S := S) (η0 := Hd.bump η1) f it r line1 [] _ (by unfold line1; omega) (Gr.refl _ _) (fun i hi η2 x2 => h i hi η2 ((x1.trans Gr.bump).trans x2)) fun η2 x2 => ?_
  refine hk η1.nx _ ?_ x1.1 ?_ ?_
  · exact ((x1.trans Gr.bump).trans x2).add x1.1
  · exact Nat.lt_of_lt_of_le (Nat.lt_succ_self _) x2.1
  · rw [Hd.get_add, if_pos rfl]; rfl
theorem sumD_yl {g : CG} {e : CE} {σ : SD} {η0 : Hd} {k : Int → Hd → Bool} {M : Nat} : ∀ (r : Nat) (f : Nat → Int) (it : Nat → D) (z : Int) (η : Hd), Gr S η0 η → (∀ i, i < r → (f i).natAbs ≤ M) → z.natAbs + r * M ≤ 1000000000000000000 →
    (∀ i, i < r → ∀ η1, Gr S η0 η1 → ∃ σ1, (∀ K kx, g (it i) σ η1 K kx = K σ1 η1) ∧ Yl S e σ1 η1 (iD (f i))) → (∀ η', Gr S η0 η' → k (z + sumTo r f) η' = true) → sumD g ctYes e σ k (tab r it) z η = true
  | 0, f, it, z, η, x0, _, _, _, hk => by have := hk η x0; simpa [tab, sumD, sumTo] using this
  | r + 1, f, it, z, η, x0, hb, hz, h, hk => by
    obtain ⟨σ1, h1, h2⟩ := h 0 (by omega) η x0
    have b0 := hb 0 (by omega)
    rw [Nat.succ_mul] at hz
    rw [tab_cons, sumD, h1]
    show e σ1 η _ kF = true
    refine h2 _ _ fun η2 x2 => ?_
    have e1 : rOk (f 0) = true := Nat.ble_eq_true_of_le (by omega)
    have e2 : rOk (z + f 0) = true := Nat.ble_eq_true_of_le (by omega)
    simp only [e1, e2]
    refine sumD_yl r (fun i => f (i + 1)) (fun i => it (i + 1)) (z + f 0) η2 (x0.trans x2) (fun i hi => hb (i + 1) (by omega)) (by omega) (fun i hi => h (i + 1) (by omega)) fun η3 x3 => ?_
    have := hk η3 x3
    rw [sumTo_tail] at this
    rw [Int.add_assoc]
    exact this
theorem yl_sum {i : CI} {g : CG} {e : CE} {σ : SD} {η : Hd} {vs : List Nat} {r M : Nat} {it : Nat → D} {f : Nat → Int} (hi : Iw S i σ η (tab r it)) (hb : ∀ i, i < r → (f i).natAbs ≤ M) (hz : r * M ≤ 1000000000000000000)
    (h : ∀ i, i < r → ∀ η1, Gr S η η1 → ∃ σ1, (∀ K kx, g (it i) (wipeD σ vs) η1 K kx = K σ1 η1) ∧ Yl S e σ1 η1 (iD (f i))) : Yl S (cSumG i g ctYes e vs) σ η (.int (sumTo r f)) := fun kv kx hk => by
  unfold cSumG
  refine hi _ _ fun η1 x1 => ?_
  show sumD g ctYes e (wipeD σ vs) _ (tab r it) 0 η1 = true
  refine sumD_yl (S := S) (η0 := η) r f it 0 η1 x1 hb (by rw [Int.natAbs_zero]; omega) h fun η2 x2 => ?_
  rw [Int.zero_add]
  exact hk η2 x2
end
end DL

/-! sums by lengths: value, plus, power_by, spread, gathered, rolled, for all numbers -/
namespace DL
open PySem PySem.Spec L2
/-! rows that are equal -/
/-- the fields of a group of sums -/
def sF (N n : Nat) (len : Nat → Int) : List (Nat × D) := [(0, .tup (iRow n len)), (1, iD (Int.ofNat N))]
def Th (n : Nat) (x : Nat → Nat → Int) (i : Nat) : D := .tup (iRow n (x i))
section
variable {N n bot : Nat} {len : Nat → Int} {x : Nat → Nat → Int} {s : Nat → Nat → Nat}
end
/-! the defs -/
section
variable (c : Nat) (Fw Fth Fv Fp Fpb Fs : CF)
end
/-- the powers of a root -/
def pw (w p : Int) : Nat → Int
  | 0 => 1
  | k + 1 => pw w p k * w % p
theorem pw_bd {w p : Int} (hp : 0 < p) (h2 : p ≤ 1000) : ∀ k, 0 ≤ pw w p k ∧ pw w p k ≤ 1000
  | 0 => by show (0 : Int) ≤ 1 ∧ (1 : Int) ≤ 1000; omega
  | k + 1 => by
    unfold pw
    have h3 := Int.emod_nonneg (pw w p k * w) (show p ≠ 0 by omega)
    have h4 := Int.emod_lt_of_pos (pw w p k * w) hp
    exact ⟨h3, by omega⟩
section
variable {S : List Nat}
variable {N n bot : Nat} {len : Nat → Int} {x : Nat → Nat → Int} {s : Nat → Nat → Nat} {c g : Nat} {Fw Fth : CF}
theorem w_def4 {m : Nat} {b : CS} {x y z u : D} {η : Hd} {kv : KV} {kx : KX} : cDef 4 m b [x, y, z, u] η kv kx = b (startD 4 m [x, y, z, u]) η ⟨fun _ η1 => kv .non η1, kv, fun _ _ => false, fun _ _ => false, kx⟩ := rfl
end
end DL

/-! sums by lengths: gathered, rolled -/
namespace DL
open PySem PySem.Spec L2
section
variable {S : List Nat} {N n bot : Nat} {len : Nat → Int} {x : Nat → Nat → Int} {s : Nat → Nat → Nat} {c g : Nat} {Fw Fth : CF}
/-! rolled -/
def kvT (N n : Nat) (x : Nat → Nat → Int) : List (D × D) := tab N (fun i => (Th n x i, iD (Int.ofNat i)))
/-- the cells of rolled's loops -/
structure RJ (S : List Nat) (N n : Nat) (len : Nat → Int) (x : Nat → Nat → Int) (c g pl fc : Nat) (η0 η : Hd) (F : Nat → Int) : Prop where
  I : Ins c g (sF N n len) η
  gp : η.get pl = some (.dct true (kvT N n x))
  gc : η.get fc = some (.lst (iRow N F))
  gr : Gr S η0 η
  p0 : η0.nx ≤ pl
  f0 : η0.nx ≤ fc
  ne : pl ≠ fc
  p1 : pl < η.nx
  f1 : fc < η.nx
  g0 : g < η0.nx
theorem RJ.mono {pl fc : Nat} {η0 η η' : Hd} {F : Nat → Int} {T : List Nat} (h : RJ S N n len x c g pl fc η0 η F) (y : Gr T η η') (hT : ∀ q ∈ T, q ∈ S ∧ q < η0.nx) : RJ S N n len x c g pl fc η0 η' F :=
  ⟨h.I.mono y, by rw [y.keep h.p1 (fun z => by have := (hT _ z).2; have := h.p0; omega)]; exact h.gp, by rw [y.keep h.f1 (fun z => by have := (hT _ z).2; have := h.f0; omega)]; exact h.gc, h.gr.trans (y.sub fun q hq _ => (hT q hq).1), h.p0, h.f0, h.ne, Nat.lt_of_lt_of_le h.p1 y.1, Nat.lt_of_lt_of_le h.f1 y.1, h.g0⟩
end
end DL

/-! sums by lengths: the numbers' part; lists of lists, laid flat -/
namespace DL
open PySem PySem.Spec L2
/-! ### numbers -/
theorem sumTo_emod {p : Int} : ∀ {t : Nat} {f : Nat → Int}, sumTo t f % p = sumTo t (fun i => f i % p) % p
  | 0, f => rfl
  | t + 1, f => by
    rw [sumTo, sumTo, Int.add_emod, sumTo_emod (t := t) (f := f), Int.emod_add_emod]
theorem sumTo_ext_emod {p : Int} {t : Nat} {f g : Nat → Int} (h : ∀ i, i < t → f i % p = g i % p) : sumTo t f % p = sumTo t g % p := by
  rw [sumTo_emod, sumTo_emod (f := g)]
  rw [sumTo_ext h]
theorem sumTo_single {t m : Nat} (hm : m < t) {f : Nat → Int} : sumTo t (fun k => if k = m then f k else 0) = f m := by
  induction t with
  | zero => omega
  | succ t ih =>
    rw [sumTo]
    by_cases e : m = t
    · subst e
      rw [if_pos rfl, sumTo_ext (g := fun _ => 0) (fun i hi => if_neg (by omega)), sumTo_zero, Int.zero_add]
    · rw [ih (by omega), if_neg (fun h => e h.symm), Int.add_zero]
section
variable {N : Nat} {z y : Nat → Int} {P Q : Nat → Nat → Int} {u p : Int} {s : Nat → Nat → Nat}
end
/-! ### lists of ints, flat -/
section
variable {S : List Nat}
/-- elements that are rolls, told by Fd -/
theorem lcD_rollF {g : CG} {e : CE} {σ : SD} {η : Hd} {k : List D → Hd → Bool} {b : Nat} (Fd : Nat → D) : ∀ (r : Nat) (it : Nat → D) (n : Nat) (acc : List D), r ≤ n →
    (∀ i, i < r → ∃ σ1, (∀ K kx, g (it i) σ η K kx = K σ1 η) ∧ ∀ kv, (∀ v, v < b → kv (Fd v) η = true) → e σ1 η kv kF = true) →
    (∀ f : Nat → Nat, (∀ i, i < r → f i < b) → k (acc.reverse ++ tab r (fun i => Fd (f i))) η = true) → lcD g ctYes e σ k (tab r it) n acc η = true
  | 0, it, n, acc, _, _, hk => by have := hk (fun _ => 0) (fun i hi => absurd hi (by omega)); simpa [tab, lcD] using this
  | r + 1, it, n, acc, hn, h, hk => by
    obtain ⟨n, rfl⟩ : ∃ m, n = m + 1 := ⟨n - 1, by omega⟩
    obtain ⟨σ1, h1, h2⟩ := h 0 (by omega)
    rw [tab_cons, lcD, h1]
    show e σ1 η _ kF = true
    refine h2 _ fun v hv => ?_
    refine lcD_rollF Fd r (fun i => it (i + 1)) n _ (by omega) (fun i hi => h (i + 1) (by omega)) fun f hf => ?_
    have := hk (fun i => match i with | 0 => v | i + 1 => f i) (fun i hi => by
      cases i with
      | zero => exact hv
      | succ i => exact hf i (by omega))
    rw [tab_cons] at this
    rw [List.reverse_cons, List.append_assoc]
    exact this
/-- a comprehension of new lists -/
theorem lcD_yn {g : CG} {e : CE} {σ : SD} {η0 : Hd} {k : List D → Hd → Bool} (hS : ∀ q ∈ S, q < η0.nx) : ∀ (r : Nat) (L : Nat → List D) (it : Nat → D) (n : Nat) (acc : List D) (η : Hd), r ≤ n → Gr S η0 η →
    (∀ i, i < r → ∀ η1, Gr S η0 η1 → ∃ σ1, (∀ K kx, g (it i) σ η1 K kx = K σ1 η1) ∧ Yn S e σ1 η1 (L i)) →
    (∀ (q : Nat → Nat) (η' : Hd), Gr S η η' → (∀ i, i < r → η.nx ≤ q i ∧ q i < η'.nx ∧ η'.get (q i) = some (.lst (L i))) → k (acc.reverse ++ tab r (fun i => .ref (q i))) η' = true) → lcD g ctYes e σ k (tab r it) n acc η = true
  | 0, L, it, n, acc, η, _, _, _, hk => by have := hk (fun _ => 0) η (Gr.refl _ _) (fun i hi => absurd hi (by omega)); simpa [tab, lcD] using this
  | r + 1, L, it, n, acc, η, hn, x0, h, hk => by
    obtain ⟨n, rfl⟩ : ∃ m, n = m + 1 := ⟨n - 1, by omega⟩
    obtain ⟨σ1, h1, h2⟩ := h 0 (by omega) η x0
    rw [tab_cons, lcD, h1]
    show e σ1 η _ kF = true
    refine h2 _ _ fun q0 η1 x1 l1 l2 g1 => ?_
    refine lcD_yn hS r (fun i => L (i + 1)) (fun i => it (i + 1)) n _ η1 (by omega) (x0.trans x1) (fun i hi => h (i + 1) (by omega)) fun q η2 x2 hq => ?_
    have := hk (fun i => match i with | 0 => q0 | i + 1 => q i) η2 (x1.trans x2) (fun i hi => by
      cases i with
      | zero => exact ⟨l1, Nat.lt_of_lt_of_le l2 x2.1, by show η2.get q0 = _; rw [x2.keep l2 (fun z => by have := hS _ z; have := x0.1; omega)]; exact g1⟩
      | succ i =>
        obtain ⟨a, b, c⟩ := hq i (by omega)
        exact ⟨Nat.le_trans x1.1 a, b, c⟩)
    rw [tab_cons] at this
    rw [List.reverse_cons, List.append_assoc]
    exact this
/-- with a test -/
theorem lcD_filt {g : CG} {e T : CE} {σ : SD} {η0 : Hd} {k : List D → Hd → Bool} : ∀ (r : Nat) (f : Nat → D) (b : Nat → Bool) (it : Nat → D) (n : Nat) (acc : List D) (η : Hd), r ≤ n → Gr S η0 η →
    (∀ i, i < r → ∀ η1, Gr S η0 η1 → ∃ σ1, (∀ K kx, g (it i) σ η1 K kx = K σ1 η1) ∧ Yl S T σ1 η1 (.bl (b i)) ∧ ∀ η2, Gr S η0 η2 → Yl S e σ1 η2 (f i)) →
    (∀ η', Gr S η0 η' → k (acc.reverse ++ ((tab r fun i => if b i then [f i] else []).flatten)) η' = true) → lcD g (cTst T) e σ k (tab r it) n acc η = true
  | 0, f, b, it, n, acc, η, _, x0, _, hk => by have := hk η x0; simpa [tab, lcD] using this
  | r + 1, f, b, it, n, acc, η, hn, x0, h, hk => by
    obtain ⟨n, rfl⟩ : ∃ m, n = m + 1 := ⟨n - 1, by omega⟩
    obtain ⟨σ1, h1, h2, h3⟩ := h 0 (by omega) η x0
    rw [tab_cons, lcD, h1, w_tst]
    refine h2 _ _ fun η1 x1 => ?_
    dsimp only
    cases eb : b 0 with
    | true =>
      dsimp only
      refine h3 η1 (x0.trans x1) _ _ fun η2 x2 => ?_
      refine lcD_filt r (fun i => f (i + 1)) (fun i => b (i + 1)) (fun i => it (i + 1)) n _ η2 (by omega) ((x0.trans x1).trans x2) (fun i hi => h (i + 1) (by omega)) fun η3 x3 => ?_
      have := hk η3 x3
      rw [tab_cons, List.flatten_cons, eb] at this
      rw [List.reverse_cons, List.append_assoc]
      exact this
    | false =>
      dsimp only
      have hl : ∀ m, lcD g (cTst T) e σ k (tab r (fun i => it (i + 1))) m acc η1 = lcD g (cTst T) e σ k (tab r (fun i => it (i + 1))) m acc η1 := fun _ => rfl
      refine lcD_filt r (fun i => f (i + 1)) (fun i => b (i + 1)) (fun i => it (i + 1)) n _ η1 (by omega) (x0.trans x1) (fun i hi => h (i + 1) (by omega)) fun η3 x3 => ?_
      have := hk η3 x3
      rw [tab_cons, List.flatten_cons, eb] at this
      exact this
/-- what was frozen is a list again -/
theorem Gr.unfz {η η3 : Hd} {r : Nat} {l : List D} (h : η.get r = some (.lst l)) (hr : r < η.nx) (x : Gr [] (frzAt r l η) η3) : Gr [] η (unfAt r l η3) := ⟨x.1, fun q hq => by
  have e3 : η3.get r = some (.frz l) := by rw [x.keep hr (by simp)]; exact get_set_eq h
  by_cases z : q = r
  · subst z
    exact .inl ((get_set_eq e3).trans h.symm)
  · refine .inl ?_
    show (η3.set r (.lst l)).get q = _
    rw [get_set_ne z, x.keep hq (by simp)]
    exact get_set_ne z⟩
theorem yn_lcF {i : CI} {g : CG} {e T : CE} {σ : SD} {η : Hd} {vs : List Nat} {r : Nat} {it f : Nat → D} {b : Nat → Bool} (hi : Iw S i σ η (tab r it)) (hr : r ≤ 1000000)
    (h : ∀ i, i < r → ∀ η1, Gr S η η1 → ∃ σ1, (∀ K kx, g (it i) (wipeD σ vs) η1 K kx = K σ1 η1) ∧ Yl S T σ1 η1 (.bl (b i)) ∧ ∀ η2, Gr S η η2 → Yl S e σ1 η2 (f i)) : Yn S (cLc i g (cTst T) e vs) σ η (tab r fun i => if b i then [f i] else []).flatten := fun kv kx hk => by
  unfold cLc
  refine hi _ _ fun η1 x1 => ?_
  show lcD g (cTst T) e (wipeD σ vs) _ (tab r it) line1 [] (Hd.bump η1) = true
  refine lcD_filt (S := S) (η0 := Hd.bump η1) r f b it line1 [] _ (by unfold line1; omega) (Gr.refl _ _) (fun i hi η2 x2 => by
    obtain ⟨σ1, a1, a2, a3⟩ := h i hi η2 ((x1.trans Gr.bump).trans x2)
    exact ⟨σ1, a1, a2, fun η3 x3 => a3 η3 ((x1.trans Gr.bump).trans x3)⟩) fun η2 x2 => ?_
  refine hk η1.nx _ ?_ x1.1 ?_ ?_
  · exact ((x1.trans Gr.bump).trans x2).add x1.1
  · exact Nat.lt_of_lt_of_le (Nat.lt_succ_self _) x2.1
  · rw [Hd.get_add, if_pos rfl]; rfl
end
end DL

/-! sums by lengths: the law's walk (printed by k27y.py) -/
namespace DL
open PySem PySem.Spec L2
section
variable {S : List Nat} {σ : SD} {η : Hd} {A B C : CE}
theorem iRow_purs {r : Nat} {f : Nat → Int} : purs 8 (iRow r f) = true := by
  unfold purs
  rw [List.all_eq_true]
  intro d hd
  unfold iRow tab at hd
  obtain ⟨i, _, rfl⟩ := List.mem_map.mp hd
  rfl
theorem fNe_lists {a b r : Nat} {f g : Nat → Int} (h1 : η.list a = some (iRow r f)) (h2 : η.list b = some (iRow r g)) (h : ∀ i, i < r → f i = g i) : fNe (.ref a) (.ref b) η = some (.bl false, η) := by
  have e : iRow r f = iRow r g := tab_ext fun i hi => by rw [h i hi]
  rw [e] at h1
  have h3 : eqL (eqn 8) (iRow r g) (iRow r g) = true := eqL_self fun d hd => by
    unfold iRow tab at hd
    obtain ⟨i, _, rfl⟩ := List.mem_map.mp hd
    show ieq (g i) (g i) = true
    rw [ieq_dec]; exact decide_eq_true rfl
  have : eqF η (.ref a) (.ref b) = some true := by simp only [eqF, h1, h2, iRow_purs, h3]
  simp only [fNe, this, Bool.not_true]
/-- a new list: the same, when more has grown -/
theorem yn_lcR {g : CG} {e : CE} {vs : List Nat} {v : D} {r : Nat} {it f : Nat → D} (hA : Ev A σ η v) (hv : Row S η v (tab r it)) (hr : r ≤ 1000000) (h : ∀ i, i < r → ∀ η1, ∃ σ1, (∀ K kx, g (it i) (wipeD σ vs) η1 K kx = K σ1 η1) ∧ Yl [] e σ1 η1 (f i)) : Yn S (cLc (ciSeq A) g ctYes e vs) σ η (tab r f) := by
  have hv' := hv.at_
  unfold rowAt at hv'
  split at hv'
  · cases hv'
    exact yn_lc (iw_seq (yl_ev hA)) hr fun i hi η1 x1 => by
      obtain ⟨σ1, a, b⟩ := h i hi η1
      exact ⟨σ1, a, fun kv kx hk => b kv kx fun η2 x2 => hk η2 (x2.sub fun _ h _ => nomatch h)⟩
  · rename_i q
    have lq := hv.lt q rfl
    intro kv kx hk
    unfold cLc ciSeq
    rw [hA]
    rcases list_cases hv' with gq | gq
    · have e1 : itsOf η (.ref q) = some ⟨tab r it, some (q, tab r it)⟩ := by simp only [itsOf, gq]
      rw [e1]
      show lcD g ctYes e (wipeD σ vs) _ (tab r it) line1 [] (Hd.bump (frzAt q (tab r it) η)) = true
      refine lcD_yl (S := []) (η0 := Hd.bump (frzAt q (tab r it) η)) f it r line1 [] _ (by unfold line1; omega) (Gr.refl _ _) (fun i hi η2 _ => h i hi η2) fun η2 x2 => ?_
      show kv (.ref η.nx) ((unfAt q (tab r it) η2).add η.nx (.lst ([].reverse ++ tab r f))) = true
      have x' : Gr [] (frzAt q (tab r it) η) η2 := Gr.bump.trans x2
      have x3 := Gr.unfz gq lq x'
      refine hk η.nx _ ((x3.sub fun _ h _ => nomatch h).add (Nat.le_refl _)) (Nat.le_refl _) ?_ ?_
      · show η.nx < η2.nx
        exact Nat.lt_of_lt_of_le (Nat.lt_succ_self _) x2.1
      · rw [Hd.get_add, if_pos rfl]; rfl
    · have e1 : itsOf η (.ref q) = some ⟨tab r it, none⟩ := by simp only [itsOf, gq]
      rw [e1]
      show lcD g ctYes e (wipeD σ vs) _ (tab r it) line1 [] (Hd.bump η) = true
      refine lcD_yl (S := []) (η0 := Hd.bump η) f it r line1 [] _ (by unfold line1; omega) (Gr.refl _ _) (fun i hi η2 _ => h i hi η2) fun η2 x2 => ?_
      refine hk η.nx _ (((Gr.bump.trans x2).sub fun _ h _ => nomatch h).add (Nat.le_refl _)) (Nat.le_refl _) ?_ ?_
      · show η.nx < η2.nx
        exact Nat.lt_of_lt_of_le (Nat.lt_succ_self _) x2.1
      · rw [Hd.get_add, if_pos rfl]; rfl
  · cases hv'
end
section
variable {N n bot : Nat} {len : Nat → Int} {x : Nat → Nat → Int} {s : Nat → Nat → Nat} {c : Nat} {Fw Fth : CF} {w : Int} {z y : Nat → Int} {q : Nat}
/-- the cells -/
structure H27 (N n : Nat) (len : Nat → Int) (c : Nat) (η : Hd) : Prop where
  dice : η.get 0 = some .dice
  I : Ins c 1 (sF N n len) η
theorem H27.mono {S : List Nat} {η η' : Hd} (h : H27 N n len c η) (x : Gr S η η') : H27 N n len c η' := ⟨x.get (by have := h.I.lt; omega) h.dice (fun _ e => nomatch e), h.I.mono x⟩
structure R27 (N : Nat) (z y : Nat → Int) (q : Nat) (η : Hd) : Prop where
  a : η.list q = some (iRow N z)
  b : η.list (q + 1) = some (iRow N y)
  l : q + 1 < η.nx
  z9 : ∀ k, k < N → (z k).natAbs ≤ 4
  y9 : ∀ k, k < N → (y k).natAbs ≤ 4
theorem R27.mono {S : List Nat} {η η' : Hd} (h : R27 N z y q η) (x : Gr S η η') : R27 N z y q η' := ⟨x.list (by have := h.l; omega) h.a, x.list h.l h.b, Nat.lt_of_lt_of_le h.l x.1, h.z9, h.y9⟩
theorem R27.ra {η : Hd} (h : R27 N z y q η) : Row [q, q + 1] η (.ref q) (iRow N z) := ⟨h.a, fun _ e => by cases e; have := h.l; omega, fun _ e => by cases e; simp⟩
theorem R27.S {η : Hd} (h : R27 N z y q η) : ∀ p ∈ [q, q + 1], p < η.nx := fun p hp => by
  have := h.l
  simp only [List.mem_cons, List.not_mem_nil, or_false] at hp
  omega

end
end DL

/-! determinants of two, three, four rows (printed by k30a.py) -/
namespace DL
abbrev Mt := Nat → Nat → Int
def adR (m : Mt) (k d : Nat) (t : Int) : Mt := fun i j => if i = k then m k j + t * m d j else m i j
def swapR (m : Mt) (a b : Nat) : Mt := fun i j => if i = a then m b j else if i = b then m a j else m i j
def scaleR (m : Mt) (d : Nat) (u : Int) : Mt := fun i j => if i = d then m d j * u else m i j
def prodTo (t : Nat) (f : Nat → Int) : Int := match t with
  | 0 => 1
  | t + 1 => prodTo t f * f t
structure DetOk (n : Nat) (det : Mt → Int) : Prop where
  ext : ∀ {m m' : Mt}, (∀ i c, i < n → c < n → m i c = m' i c) → det m = det m'
  cong : ∀ {m m' : Mt} {p : Int}, (∀ i c, i < n → c < n → m i c % p = m' i c % p) → det m % p = det m' % p
  add : ∀ {m : Mt} {k d : Nat} {t : Int}, k < n → d < n → k ≠ d → det (adR m k d t) = det m
  swap : ∀ {m : Mt} {a b : Nat}, a < n → b < n → a ≠ b → det (swapR m a b) = -det m
  scale : ∀ {m : Mt} {d : Nat} {u : Int}, d < n → det (scaleR m d u) = det m * u
  zero : ∀ {m : Mt} {i : Nat}, i < n → (∀ c, c < n → m i c = 0) → det m = 0
  diag : ∀ {m : Mt}, (∀ i c, i < n → c < n → i ≠ c → m i c = 0) → det m = prodTo n (fun i => m i i)
  col : ∀ {m : Mt} {j : Nat}, j < n → (∀ i c, i < n → c < j → i ≠ c → m i c = 0) → (∀ i, j ≤ i → i < n → m i j = 0) → det m = 0
def det2 (m : Mt) : Int := m 0 0 * m 1 1 - m 0 1 * m 1 0
def det3 (m : Mt) : Int := m 0 0 * (m 1 1 * m 2 2 - m 1 2 * m 2 1) - m 0 1 * (m 1 0 * m 2 2 - m 1 2 * m 2 0) + m 0 2 * (m 1 0 * m 2 1 - m 1 1 * m 2 0)
def det4 (m : Mt) : Int :=
  (m 0 0 * m 1 1 - m 0 1 * m 1 0) * (m 2 2 * m 3 3 - m 2 3 * m 3 2) - (m 0 0 * m 1 2 - m 0 2 * m 1 0) * (m 2 1 * m 3 3 - m 2 3 * m 3 1) + (m 0 0 * m 1 3 - m 0 3 * m 1 0) * (m 2 1 * m 3 2 - m 2 2 * m 3 1)
  + (m 0 1 * m 1 2 - m 0 2 * m 1 1) * (m 2 0 * m 3 3 - m 2 3 * m 3 0) - (m 0 1 * m 1 3 - m 0 3 * m 1 1) * (m 2 0 * m 3 2 - m 2 2 * m 3 0) + (m 0 2 * m 1 3 - m 0 3 * m 1 2) * (m 2 0 * m 3 1 - m 2 1 * m 3 0)
theorem em_add {p a b c d : Int} (h : a % p = b % p) (k : c % p = d % p) : (a + c) % p = (b + d) % p := by rw [Int.add_emod, h, k, ← Int.add_emod]
theorem em_mul {p a b c d : Int} (h : a % p = b % p) (k : c % p = d % p) : (a * c) % p = (b * d) % p := by rw [Int.mul_emod, h, k, ← Int.mul_emod]
theorem em_sub {p a b c d : Int} (h : a % p = b % p) (k : c % p = d % p) : (a - c) % p = (b - d) % p := by rw [Int.sub_emod, h, k, ← Int.sub_emod]

theorem ext2 {m m' : Mt} (h : ∀ i c, i < 2 → c < 2 → m i c = m' i c) : det2 m = det2 m' := by
  simp only [det2, h 0 0 (by decide) (by decide), h 0 1 (by decide) (by decide), h 1 0 (by decide) (by decide), h 1 1 (by decide) (by decide)]
theorem cong2 {m m' : Mt} {p : Int} (h : ∀ i c, i < 2 → c < 2 → m i c % p = m' i c % p) : det2 m % p = det2 m' % p := by
  unfold det2
  repeat (first | exact h _ _ (by decide) (by decide) | apply em_sub | apply em_add | apply em_mul)
theorem add2 {m : Mt} {k d : Nat} {t : Int} (hk : k < 2) (hd : d < 2) (h : k ≠ d) : det2 (adR m k d t) = det2 m := by
  have e1 : k = 0 ∨ k = 1 := by omega
  have e2 : d = 0 ∨ d = 1 := by omega
  rcases e1 with e1 | e1 <;> rcases e2 with e2 | e2 <;> subst e1 e2 <;> first | (exact absurd rfl h) | (simp only [det2, adR, swapR, scaleR, reduceIte, Nat.reduceEqDiff]; grind)
theorem swap2 {m : Mt} {a b : Nat} (ha : a < 2) (hb : b < 2) (h : a ≠ b) : det2 (swapR m a b) = -det2 m := by
  have e1 : a = 0 ∨ a = 1 := by omega
  have e2 : b = 0 ∨ b = 1 := by omega
  rcases e1 with e1 | e1 <;> rcases e2 with e2 | e2 <;> subst e1 e2 <;> first | (exact absurd rfl h) | (simp only [det2, adR, swapR, scaleR, reduceIte, Nat.reduceEqDiff]; grind)
theorem scale2 {m : Mt} {d : Nat} {u : Int} (hd : d < 2) : det2 (scaleR m d u) = det2 m * u := by
  have e1 : d = 0 ∨ d = 1 := by omega
  rcases e1 with e1 | e1 <;> subst e1 <;> (simp only [det2, adR, swapR, scaleR, reduceIte, Nat.reduceEqDiff]; grind)
theorem zero2 {m : Mt} {i : Nat} (hi : i < 2) (h : ∀ c, c < 2 → m i c = 0) : det2 m = 0 := by
  have e1 : i = 0 ∨ i = 1 := by omega
  rcases e1 with e1 | e1 <;> subst e1 <;> (simp only [det2, h 0 (by decide), h 1 (by decide)]; grind)
theorem diag2 {m : Mt} (h : ∀ i c, i < 2 → c < 2 → i ≠ c → m i c = 0) : det2 m = prodTo 2 (fun i => m i i) := by
  simp only [det2, prodTo, h 0 1 (by decide) (by decide) (by decide), h 1 0 (by decide) (by decide) (by decide)]
  grind
theorem col2 {m : Mt} {j : Nat} (hj : j < 2) (h : ∀ i c, i < 2 → c < j → i ≠ c → m i c = 0) (h2 : ∀ i, j ≤ i → i < 2 → m i j = 0) : det2 m = 0 := by
  have e1 : j = 0 ∨ j = 1 := by omega
  rcases e1 with e1 | e1
  · subst e1; simp only [det2, h2 0 (by decide) (by decide), h2 1 (by decide) (by decide)]; grind
  · subst e1; simp only [det2, h 1 0 (by decide) (by decide) (by decide), h2 1 (by decide) (by decide)]; grind
theorem detOk2 : DetOk 2 det2 := ⟨ext2, cong2, add2, swap2, scale2, zero2, diag2, col2⟩
theorem ext3 {m m' : Mt} (h : ∀ i c, i < 3 → c < 3 → m i c = m' i c) : det3 m = det3 m' := by
  simp only [det3, h 0 0 (by decide) (by decide), h 0 1 (by decide) (by decide), h 0 2 (by decide) (by decide), h 1 0 (by decide) (by decide), h 1 1 (by decide) (by decide), h 1 2 (by decide) (by decide), h 2 0 (by decide) (by decide), h 2 1 (by decide) (by decide), h 2 2 (by decide) (by decide)]
theorem cong3 {m m' : Mt} {p : Int} (h : ∀ i c, i < 3 → c < 3 → m i c % p = m' i c % p) : det3 m % p = det3 m' % p := by
  unfold det3
  repeat (first | exact h _ _ (by decide) (by decide) | apply em_sub | apply em_add | apply em_mul)
theorem add3 {m : Mt} {k d : Nat} {t : Int} (hk : k < 3) (hd : d < 3) (h : k ≠ d) : det3 (adR m k d t) = det3 m := by
  have e1 : k = 0 ∨ k = 1 ∨ k = 2 := by omega
  have e2 : d = 0 ∨ d = 1 ∨ d = 2 := by omega
  rcases e1 with e1 | e1 | e1 <;> rcases e2 with e2 | e2 | e2 <;> subst e1 e2 <;> first | (exact absurd rfl h) | (simp only [det3, adR, swapR, scaleR, reduceIte, Nat.reduceEqDiff]; grind)
theorem swap3 {m : Mt} {a b : Nat} (ha : a < 3) (hb : b < 3) (h : a ≠ b) : det3 (swapR m a b) = -det3 m := by
  have e1 : a = 0 ∨ a = 1 ∨ a = 2 := by omega
  have e2 : b = 0 ∨ b = 1 ∨ b = 2 := by omega
  rcases e1 with e1 | e1 | e1 <;> rcases e2 with e2 | e2 | e2 <;> subst e1 e2 <;> first | (exact absurd rfl h) | (simp only [det3, adR, swapR, scaleR, reduceIte, Nat.reduceEqDiff]; grind)
theorem scale3 {m : Mt} {d : Nat} {u : Int} (hd : d < 3) : det3 (scaleR m d u) = det3 m * u := by
  have e1 : d = 0 ∨ d = 1 ∨ d = 2 := by omega
  rcases e1 with e1 | e1 | e1 <;> subst e1 <;> (simp only [det3, adR, swapR, scaleR, reduceIte, Nat.reduceEqDiff]; grind)
theorem zero3 {m : Mt} {i : Nat} (hi : i < 3) (h : ∀ c, c < 3 → m i c = 0) : det3 m = 0 := by
  have e1 : i = 0 ∨ i = 1 ∨ i = 2 := by omega
  rcases e1 with e1 | e1 | e1 <;> subst e1 <;> (simp only [det3, h 0 (by decide), h 1 (by decide), h 2 (by decide)]; grind)
theorem diag3 {m : Mt} (h : ∀ i c, i < 3 → c < 3 → i ≠ c → m i c = 0) : det3 m = prodTo 3 (fun i => m i i) := by
  simp only [det3, prodTo, h 0 1 (by decide) (by decide) (by decide), h 0 2 (by decide) (by decide) (by decide), h 1 0 (by decide) (by decide) (by decide), h 1 2 (by decide) (by decide) (by decide), h 2 0 (by decide) (by decide) (by decide), h 2 1 (by decide) (by decide) (by decide)]
  grind
theorem col3 {m : Mt} {j : Nat} (hj : j < 3) (h : ∀ i c, i < 3 → c < j → i ≠ c → m i c = 0) (h2 : ∀ i, j ≤ i → i < 3 → m i j = 0) : det3 m = 0 := by
  have e1 : j = 0 ∨ j = 1 ∨ j = 2 := by omega
  rcases e1 with e1 | e1 | e1
  · subst e1; simp only [det3, h2 0 (by decide) (by decide), h2 1 (by decide) (by decide), h2 2 (by decide) (by decide)]; grind
  · subst e1; simp only [det3, h 1 0 (by decide) (by decide) (by decide), h 2 0 (by decide) (by decide) (by decide), h2 1 (by decide) (by decide), h2 2 (by decide) (by decide)]; grind
  · subst e1; simp only [det3, h 0 1 (by decide) (by decide) (by decide), h 1 0 (by decide) (by decide) (by decide), h 2 0 (by decide) (by decide) (by decide), h 2 1 (by decide) (by decide) (by decide), h2 2 (by decide) (by decide)]; grind
theorem detOk3 : DetOk 3 det3 := ⟨ext3, cong3, add3, swap3, scale3, zero3, diag3, col3⟩
theorem ext4 {m m' : Mt} (h : ∀ i c, i < 4 → c < 4 → m i c = m' i c) : det4 m = det4 m' := by
  simp only [det4, h 0 0 (by decide) (by decide), h 0 1 (by decide) (by decide), h 0 2 (by decide) (by decide), h 0 3 (by decide) (by decide), h 1 0 (by decide) (by decide), h 1 1 (by decide) (by decide), h 1 2 (by decide) (by decide), h 1 3 (by decide) (by decide), h 2 0 (by decide) (by decide), h 2 1 (by decide) (by decide), h 2 2 (by decide) (by decide), h 2 3 (by decide) (by decide), h 3 0 (by decide) (by decide), h 3 1 (by decide) (by decide), h 3 2 (by decide) (by decide), h 3 3 (by decide) (by decide)]
theorem cong4 {m m' : Mt} {p : Int} (h : ∀ i c, i < 4 → c < 4 → m i c % p = m' i c % p) : det4 m % p = det4 m' % p := by
  unfold det4
  repeat (first | exact h _ _ (by decide) (by decide) | apply em_sub | apply em_add | apply em_mul)
theorem add4 {m : Mt} {k d : Nat} {t : Int} (hk : k < 4) (hd : d < 4) (h : k ≠ d) : det4 (adR m k d t) = det4 m := by
  have e1 : k = 0 ∨ k = 1 ∨ k = 2 ∨ k = 3 := by omega
  have e2 : d = 0 ∨ d = 1 ∨ d = 2 ∨ d = 3 := by omega
  rcases e1 with e1 | e1 | e1 | e1 <;> rcases e2 with e2 | e2 | e2 | e2 <;> subst e1 e2 <;> first | (exact absurd rfl h) | (simp only [det4, adR, swapR, scaleR, reduceIte, Nat.reduceEqDiff]; grind)
theorem swap4 {m : Mt} {a b : Nat} (ha : a < 4) (hb : b < 4) (h : a ≠ b) : det4 (swapR m a b) = -det4 m := by
  have e1 : a = 0 ∨ a = 1 ∨ a = 2 ∨ a = 3 := by omega
  have e2 : b = 0 ∨ b = 1 ∨ b = 2 ∨ b = 3 := by omega
  rcases e1 with e1 | e1 | e1 | e1 <;> rcases e2 with e2 | e2 | e2 | e2 <;> subst e1 e2 <;> first | (exact absurd rfl h) | (simp only [det4, adR, swapR, scaleR, reduceIte, Nat.reduceEqDiff]; grind)
theorem scale4 {m : Mt} {d : Nat} {u : Int} (hd : d < 4) : det4 (scaleR m d u) = det4 m * u := by
  have e1 : d = 0 ∨ d = 1 ∨ d = 2 ∨ d = 3 := by omega
  rcases e1 with e1 | e1 | e1 | e1 <;> subst e1 <;> (simp only [det4, adR, swapR, scaleR, reduceIte, Nat.reduceEqDiff]; grind)
theorem zero4 {m : Mt} {i : Nat} (hi : i < 4) (h : ∀ c, c < 4 → m i c = 0) : det4 m = 0 := by
  have e1 : i = 0 ∨ i = 1 ∨ i = 2 ∨ i = 3 := by omega
  rcases e1 with e1 | e1 | e1 | e1 <;> subst e1 <;> (simp only [det4, h 0 (by decide), h 1 (by decide), h 2 (by decide), h 3 (by decide)]; grind)
theorem diag4 {m : Mt} (h : ∀ i c, i < 4 → c < 4 → i ≠ c → m i c = 0) : det4 m = prodTo 4 (fun i => m i i) := by
  simp only [det4, prodTo, h 0 1 (by decide) (by decide) (by decide), h 0 2 (by decide) (by decide) (by decide), h 0 3 (by decide) (by decide) (by decide), h 1 0 (by decide) (by decide) (by decide), h 1 2 (by decide) (by decide) (by decide), h 1 3 (by decide) (by decide) (by decide), h 2 0 (by decide) (by decide) (by decide), h 2 1 (by decide) (by decide) (by decide), h 2 3 (by decide) (by decide) (by decide), h 3 0 (by decide) (by decide) (by decide), h 3 1 (by decide) (by decide) (by decide), h 3 2 (by decide) (by decide) (by decide)]
  grind
theorem col4 {m : Mt} {j : Nat} (hj : j < 4) (h : ∀ i c, i < 4 → c < j → i ≠ c → m i c = 0) (h2 : ∀ i, j ≤ i → i < 4 → m i j = 0) : det4 m = 0 := by
  have e1 : j = 0 ∨ j = 1 ∨ j = 2 ∨ j = 3 := by omega
  rcases e1 with e1 | e1 | e1 | e1
  · subst e1; simp only [det4, h2 0 (by decide) (by decide), h2 1 (by decide) (by decide), h2 2 (by decide) (by decide), h2 3 (by decide) (by decide)]; grind
  · subst e1; simp only [det4, h 1 0 (by decide) (by decide) (by decide), h 2 0 (by decide) (by decide) (by decide), h 3 0 (by decide) (by decide) (by decide), h2 1 (by decide) (by decide), h2 2 (by decide) (by decide), h2 3 (by decide) (by decide)]; grind
  · subst e1; simp only [det4, h 0 1 (by decide) (by decide) (by decide), h 1 0 (by decide) (by decide) (by decide), h 2 0 (by decide) (by decide) (by decide), h 2 1 (by decide) (by decide) (by decide), h 3 0 (by decide) (by decide) (by decide), h 3 1 (by decide) (by decide) (by decide), h2 2 (by decide) (by decide), h2 3 (by decide) (by decide)]; grind
  · subst e1; simp only [det4, h 0 1 (by decide) (by decide) (by decide), h 0 2 (by decide) (by decide) (by decide), h 1 0 (by decide) (by decide) (by decide), h 1 2 (by decide) (by decide) (by decide), h 2 0 (by decide) (by decide) (by decide), h 2 1 (by decide) (by decide) (by decide), h 3 0 (by decide) (by decide) (by decide), h 3 1 (by decide) (by decide) (by decide), h 3 2 (by decide) (by decide) (by decide), h2 3 (by decide) (by decide)]; grind
theorem detOk4 : DetOk 4 det4 := ⟨ext4, cong4, add4, swap4, scale4, zero4, diag4, col4⟩
end DL

/-! grids by a prime: rows cleared, in plain words -/
namespace DL
/-- what is asked of a prime -/
structure PrOk (p : Int) (e : Nat) : Prop where
  p2 : 2 ≤ p
  p9 : p ≤ 100
  pe : p - 2 = Int.ofNat e
  e9 : e ≤ 100
  inv : ∀ x, 0 < x → x < p → (x * pw x p e) % p = 1
  dom : ∀ x y, 0 < x → x < p → 0 < y → y < p → (x * y) % p ≠ 0
theorem prOk_of (p : Int) (e : Nat) (n : Nat) (hn : p = Int.ofNat n) (h : (decide (2 ≤ p) && (decide (p ≤ 100) && (decide (p - 2 = Int.ofNat e) && (decide (e ≤ 100) && ((List.range n).all fun x => x == 0 || (decide ((Int.ofNat x * pw (Int.ofNat x) p e) % p = 1) && (List.range n).all fun y => y == 0 || decide ((Int.ofNat x * Int.ofNat y) % p ≠ 0))))))) = true) : PrOk p e := by
  obtain ⟨h1, h⟩ := Bool.and_eq_true_iff.mp h
  obtain ⟨h2, h⟩ := Bool.and_eq_true_iff.mp h
  obtain ⟨h3, h⟩ := Bool.and_eq_true_iff.mp h
  obtain ⟨h4, h⟩ := Bool.and_eq_true_iff.mp h
  have key : ∀ x : Int, 0 < x → x < p → ∃ k : Nat, x = Int.ofNat k ∧ k ∈ List.range n ∧ (k == 0) = false := fun x h0 h1 => by
    refine ⟨x.toNat, by show x = ((x.toNat : Nat) : Int); omega, ?_, ?_⟩
    · rw [List.mem_range]
      have : p = ((n : Nat) : Int) := hn
      omega
    · rw [beq_eq_false_iff_ne]; omega
  refine ⟨of_decide_eq_true h1, of_decide_eq_true h2, of_decide_eq_true h3, of_decide_eq_true h4, fun x h0 h1 => ?_, fun x y h0 h1 h2 h3 => ?_⟩
  · obtain ⟨k, rfl, hk, k0⟩ := key x h0 h1
    have := List.all_eq_true.mp h k hk
    rw [k0, Bool.false_or] at this
    exact of_decide_eq_true (Bool.and_eq_true_iff.mp this).1
  · obtain ⟨k, rfl, hk, k0⟩ := key x h0 h1
    obtain ⟨l, rfl, hl, l0⟩ := key y h2 h3
    have := List.all_eq_true.mp h k hk
    rw [k0, Bool.false_or] at this
    have := List.all_eq_true.mp (Bool.and_eq_true_iff.mp this).2 l hl
    rw [l0, Bool.false_or] at this
    exact of_decide_eq_true this
section
variable {n : Nat} {det : Mt → Int} {p : Int} {e : Nat}
theorem emod_of_lt {a : Int} (h0 : 0 ≤ a) (h1 : a < p) : a % p = a := Int.emod_eq_of_lt h0 h1
theorem PrOk.rg (P : PrOk p e) (a : Int) : 0 ≤ a % p ∧ a % p < p := ⟨Int.emod_nonneg _ (by have := P.p2; omega), Int.emod_lt_of_pos _ (by have := P.p2; omega)⟩
theorem PrOk.mul0 (P : PrOk p e) {a b : Int} (ha : a % p ≠ 0) (hb : b % p ≠ 0) : (a * b) % p ≠ 0 := by
  rw [Int.mul_emod]
  have h1 := P.rg a
  have h2 := P.rg b
  exact P.dom _ _ (by omega) h1.2 (by omega) h2.2
/-- all rows but d less so many times d -/
def elimR (p : Int) (m : Mt) (d j : Nat) : Mt := fun i c => if i = d then m d c else (m i c - m i j * m d c) % p
def elimZ (m : Mt) (d j : Nat) (t : Nat) : Mt := fun i c => if i = d then m d c else if i < t then m i c - m i j * m d c else m i c
theorem det_elim (D : DetOk n det) {m : Mt} {d j : Nat} (hd : d < n) : det (elimR p m d j) % p = det m % p := by
  have h1 : ∀ t, t ≤ n → det (elimZ m d j t) = det m := by
    intro t
    induction t with
    | zero =>
      intro _
      refine D.ext fun i c _ _ => ?_
      unfold elimZ
      by_cases e : i = d
      · rw [if_pos e, e]
      · rw [if_neg e, if_neg (by omega)]
    | succ t ih =>
      intro ht
      rw [← ih (by omega)]
      by_cases e : t = d
      · refine D.ext fun i c _ _ => ?_
        unfold elimZ
        by_cases e2 : i = d
        · rw [if_pos e2, if_pos e2]
        · rw [if_neg e2, if_neg e2]
          by_cases e3 : i < t
          · rw [if_pos e3, if_pos (by omega)]
          · rw [if_neg e3, if_neg (by omega)]
      · rw [← D.add (m := elimZ m d j t) (k := t) (d := d) (t := -(m t j)) (by omega) hd e]
        refine D.ext fun i c _ _ => ?_
        unfold adR elimZ
        by_cases e2 : i = t
        · subst e2
          rw [if_pos rfl, if_neg e, if_pos (by omega), if_neg e, if_neg (by omega), if_pos rfl, Int.neg_mul]
          omega
        · rw [if_neg e2]
          by_cases e3 : i = d
          · rw [if_pos e3, if_pos e3]
          · rw [if_neg e3, if_neg e3]
            by_cases e4 : i < t
            · rw [if_pos e4, if_pos (by omega)]
            · rw [if_neg e4, if_neg (by omega)]
  rw [← h1 n (Nat.le_refl _)]
  refine D.cong fun i c hi _ => ?_
  unfold elimR elimZ
  by_cases e : i = d
  · rw [if_pos e, if_pos e]
  · rw [if_neg e, if_neg e, if_pos hi, Int.emod_emod]
structure ClI (n : Nat) (det : Mt → Int) (p : Int) (m0 : Mt) (j d : Nat) (w : Int) (m : Mt) : Prop where
  rg : ∀ i c, i < n → c < n → 0 ≤ m i c ∧ m i c < p
  dt : det m0 % p = (w * det m) % p
  w0 : w % p ≠ 0
  wb : w.natAbs ≤ 1000
  dj : d ≤ j
  jn : j ≤ n
  ec : ∀ i c, d ≤ i → i < n → c < j → m i c = 0
  un : d = j → ∀ i c, i < n → c < j → m i c = if i = c then 1 else 0
  nz : ∀ i, i < d → ∃ c, c < j ∧ m i c ≠ 0
theorem ClI.start (P : PrOk p e) {m0 : Mt} (h : ∀ i c, i < n → c < n → 0 ≤ m0 i c ∧ m0 i c < p) : ClI n det p m0 0 0 1 m0 :=
  ⟨h, by rw [Int.one_mul], by have := P.p2; rw [emod_of_lt (by omega) (by omega)]; decide, by decide, Nat.le_refl _, Nat.zero_le _, fun i c _ _ hc => absurd hc (by omega), fun _ i c _ hc => absurd hc (by omega), fun i hi => absurd hi (by omega)⟩
theorem ClI.none {m0 m : Mt} {j d : Nat} {w : Int} (C : ClI n det p m0 j d w m) (hj : j < n) (h : ∀ i, d ≤ i → i < n → m i j = 0) : ClI n det p m0 (j + 1) d w m :=
  ⟨C.rg, C.dt, C.w0, C.wb, Nat.le_succ_of_le C.dj, hj, fun i c h1 h2 h3 => by
    by_cases e : c = j
    · rw [e]; exact h i h1 h2
    · exact C.ec i c h1 h2 (by omega), fun e => absurd C.dj (by omega), fun i hi => by
    obtain ⟨c, h1, h2⟩ := C.nz i hi
    exact ⟨c, by omega, h2⟩⟩
def swR (m : Mt) (d h : Nat) : Mt := if h = d then m else swapR m d h
def swW (w : Int) (d h : Nat) : Int := if h = d then w else -w
def scR (p : Int) (m : Mt) (d : Nat) (u : Int) : Mt := fun i c => if i = d then m d c * u % p else m i c
theorem ClI.hit (D : DetOk n det) (P : PrOk p e) {m0 m : Mt} {j d h : Nat} {w u : Int} (C : ClI n det p m0 j d w m) (hj : j < n) (h1 : d ≤ h) (h2 : h < n) (h3 : m h j ≠ 0) (hu : (m h j * u) % p = 1) :
    ClI n det p m0 (j + 1) (d + 1) (swW w d h * m h j % p) (elimR p (scR p (swR m d h) d u) d j) := by
  have hp := P.p2
  have hd : d < n := by omega
  have dj := C.dj
  generalize hm1 : swR m d h = m1
  have r1 : ∀ i c, i < n → c < n → 0 ≤ m1 i c ∧ m1 i c < p := fun i c hi hc => by
    rw [← hm1]; unfold swR
    by_cases e : h = d
    · rw [if_pos e]; exact C.rg i c hi hc
    · rw [if_neg e]; unfold swapR
      split
      · exact C.rg h c h2 hc
      · split
        · exact C.rg d c hd hc
        · exact C.rg i c hi hc
  have x1 : ∀ c, m1 d c = m h c := fun c => by
    rw [← hm1]; unfold swR
    by_cases e : h = d
    · rw [if_pos e, e]
    · rw [if_neg e]; unfold swapR; rw [if_pos rfl]
  have o1 : ∀ i c, i < d → m1 i c = m i c := fun i c hi => by
    rw [← hm1]; unfold swR
    by_cases e : h = d
    · rw [if_pos e]
    · rw [if_neg e]; unfold swapR; rw [if_neg (by omega), if_neg (by omega)]
  have z1 : ∀ i c, d ≤ i → i < n → c < j → m1 i c = 0 := fun i c hi hin hc => by
    rw [← hm1]; unfold swR
    by_cases e : h = d
    · rw [if_pos e]; exact C.ec i c hi hin hc
    · rw [if_neg e]; unfold swapR
      split
      · exact C.ec h c h1 h2 hc
      · split
        · exact C.ec d c (Nat.le_refl _) hd hc
        · exact C.ec i c hi hin hc
  have d1 : swW w d h * det m1 = w * det m := by
    rw [← hm1]; unfold swW swR
    by_cases e : h = d
    · rw [if_pos e, if_pos e]
    · rw [if_neg e, if_neg e, D.swap hd h2 (fun z => e z.symm), Int.neg_mul_neg]
  generalize hm2 : scR p m1 d u = m2
  have a2 : ∀ c, m2 d c = m h c * u % p := fun c => by rw [← hm2]; unfold scR; rw [if_pos rfl, x1]
  have b2 : ∀ i c, i ≠ d → m2 i c = m1 i c := fun i c hi => by rw [← hm2]; unfold scR; rw [if_neg hi]
  have s2 : ∀ c, c < j → m2 d c = 0 := fun c hc => by rw [a2, C.ec h c h1 h2 hc, Int.zero_mul, Int.zero_emod]
  have t2 : m2 d j = 1 := by rw [a2, hu]
  have d2 : det m2 % p = (det m1 * u) % p := by
    rw [← D.scale hd]
    refine D.cong fun i c _ _ => ?_
    rw [← hm2]; unfold scR scaleR
    by_cases e : i = d
    · rw [if_pos e, if_pos e, Int.emod_emod]
    · rw [if_neg e, if_neg e]
  have hx := C.rg h j h2 hj
  have xm : m h j % p ≠ 0 := by rw [emod_of_lt hx.1 hx.2]; exact h3
  have w1 : swW w d h % p ≠ 0 := by
    unfold swW
    split
    · exact C.w0
    · intro z
      exact C.w0 (by
        have : p ∣ -w := Int.dvd_of_emod_eq_zero z
        exact Int.emod_eq_zero_of_dvd (Int.dvd_neg.mp this))
  have e3 : ∀ i c, i ≠ d → elimR p m2 d j i c = (m1 i c - m1 i j * m2 d c) % p := fun i c hi => by
    unfold elimR; rw [if_neg hi, b2 i c hi, b2 i j hi]
  have f3 : ∀ c, elimR p m2 d j d c = m2 d c := fun c => by unfold elimR; rw [if_pos rfl]
  have low : ∀ i c, i ≠ d → i < n → c < j → elimR p m2 d j i c = m1 i c := fun i c hi hin hc => by
    rw [e3 i c hi, s2 c hc, Int.mul_zero, Int.sub_zero]
    have := r1 i c hin (by omega)
    exact emod_of_lt this.1 this.2
  have colj : ∀ i, i ≠ d → elimR p m2 d j i j = 0 := fun i hi => by
    rw [e3 i j hi, t2, Int.mul_one, Int.sub_self, Int.zero_emod]
  refine ⟨fun i c hi hc => ?_, ?_, ?_, ?_, by omega, hj, fun i c h4 h5 h6 => ?_, fun ee i c hi hc => ?_, fun i hi => ?_⟩
  · by_cases e : i = d
    · rw [e, f3, a2]; exact P.rg _
    · rw [e3 i c e]; exact P.rg _
  · rw [C.dt, ← d1]
    have g1 : (swW w d h * m h j % p * det (elimR p m2 d j)) % p = (swW w d h * m h j * (det m1 * u)) % p := by
      refine em_mul (by rw [Int.emod_emod]) ?_
      rw [det_elim D hd, d2]
    rw [g1]
    have g2 : swW w d h * m h j * (det m1 * u) = (swW w d h * det m1) * (m h j * u) := by
      rw [Int.mul_assoc, Int.mul_assoc, Int.mul_left_comm (m h j)]
    have g3 : (swW w d h * det m1 * (m h j * u)) % p = (swW w d h * det m1 * 1) % p := em_mul rfl (by rw [hu, emod_of_lt (by omega) (by omega)])
    rw [g2, g3, Int.mul_one]
  · rw [Int.emod_emod]; exact P.mul0 w1 xm
  · have := P.rg (swW w d h * m h j)
    have := P.p9
    omega
  · have ne : i ≠ d := by omega
    by_cases e : c = j
    · rw [e]; exact colj i ne
    · rw [low i c ne h5 (by omega)]; exact z1 i c (by omega) h5 (by omega)
  · have de : d = j := by omega
    by_cases e : c = j
    · rw [e]
      by_cases e2 : i = d
      · rw [e2, f3, t2, if_pos (by omega)]
      · rw [colj i e2, if_neg (by omega)]
    · have hc' : c < j := by omega
      by_cases e2 : i = d
      · rw [e2, f3, s2 c hc', if_neg (by omega)]
      · rw [low i c e2 hi hc']
        by_cases e4 : i < d
        · rw [o1 i c e4]; exact C.un de i c hi hc'
        · rw [z1 i c (by omega) hi hc', if_neg (by omega)]
  · by_cases e : i = d
    · exact ⟨j, by omega, by rw [e, f3, t2]; decide⟩
    · obtain ⟨c, h4, h5⟩ := C.nz i (by omega)
      refine ⟨c, by omega, ?_⟩
      rw [low i c e (by omega) h4, o1 i c (by omega)]
      exact h5
end
end DL

/-! grids by a prime: lists of lists; rows cleared, walked -/
namespace DL
open PySem PySem.Spec L2
section
variable {S : List Nat} {σ : SD} {η η0 η' : Hd} {A B C : CE}
theorem range_tab : ∀ (r i : Nat), rangeD r (Int.ofNat i) = tab r (fun q => iD (Int.ofNat (i + q)))
  | 0, i => rfl
  | r + 1, i => by
    rw [rangeD, tab_cons]
    have := range_tab r (i + 1)
    rw [show Int.ofNat i + 1 = Int.ofNat (i + 1) from rfl, this]
    congr 1
    exact tab_ext fun q _ => by rw [show i + 1 + q = i + (q + 1) by omega]
theorem it_r2 {i j : Nat} (a : Ev A σ η (.int (Int.ofNat i))) (b : Ev B σ η (.int (Int.ofNat j))) (hj : i ≤ j) (h : j ≤ 1000000000000000000) : Itw (ciR2 (cCons A (cCons B cNil))) σ η (tab (j - i) (fun q => iD (Int.ofNat (i + q)))) η := fun k kx => by
  unfold ciR2
  rw [eva2 a b]
  have h1 : rOk (Int.ofNat i) = true := Nat.ble_eq_true_of_le (Nat.le_trans hj h)
  have h2 : rOk (Int.ofNat j) = true := Nat.ble_eq_true_of_le h
  have e : (Int.ofNat j - Int.ofNat i).toNat = j - i := by show (((j : Nat) : Int) - (i : Nat)).toNat = _; omega
  show (match rOk (Int.ofNat i), rOk (Int.ofNat j) with | true, true => k ⟨rangeD (Int.ofNat j - Int.ofNat i).toNat (Int.ofNat i), none⟩ η | _, _ => false) = _
  rw [h1, h2, e, range_tab]
/-- a list of rows -/
structure Mat (n R : Nat) (m : Mt) (η0 η : Hd) : Prop where
  qs : ∃ q : Nat → Nat, η.get R = some (.lst (tab n (fun i => .ref (q i)))) ∧ ∀ i, i < n → η.list (q i) = some (iRow n (m i)) ∧ q i < η.nx ∧ q i ≠ R ∧ η0.nx ≤ q i
  R0 : η0.nx ≤ R
  R1 : R < η.nx
  gr : Gr [] η0 η
variable {n R : Nat} {m : Mt}
theorem Mat.mono (M : Mat n R m η0 η) (x : Gr [] η η') : Mat n R m η0 η' := by
  obtain ⟨q, h1, h2⟩ := M.qs
  exact ⟨⟨q, by rw [x.keep M.R1 (by simp)]; exact h1, fun i hi => by
    obtain ⟨a, b, c, d⟩ := h2 i hi
    exact ⟨x.list b a, Nat.lt_of_lt_of_le b x.1, c, d⟩⟩, M.R0, Nat.lt_of_lt_of_le M.R1 x.1, M.gr.trans x⟩
theorem Mat.ext {m' : Mt} (M : Mat n R m η0 η) (h : ∀ i c, i < n → c < n → m i c = m' i c) : Mat n R m' η0 η := by
  obtain ⟨q, h1, h2⟩ := M.qs
  refine ⟨⟨q, h1, fun i hi => ?_⟩, M.R0, M.R1, M.gr⟩
  obtain ⟨a, b⟩ := h2 i hi
  refine ⟨?_, b⟩
  rw [a]
  congr 1
  exact tab_ext fun c hc => by rw [h i c hi hc]
/-- a row may be read alone from now on -/
theorem Mat.frz (M : Mat n R m η0 η) {q : Nat} (hq : q ≠ R) (h0 : η0.nx ≤ q) : Mat n R m η0 (frzd η (.ref q)) := by
  have key : ∀ p l, η.list p = some l → (frzd η (.ref q)).list p = some l := fun p l h => by
    simp only [frzd]
    split
    · rename_i l' e
      show (η.set q (.frz l')).list p = some l
      by_cases z : p = q
      · subst z
        rw [list_lst e] at h
        cases h
        exact list_frz (get_set_eq e)
      · unfold Hd.list; rw [get_set_ne z]; exact h
    · exact h
  obtain ⟨qs, h1, h2⟩ := M.qs
  refine ⟨⟨qs, ?_, fun i hi => ?_⟩, M.R0, by rw [frzd_nx]; exact M.R1, M.gr.frzN h0⟩
  · rcases frzd_ref η q with e | ⟨l, e⟩
    · rw [e]; exact h1
    · rw [e, get_set_ne (Ne.symm hq)]; exact h1
  · obtain ⟨a, b, c, d⟩ := h2 i hi
    exact ⟨key _ _ a, by rw [frzd_nx]; exact b, c, d⟩
/-- rows[k] -/
theorem Mat.row (M : Mat n R m η0 η) {k : Nat} (hk : k < n) (a : Ev A σ η (.ref R)) (b : Ev B σ η (.int (Int.ofNat k))) : ∃ q, Ev (cOp fIx A B) σ η (.ref q) ∧ η.list q = some (iRow n (m k)) ∧ q < η.nx ∧ q ≠ R ∧ η0.nx ≤ q := by
  obtain ⟨q, h1, h2⟩ := M.qs
  exact ⟨q k, ev_ixL a (list_lst h1) b (tab_get hk), h2 k hk⟩
theorem Mat.ix (M : Mat n R m η0 η) {k c : Nat} (hk : k < n) (hc : c < n) (a : Ev A σ η (.ref R)) (b : Ev B σ η (.int (Int.ofNat k))) (d : Ev C σ η (.int (Int.ofNat c))) : Ev (cOp fIx (cOp fIx A B) C) σ η (iD (m k c)) := by
  obtain ⟨q, h1, h2, _⟩ := M.row hk a b
  exact ev_ixL h1 h2 d (iRow_get hc)
theorem Mat.len (M : Mat n R m η0 η) (a : Ev A σ η (.ref R)) : Ev (cFn (f1 gLenA) (cCons A cNil)) σ η (.int (Int.ofNat n)) := by
  obtain ⟨q, h1, _⟩ := M.qs
  have := ev_lenL a (list_lst h1)
  rw [tab_len] at this
  exact this
/-- rows[k] = a row -/
theorem Mat.set (M : Mat n R m η0 η) {k c : Nat} {f : Nat → Int} (hk : k < n) (hc : η.list c = some (iRow n f)) (c1 : c < η.nx) (c2 : c ≠ R) (c3 : η0.nx ≤ c) : ∃ l, fSet (.ref R) (.int (Int.ofNat k)) (.ref c) η = some (η.set R (.lst l)) ∧ Mat n R (fun i => if i = k then f else m i) η0 (η.set R (.lst l)) := by
  obtain ⟨q, h1, h2⟩ := M.qs
  refine ⟨_, fSet_at h1 tab_len hk, ⟨fun i => if i = k then c else q i, ?_, fun i hi => ?_⟩, M.R0, M.R1, M.gr.setN M.R0⟩
  · rw [get_set_eq h1, tab_set]
    congr 2
    exact tab_ext fun i _ => by
      by_cases e : i = k
      · dsimp only; rw [if_pos e, if_pos e]
      · dsimp only; rw [if_neg e, if_neg e]
  · obtain ⟨a, b, d, e⟩ := h2 i hi
    have gl : ∀ p, p ≠ R → (η.set R (.lst ((tab n (fun i => .ref (q i))).set k (.ref c)))).list p = η.list p := fun p hp => by unfold Hd.list; rw [get_set_ne hp]
    by_cases z : i = k
    · dsimp only; rw [if_pos z, if_pos z, gl c c2]
      exact ⟨hc, c1, c2, c3⟩
    · dsimp only; rw [if_neg z, if_neg z, gl _ d]
      exact ⟨a, b, d, e⟩
/-- the places that a test picks -/
def hitL (d n : Nat) (b : Nat → Bool) : List D := (tab (n - d) (fun q => if b (d + q) then [iD (Int.ofNat (d + q))] else [])).flatten
theorem hit_cases (d n : Nat) (b : Nat → Bool) : purs 8 (hitL d n b) = true ∧ ((hitL d n b = [] ∧ ∀ i, d ≤ i → i < n → b i = false) ∨ ∃ h t, hitL d n b = iD (Int.ofNat h) :: t ∧ d ≤ h ∧ h < n ∧ b h = true) := by
  have gen : ∀ (r o : Nat), purs 8 ((tab r (fun q => if b (o + q) then [iD (Int.ofNat (o + q))] else [])).flatten) = true ∧ (((tab r (fun q => if b (o + q) then [iD (Int.ofNat (o + q))] else [])).flatten = [] ∧ ∀ i, o ≤ i → i < o + r → b i = false) ∨ ∃ h t, (tab r (fun q => if b (o + q) then [iD (Int.ofNat (o + q))] else [])).flatten = iD (Int.ofNat h) :: t ∧ o ≤ h ∧ h < o + r ∧ b h = true) := by
    intro r
    induction r with
    | zero => intro o; exact ⟨rfl, .inl ⟨rfl, fun i h1 h2 => by omega⟩⟩
    | succ r ih =>
      intro o
      have e : (fun q => if b (o + (q + 1)) then [iD (Int.ofNat (o + (q + 1)))] else []) = (fun q => if b (o + 1 + q) then [iD (Int.ofNat (o + 1 + q))] else []) := by
        funext q; rw [show o + 1 + q = o + (q + 1) by omega]
      rw [tab_cons, e, List.flatten_cons]
      obtain ⟨h1, h2⟩ := ih (o + 1)
      cases eb : b (o + 0) with
      | true =>
        rw [if_pos rfl]
        refine ⟨?_, .inr ⟨o + 0, _, rfl, by omega, by omega, eb⟩⟩
        rw [List.singleton_append]
        unfold purs at h1 ⊢
        rw [List.all_cons, h1]; rfl
      | false =>
        rw [if_neg Bool.false_ne_true, List.nil_append]
        refine ⟨h1, ?_⟩
        rcases h2 with ⟨a, c⟩ | ⟨h, t, a, c, d, f⟩
        · refine .inl ⟨a, fun i h3 h4 => ?_⟩
          by_cases z : i = o
          · rw [z]; exact eb
          · exact c i (by omega) (by omega)
        · exact .inr ⟨h, t, a, by omega, by omega, f⟩
  by_cases hdn : d ≤ n
  · have := gen (n - d) d
    rw [show d + (n - d) = n by omega] at this
    exact this
  · unfold hitL
    rw [show n - d = 0 by omega]
    exact ⟨rfl, .inl ⟨rfl, fun i h1 h2 => by omega⟩⟩
def nilB : List D → Bool
  | [] => true
  | _ => false
/-- hit == [] -/
theorem fEq_hit {H E : Nat} {l : List D} (h1 : η.list H = some l) (h2 : η.list E = some []) (hp : purs 8 l = true) : fEq (.ref H) (.ref E) η = some (.bl (nilB l), η) := by
  have : eqF η (.ref H) (.ref E) = some (nilB l) := by
    simp only [eqF, h1, h2, hp, show purs 8 [] = true from rfl]
    cases l <;> rfl
  simp only [fEq, this]
end
/-! ### turned -/
def bTurned : CS := (sSeq (sIf (cTst (cOp fEq (cOp fMod (cVar 0) (cVar 1)) (cC (.int 0)))) (sRaise 3) sNil) (sSeq (sAsg (cC (.int 1)) (gNm 2)) (sSeq (sFor (ciR1 (cCons (cOp fSub (cVar 1) (cC (.int 2))) cNil)) (gNm 3) (sAsg (cOp fMod (cOp fMul (cVar 2) (cVar 0)) (cVar 1)) (gNm 2))) (sRet (cVar 2)))))
theorem fEq_int {η : Hd} {i j : Int} : fEq (.int i) (.int j) η = some (.bl (decide (i = j)), η) := by
  have : eqF η (.int i) (.int j) = some (decide (i = j)) := by rw [← ieq_dec]; rfl
  simp only [fEq, this]
theorem turn_loop {K : KS} {p x : Int} (hp : 0 < p) (hx : x.natAbs ≤ 1000) {η : Hd} (t : Nat) : ∀ (r : Nat) (it : Nat → D) (x3 : Option D) (k : Nat), k + r = t → (∀ y3, K.nx [some (iD x), some (iD p), some (iD (pw x p t)), y3] η = true) →
    forD (gNm 3) (sAsg (cOp fMod (cOp fMul (cVar 2) (cVar 0)) (cVar 1)) (gNm 2)) K (tab r it) [some (iD x), some (iD p), some (iD (pw x p k)), x3] η = true
  | 0, it, x3, k, e, hk => by
    rw [show k = t by omega]
    exact hk x3
  | r + 1, it, x3, k, e, hk => by
    rw [tab_cons, forD, w_nm, w_set]
    have E : Ev (cOp fMod (cOp fMul (cVar 2) (cVar 0)) (cVar 1)) [some (iD x), some (iD p), some (iD (pw x p k)), some (it 0)] η (.int (pw x p k * x % p)) := ev_mod (ev_mulR (ev_var rfl) (ev_var rfl) (by omega)) (ev_var rfl) hp
    rw [show ([some (iD x), some (iD p), some (iD (pw x p k)), x3] : SD).set 3 (some (it 0)) = [some (iD x), some (iD p), some (iD (pw x p k)), some (it 0)] from rfl, E]
    exact turn_loop hp hx t r (fun i => it (i + 1)) (some (it 0)) (k + 1) (by omega) hk
theorem turned_ok {S : List Nat} {p x : Int} {e : Nat} (P : PrOk p e) (h0 : 0 < x) (h1 : x < p) {η : Hd} : Fl S (cDef 2 4 bTurned) [.int x, .int p] η (.int (pw x p e)) := fun kv kx hkv => by
  have hp := P.p2
  have hp9 := P.p9
  rw [w_def2]
  unfold bTurned
  rw [w_seq, w_if, w_tst]
  have E : Ev (cOp fEq (cOp fMod (cVar 0) (cVar 1)) (cC (.int 0))) (startD 2 4 [.int x, .int p]) η (.bl false) := by
    refine ev_op (x := .int (x % p)) (y := .int 0) (ev_mod (ev_var rfl) (ev_var rfl) (by omega)) ev_c ?_
    rw [fEq_int, emod_of_lt (by omega) h1, decide_eq_false (by omega)]
  rw [E]
  dsimp only
  rw [w_nil]
  dsimp only
  rw [w_seq, w_set, w_c]
  dsimp only
  rw [w_seq]
  unfold sFor
  rw [it_r1 (j := e) (by rw [← P.pe]; exact ev_sub (ev_var (i := 1) rfl) ev_c) (by have := P.e9; omega)]
  show forD (gNm 3) _ _ (tab e _) [some (iD x), some (iD p), some (iD (pw x p 0)), none] η = true
  refine turn_loop (by omega) (by omega) e e _ none 0 (by omega) fun y3 => ?_
  rw [thaw_none]
  dsimp only
  rw [w_ret, w_var (i := 2) (d := iD (pw x p e)) rfl]
  exact hkv η (Gr.refl _ _)
end DL

/-! grids by a prime: rows cleared, walked -/
namespace DL
open PySem PySem.Spec L2
def elimT (p : Int) (m : Mt) (d j o : Nat) : Mt := fun i c => if i = d then m d c else if i < o then (m i c - m i j * m d c) % p else m i c
def bElim : CS := (sIf (ctAnd (cTst (cOp fNe (cVar 6) (cVar 2))) (cTst (cOp fNe (cOp fIx (cOp fIx (cVar 0) (cVar 6)) (cVar 5)) (cC (.int 0))))) (sSeq (sAsg (cOp fIx (cOp fIx (cVar 0) (cVar 6)) (cVar 5)) (gNm 9)) (sAsg (cLc (ciZip2 (cCons (cOp fIx (cVar 0) (cVar 6)) (cCons (cOp fIx (cVar 0) (cVar 2)) cNil))) (gTp 2 (gsCons (gNm 12) (gsCons (gNm 13) gsNil))) ctYes (cOp fMod (cOp fSub (cVar 12) (cOp fMul (cVar 9) (cVar 13))) (cVar 1)) [12, 13]) (gSb (cVar 0) (cVar 6)))) sNil)
theorem w_and {a b : CT} {σ : SD} {η : Hd} {k : Bool → Hd → Bool} {kx : KX} : ctAnd a b σ η k kx = a σ η (fun x η1 => match x with
  | true => b σ η1 k kx
  | false => k false η1) kx := rfl
section
variable {n R : Nat} {m m0 : Mt} {η η0 : Hd} {p : Int} {e : Nat} {det : Mt → Int}
/-- one row less so many times another: walked -/
theorem row_new (M : Mat n R m η0 η) {k d : Nat} (hk : k < n) (hd : d < n) (hn : n ≤ 1000) {f : Nat → Int} {σ : SD} {A B C X Y : CE} {E : CE} {g : CG} {vs : List Nat} (a : Ev A σ η (.ref R)) (b : Ev B σ η (.int (Int.ofNat k))) (c : Ev C σ η (.int (Int.ofNat d))) {K : KS}
    (hE : ∀ (η1 : Hd) (i : Nat), i < n → ∃ σ1, (∀ K kx, g (.tup [iD (m k i), iD (m d i)]) (wipeD σ vs) η1 K kx = K σ1 η1) ∧ Ev E σ1 η1 (iD (f i)))
    (x : ∀ η1, Ev X σ η1 (.ref R)) (y : ∀ η1, Ev Y σ η1 (.int (Int.ofNat k)))
    (hk1 : ∀ η1, Mat n R (fun i => if i = k then f else m i) η0 η1 → K.nx σ η1 = true) :
    sAsg (cLc (ciZip2 (cCons (cOp fIx A B) (cCons (cOp fIx A C) cNil))) g ctYes E vs) (gSb X Y) σ η K = true := by
  obtain ⟨q1, e1, l1, b1, n1, z1⟩ := M.row hk a b
  obtain ⟨q2, e2, l2, b2, n2, z2⟩ := M.row hd a c
  have M1 := M.frz n1 z1
  have M2 := M1.frz n2 z2
  have key : rowAt (frzd η (.ref q1)) (.ref q2) = some (iRow n (m d)) := by
    have x1 : Gr [q1] η (frzd η (.ref q1)) := Gr.frzd fun r l e _ => by cases e; simp
    exact x1.list b2 l2
  have Z := it_zip (σ := σ) (η := η) (v := .ref q1) (u := .ref q2) e1 e2 (l := iRow n (m k)) (m := iRow n (m d)) l1 key
  unfold iRow at Z
  rw [zipD2_tab] at Z
  rw [w_sub]
  rw [lc_ev (f := fun i => iD (f i)) Z (by omega) (fun i hi => hE _ i hi)]
  rw [x, y]
  generalize hη2 : frzd (frzd η (.ref q1)) (.ref q2) = η2 at M2
  have M3 : Mat n R m η0 ((Hd.bump η2).add η2.nx (.lst (tab n (fun i => iD (f i))))) := M2.mono (Gr.bump.add (Nat.le_refl _))
  have lc : ((Hd.bump η2).add η2.nx (.lst (tab n (fun i => iD (f i))))).list η2.nx = some (iRow n f) := list_lst (by rw [Hd.get_add, if_pos rfl]; rfl)
  obtain ⟨l, g1, g2⟩ := M3.set hk lc (Nat.lt_succ_self _) (by have := M2.R1; omega) (by have := M2.gr.1; omega)
  rw [g1]
  exact hk1 _ g2
theorem elim_step (P : PrOk p e) {j d o : Nat} (hj : j < n) (hd : d < n) (ho : o < n) (hn : n ≤ 1000) (rg : ∀ i c, i < n → c < n → 0 ≤ m i c ∧ m i c < p) (M : Mat n R (elimT p m d j o) η0 η) {x3 x4 x7 x8 x9 x10 x11 x12 x13 : Option D} {K : KS}
    (hk : ∀ x9 η', Mat n R (elimT p m d j (o + 1)) η0 η' → K.nx [some (.ref R), some (iD p), some (iD (Int.ofNat d)), x3, x4, some (iD (Int.ofNat j)), some (iD (Int.ofNat o)), x7, x8, x9, x10, x11, x12, x13] η' = true) :
    bElim [some (.ref R), some (iD p), some (iD (Int.ofNat d)), x3, x4, some (iD (Int.ofNat j)), some (iD (Int.ofNat o)), x7, x8, x9, x10, x11, x12, x13] η K = true := by
  have p2 := P.p2
  have p9 := P.p9
  unfold bElim
  rw [w_if, w_and, w_tst]
  let σ1 : SD := [some (.ref R), some (iD p), some (iD (Int.ofNat d)), x3, x4, some (iD (Int.ofNat j)), some (iD (Int.ofNat o)), x7, x8, x9, x10, x11, x12, x13]
  have E1 : Ev (cOp fNe (cVar 6) (cVar 2)) σ1 η (.bl (!decide ((Int.ofNat o : Int) = Int.ofNat d))) := ev_neI (ev_var rfl) (ev_var rfl)
  rw [E1]
  by_cases eo : o = d
  · rw [decide_eq_true (by rw [eo])]
    simp only [Bool.not_true, w_nil]
    refine hk x9 η (M.ext fun i c hi hc => ?_)
    unfold elimT
    by_cases z : i = d
    · rw [if_pos z, if_pos z]
    · rw [if_neg z, if_neg z]
      by_cases z2 : i < o
      · rw [if_pos z2, if_pos (by omega)]
      · rw [if_neg z2, if_neg (by omega)]
  · rw [decide_eq_false (fun z => eo (Int.ofNat.inj z))]
    simp only [Bool.not_false]
    rw [w_tst]
    have cur : ∀ c, elimT p m d j o o c = m o c := fun c => by unfold elimT; rw [if_neg eo, if_neg (by omega)]
    have curd : ∀ c, elimT p m d j o d c = m d c := fun c => by unfold elimT; rw [if_pos rfl]
    have X := M.ix ho hj (ev_var (σ := σ1) (i := 0) rfl) (ev_var (i := 6) rfl) (ev_var (i := 5) rfl)
    rw [cur] at X
    have E2 : Ev (cOp fNe (cOp fIx (cOp fIx (cVar 0) (cVar 6)) (cVar 5)) (cC (.int 0))) σ1 η (.bl (!decide (m o j = 0))) := ev_neI X ev_c
    rw [E2]
    have r1 := rg o j ho hj
    by_cases z : m o j = 0
    · rw [decide_eq_true z]
      simp only [Bool.not_true, w_nil]
      refine hk x9 η (M.ext fun i c hi hc => ?_)
      unfold elimT
      by_cases z1 : i = d
      · rw [if_pos z1, if_pos z1]
      · rw [if_neg z1, if_neg z1]
        by_cases z2 : i < o
        · rw [if_pos z2, if_pos (by omega)]
        · rw [if_neg z2]
          by_cases z3 : i = o
          · rw [z3, if_pos (by omega), z, Int.zero_mul, Int.sub_zero]
            have := rg o c ho hc
            exact (emod_of_lt this.1 this.2).symm
          · rw [if_neg (by omega)]
    · rw [decide_eq_false z]
      simp only [Bool.not_false]
      rw [w_seq, w_set, X]
      dsimp only
      let σ2 : SD := [some (.ref R), some (iD p), some (iD (Int.ofNat d)), x3, x4, some (iD (Int.ofNat j)), some (iD (Int.ofNat o)), x7, x8, some (iD (m o j)), x10, x11, x12, x13]
      refine row_new (σ := σ2) M ho hd hn (f := fun c => (m o c - m o j * m d c) % p) (ev_var rfl) (ev_var rfl) (ev_var rfl) (fun η1 i hi => ⟨[some (.ref R), some (iD p), some (iD (Int.ofNat d)), x3, x4, some (iD (Int.ofNat j)), some (iD (Int.ofNat o)), x7, x8, some (iD (m o j)), x10, x11, some (iD (m o i)), some (iD (m d i))], fun K kx => by rw [cur, curd]; rfl, ?_⟩) (fun _ => ev_var rfl) (fun _ => ev_var rfl) fun η1 M1 => ?_
      · exact ev_mod (ev_sub (ev_var rfl) (ev_mulL (ev_var rfl) (ev_var rfl) (by omega))) (ev_var rfl) (by omega)
      · refine hk _ η1 (M1.ext fun i c hi hc => ?_)
        unfold elimT
        by_cases z1 : i = o
        · rw [if_pos z1, z1, if_neg eo, if_pos (by omega)]
        · rw [if_neg z1]
          by_cases z2 : i = d
          · rw [if_pos z2, if_pos z2]
          · rw [if_neg z2, if_neg z2]
            by_cases z3 : i < o
            · rw [if_pos z3, if_pos (by omega)]
            · rw [if_neg z3, if_neg (by omega)]
theorem elim_loop (P : PrOk p e) {j d : Nat} (hj : j < n) (hd : d < n) (hn : n ≤ 1000) (rg : ∀ i c, i < n → c < n → 0 ≤ m i c ∧ m i c < p) {x3 x4 x7 x8 x10 x11 x12 x13 : Option D} {K : KS}
    (hk : ∀ x6 x9 η', Mat n R (elimR p m d j) η0 η' → K.nx [some (.ref R), some (iD p), some (iD (Int.ofNat d)), x3, x4, some (iD (Int.ofNat j)), x6, x7, x8, x9, x10, x11, x12, x13] η' = true) : ∀ (r o : Nat) (x6 x9 : Option D) (η : Hd), o + r = n → Mat n R (elimT p m d j o) η0 η →
    forD (gNm 6) bElim K (tab r (fun q => iD (Int.ofNat (o + q)))) [some (.ref R), some (iD p), some (iD (Int.ofNat d)), x3, x4, some (iD (Int.ofNat j)), x6, x7, x8, x9, x10, x11, x12, x13] η = true
  | 0, o, x6, x9, η, h, M => hk x6 x9 η (M.ext fun i c hi hc => by
    unfold elimT elimR
    by_cases z : i = d
    · rw [if_pos z, if_pos z]
    · rw [if_neg z, if_neg z, if_pos (by omega)])
  | r + 1, o, x6, x9, η, h, M => by
    rw [tab_cons, forD, w_nm]
    rw [show ([some (.ref R), some (iD p), some (iD (Int.ofNat d)), x3, x4, some (iD (Int.ofNat j)), x6, x7, x8, x9, x10, x11, x12, x13] : SD).set 6 (some (iD (Int.ofNat (o + 0)))) = [some (.ref R), some (iD p), some (iD (Int.ofNat d)), x3, x4, some (iD (Int.ofNat j)), some (iD (Int.ofNat o)), x7, x8, x9, x10, x11, x12, x13] from rfl]
    refine elim_step P hj hd (by omega) hn rg M fun x9 η1 M1 => ?_
    have := elim_loop P hj hd hn rg hk r (o + 1) (some (iD (Int.ofNat o))) x9 η1 (by omega) M1
    simp only [show ∀ i, o + 1 + i = o + (i + 1) by intro i; omega] at this
    exact this
end
def bClr (Ft : CF) : CS := (sSeq (sAsg (cLc (ciR2 (cCons (cVar 2) (cCons (cFn (f1 gLenA) (cCons (cVar 0) cNil)) cNil))) (gNm 6) (cTst (cOp fNe (cOp fIx (cOp fIx (cVar 0) (cVar 6)) (cVar 5)) (cC (.int 0)))) (cVar 6) [6]) (gNm 7)) (sSeq (sIf (cTst (cOp fEq (cVar 7) (cLst cNil))) sCont sNil) (sSeq (sIf (cTst (cOp fNe (cOp fIx (cVar 7) (cC (.int 0))) (cVar 2))) (sSeq (sAsg (cTup (cCons (cOp fIx (cVar 0) (cOp fIx (cVar 7) (cC (.int 0)))) (cCons (cOp fIx (cVar 0) (cVar 2)) cNil))) (gTp 2 (gsCons (gSb (cVar 0) (cVar 2)) (gsCons (gSb (cVar 0) (cOp fIx (cVar 7) (cC (.int 0)))) gsNil)))) (sAsg (cNeg (cVar 3)) (gNm 3))) sNil) (sSeq (sAsg (cOp fMod (cOp fMul (cVar 3) (cOp fIx (cOp fIx (cVar 0) (cVar 2)) (cVar 5))) (cVar 1)) (gNm 3)) (sSeq (sAsg (cCall Ft (cCons (cOp fIx (cOp fIx (cVar 0) (cVar 2)) (cVar 5)) (cCons (cVar 1) cNil))) (gNm 8)) (sSeq (sAsg (cLc (ciSeq (cOp fIx (cVar 0) (cVar 2))) (gNm 11) ctYes (cOp fMod (cOp fMul (cVar 11) (cVar 8)) (cVar 1)) [11]) (gSb (cVar 0) (cVar 2))) (sSeq (sFor (ciR1 (cCons (cFn (f1 gLenA) (cCons (cVar 0) cNil)) cNil)) (gNm 6) bElim) (sAug 2 (fI2 iadd) (cC (.int 1))))))))))
def bCleared (Ft : CF) : CS := (sSeq (sAsg (cLc (ciSeq (cVar 0)) (gNm 10) ctYes (cFn (f1 gList) (cCons (cVar 10) cNil)) [10]) (gNm 0)) (sSeq (sPar3 2 3 4 (cCons (cC (.int 0)) (cCons (cC (.int 1)) (cCons (cFn (f1 gLenA) (cCons (cOp fIx (cVar 0) (cC (.int 0))) cNil)) cNil)))) (sSeq (sFor (ciR1 (cCons (cVar 4) cNil)) (gNm 5) (bClr Ft)) (sRet (cTup (cCons (cFn (f1 gTuple) (cCons (cLc (ciSeq (cVar 0)) (gNm 10) ctYes (cFn (f1 gTuple) (cCons (cVar 10) cNil)) [10]) cNil)) (cCons (cVar 2) (cCons (cOp fMod (cVar 3) (cVar 1)) cNil))))))))
end DL

/-! grids by a prime: cleared, corner (printed by k30e.py) -/
namespace DL
open PySem PySem.Spec L2
section
variable {n R : Nat} {m m0 : Mt} {η η0 : Hd} {p : Int} {e : Nat} {det : Mt → Int}
theorem Mat.monoS {T : List Nat} {η' : Hd} (M : Mat n R m η0 η) (x : Gr T η η') (hT : ∀ q ∈ T, q ≠ R ∧ η0.nx ≤ q) : Mat n R m η0 η' := by
  obtain ⟨q, h1, h2⟩ := M.qs
  refine ⟨⟨q, by rw [x.keep M.R1 (fun z => (hT R z).1 rfl)]; exact h1, fun i hi => ?_⟩, M.R0, Nat.lt_of_lt_of_le M.R1 x.1, ⟨Nat.le_trans M.gr.1 x.1, fun q hq => .inl ?_⟩⟩
  · obtain ⟨a, b, c, d⟩ := h2 i hi
    exact ⟨x.list b a, Nat.lt_of_lt_of_le b x.1, c, d⟩
  · rw [x.keep (Nat.lt_of_lt_of_le hq M.gr.1) (fun z => by have := (hT q z).2; omega), M.gr.keep hq (by simp)]
abbrev Ft' : CF := cDef 2 4 bTurned
/-- the rest of a column, the row that is cleared by at its place -/
def bClr4 : CS := (sSeq (sAsg (cOp fMod (cOp fMul (cVar 3) (cOp fIx (cOp fIx (cVar 0) (cVar 2)) (cVar 5))) (cVar 1)) (gNm 3)) (sSeq (sAsg (cCall Ft' (cCons (cOp fIx (cOp fIx (cVar 0) (cVar 2)) (cVar 5)) (cCons (cVar 1) cNil))) (gNm 8)) (sSeq (sAsg (cLc (ciSeq (cOp fIx (cVar 0) (cVar 2))) (gNm 11) ctYes (cOp fMod (cOp fMul (cVar 11) (cVar 8)) (cVar 1)) [11]) (gSb (cVar 0) (cVar 2))) (sSeq (sFor (ciR1 (cCons (cFn (f1 gLenA) (cCons (cVar 0) cNil)) cNil)) (gNm 6) bElim) (sAug 2 (fI2 iadd) (cC (.int 1)))))))
theorem clr4 (P : PrOk p e) {j d : Nat} {w : Int} (hj : j < n) (hd : d < n) (hn : n ≤ 1000) (wb : w.natAbs ≤ 1000) (rg : ∀ i c, i < n → c < n → 0 ≤ m i c ∧ m i c < p) (x0 : m d j ≠ 0) (M : Mat n R m η0 η) {y6 y7 y8 y9 y10 y11 y12 y13 : Option D} {K : KS}
    (hk : ∀ y6 y8 y9 η', Mat n R (elimR p (scR p m d (pw (m d j) p e)) d j) η0 η' → K.nx [some (.ref R), some (iD p), some (iD (Int.ofNat (d + 1))), some (iD (w * m d j % p)), some (iD (Int.ofNat n)), some (iD (Int.ofNat j)), y6, y7, y8, y9, y10, y11, y12, y13] η' = true) : bClr4 [some (.ref R), some (iD p), some (iD (Int.ofNat d)), some (iD (w)), some (iD (Int.ofNat n)), some (iD (Int.ofNat j)), y6, y7, y8, y9, y10, y11, y12, y13] η K = true := by
  have p2 := P.p2
  have p9 := P.p9
  have r := rg d j hd hj
  unfold bClr4
  have E1 : Ev (cOp fMod (cOp fMul (cVar 3) (cOp fIx (cOp fIx (cVar 0) (cVar 2)) (cVar 5))) (cVar 1)) [some (.ref R), some (iD p), some (iD (Int.ofNat d)), some (iD (w)), some (iD (Int.ofNat n)), some (iD (Int.ofNat j)), y6, y7, y8, y9, y10, y11, y12, y13] η (.int (w * m d j % p)) := ev_mod (ev_mulL (ev_var rfl) (M.ix hd hj (ev_var rfl) (ev_var rfl) (ev_var rfl)) (by omega)) (ev_var rfl) (by omega)
  rw [w_seq, w_set, E1]
  rw [show ([some (.ref R), some (iD p), some (iD (Int.ofNat d)), some (iD (w)), some (iD (Int.ofNat n)), some (iD (Int.ofNat j)), y6, y7, y8, y9, y10, y11, y12, y13] : SD).set 3 (some (.int (w * m d j % p))) = [some (.ref R), some (iD p), some (iD (Int.ofNat d)), some (iD (w * m d j % p)), some (iD (Int.ofNat n)), some (iD (Int.ofNat j)), y6, y7, y8, y9, y10, y11, y12, y13] from rfl]
  dsimp only
  rw [w_seq, w_set, w_call2, M.ix hd hj (ev_var rfl) (ev_var rfl) (ev_var rfl), w_var (i := 1) (d := iD p) rfl]
  refine turned_ok (S := []) P (by omega) r.2 _ _ fun η1 x1 => ?_
  have M1 := M.mono x1
  generalize hu : pw (m d j) p e = u at hk
  have ub : u.natAbs ≤ 1000 := by
    have := pw_bd (w := m d j) (p := p) (by omega) (by omega) e
    rw [hu] at this
    omega
  rw [show ([some (.ref R), some (iD p), some (iD (Int.ofNat d)), some (iD (w * m d j % p)), some (iD (Int.ofNat n)), some (iD (Int.ofNat j)), y6, y7, y8, y9, y10, y11, y12, y13] : SD).set 8 (some (.int u)) = [some (.ref R), some (iD p), some (iD (Int.ofNat d)), some (iD (w * m d j % p)), some (iD (Int.ofNat n)), some (iD (Int.ofNat j)), y6, y7, some (iD u), y9, y10, y11, y12, y13] from rfl]
  dsimp only
  rw [w_seq, w_sub]
  obtain ⟨q, e1, l1, b1, n1, z1⟩ := M1.row hd (ev_var (σ := [some (.ref R), some (iD p), some (iD (Int.ofNat d)), some (iD (w * m d j % p)), some (iD (Int.ofNat n)), some (iD (Int.ofNat j)), y6, y7, some (iD u), y9, y10, y11, y12, y13]) (i := 0) rfl) (ev_var (i := 2) rfl)
  refine yn_lcR (S := [q]) (v := .ref q) (r := n) (it := fun c => iD (m d c)) (f := fun c => iD (m d c * u % p)) e1 ⟨l1, fun _ h => by cases h; exact b1, fun _ h => by cases h; simp⟩ (by omega) (fun c hc η2 => ⟨[some (.ref R), some (iD p), some (iD (Int.ofNat d)), some (iD (w * m d j % p)), some (iD (Int.ofNat n)), some (iD (Int.ofNat j)), y6, y7, some (iD u), y9, y10, some (iD (m d c)), y12, y13], fun K kx => rfl, yl_ev (ev_mod (ev_mulR (ev_var rfl) (ev_var rfl) (by omega)) (ev_var rfl) (by omega))⟩) _ _ fun c η2 x2 c1 c2 gc => ?_
  have M2 := M1.monoS x2 (fun q' hq => by rw [List.mem_singleton.mp hq]; exact ⟨n1, z1⟩)
  rw [w_var (i := 0) (d := .ref R) rfl, w_var (i := 2) (d := iD (Int.ofNat d)) rfl]
  obtain ⟨l, g1, M3⟩ := M2.set (f := fun c => m d c * u % p) hd (list_lst gc) c2 (by have := M1.R1; omega) (by have := M1.gr.1; omega)
  rw [g1]
  dsimp only
  rw [w_seq]
  unfold sFor
  rw [it_r1 (j := n) (M3.len (ev_var rfl)) (by omega)]
  show forD (gNm 6) bElim (KS.thaw _ _) (tab n (fun i => iD (Int.ofNat i))) [some (.ref R), some (iD p), some (iD (Int.ofNat d)), some (iD (w * m d j % p)), some (iD (Int.ofNat n)), some (iD (Int.ofNat j)), y6, y7, some (iD u), y9, y10, y11, y12, y13] (η2.set R (.lst l)) = true
  rw [thaw_none]
  have M4 : Mat n R (elimT p (scR p m d u) d j 0) η0 (η2.set R (.lst l)) := M3.ext fun i c hi hc => by
    unfold elimT scR
    by_cases z : i = d
    · rw [if_pos z, if_pos z, if_pos rfl]
    · rw [if_neg z, if_neg z, if_neg (by omega), if_neg z]
  have rg2 : ∀ i c, i < n → c < n → 0 ≤ scR p m d u i c ∧ scR p m d u i c < p := fun i c hi hc => by
    unfold scR
    by_cases z : i = d
    · rw [if_pos z]; exact P.rg _
    · rw [if_neg z]; exact rg i c hi hc
  have := elim_loop P hj hd hn rg2 (x3 := some (iD (w * m d j % p))) (x4 := some (iD (Int.ofNat n))) (x7 := y7) (x8 := some (iD u)) (x10 := y10) (x11 := y11) (x12 := y12) (x13 := y13) (K := ⟨fun σ1 η1 => sAug 2 (fI2 iadd) (cC (.int 1)) σ1 η1 K, K.rt, K.bk, K.ct, K.xc⟩) (fun x6 x9 η5 M5 => by
    show sAug 2 (fI2 iadd) (cC (.int 1)) [some (.ref R), some (iD p), some (iD (Int.ofNat d)), some (iD (w * m d j % p)), some (iD (Int.ofNat n)), some (iD (Int.ofNat j)), x6, y7, some (iD u), x9, y10, y11, y12, y13] η5 K = true
    exact hk x6 (some (iD u)) x9 η5 M5) n 0 y6 y9 _ (by omega) M4
  simp only [Nat.zero_add] at this
  exact this

/-- one column -/
theorem clr_step (Dt : DetOk n det) (P : PrOk p e) {j d : Nat} {w : Int} (hj : j < n) (hn : n ≤ 1000) (C : ClI n det p m0 j d w m) (M : Mat n R m η0 η) {y6 y7 y8 y9 y10 y11 y12 y13 : Option D} {K : KS}
    (hk : ∀ d w m y6 y7 y8 y9 η', ClI n det p m0 (j + 1) d w m → Mat n R m η0 η' → K.nx [some (.ref R), some (iD p), some (iD (Int.ofNat d)), some (iD (w)), some (iD (Int.ofNat n)), some (iD (Int.ofNat j)), y6, y7, y8, y9, y10, y11, y12, y13] η' = true ∧ K.ct [some (.ref R), some (iD p), some (iD (Int.ofNat d)), some (iD (w)), some (iD (Int.ofNat n)), some (iD (Int.ofNat j)), y6, y7, y8, y9, y10, y11, y12, y13] η' = true) : bClr Ft' [some (.ref R), some (iD p), some (iD (Int.ofNat d)), some (iD (w)), some (iD (Int.ofNat n)), some (iD (Int.ofNat j)), y6, y7, y8, y9, y10, y11, y12, y13] η K = true := by
  have dj := C.dj
  unfold bClr
  rw [w_seq, w_set]
  refine yn_lcF (S := []) (r := n - d) (it := fun q => iD (Int.ofNat (d + q))) (f := fun q => iD (Int.ofNat (d + q))) (b := fun q => !decide (m (d + q) j = 0)) (iw_of (it_r2 (ev_var rfl) (M.len (ev_var rfl)) (by omega) (by omega)) (Gr.refl _ _)) (by omega) (fun q hq η1 x1 => ⟨[some (.ref R), some (iD p), some (iD (Int.ofNat d)), some (iD (w)), some (iD (Int.ofNat n)), some (iD (Int.ofNat j)), some (iD (Int.ofNat (d + q))), y7, y8, y9, y10, y11, y12, y13], fun K kx => rfl, yl_ev (ev_neI ((M.mono x1).ix (by omega) hj (ev_var rfl) (ev_var rfl) (ev_var rfl)) ev_c), fun η2 _ => yl_var rfl⟩) _ _ fun q7 η1 x1 g1 g2 g7 => ?_
  have M1 := M.mono x1
  have g7' : η1.get q7 = some (.lst (hitL d n (fun k => !decide (m k j = 0)))) := g7
  have q7R : q7 ≠ R := by have := M.R1; omega
  rw [show ([some (.ref R), some (iD p), some (iD (Int.ofNat d)), some (iD (w)), some (iD (Int.ofNat n)), some (iD (Int.ofNat j)), y6, y7, y8, y9, y10, y11, y12, y13] : SD).set 7 (some (.ref q7)) = [some (.ref R), some (iD p), some (iD (Int.ofNat d)), some (iD (w)), some (iD (Int.ofNat n)), some (iD (Int.ofNat j)), y6, some (.ref q7), y8, y9, y10, y11, y12, y13] from rfl]
  dsimp only
  rw [w_seq, w_if, w_tst, w_op, w_var (i := 7) (d := .ref q7) rfl, w_lst0]
  have x2 : Gr [] η1 (η1.new (.lst [])) := Gr.new
  have M2 := M1.mono x2
  obtain ⟨hp, hc⟩ := hit_cases d n (fun k => !decide (m k j = 0))
  rw [fEq_hit (x2.list g2 (list_lst g7')) (list_lst get_new_eq) hp]
  rcases hc with ⟨e1, e2⟩ | ⟨h, t, e1, h1, h2, h3⟩
  · rw [e1]
    dsimp only [nilB]
    exact (hk d w m y6 (some (.ref q7)) y8 y9 _ (C.none hj (fun i h1 h2 => by have := e2 i h1 h2; simpa using this)) M2).2
  · have g8 : (η1.new (.lst [])).list q7 = some (hitL d n (fun k => !decide (m k j = 0))) := x2.list g2 (list_lst g7')
    rw [e1] at g8
    rw [e1]
    dsimp only [nilB]
    rw [w_nil]
    dsimp only
    have hm : m h j ≠ 0 := by simpa using h3
    generalize hη2 : η1.new (.lst []) = η2 at M2 g8
    have q7n : q7 < η2.nx := by rw [← hη2]; exact Nat.lt_succ_of_lt g2
    have E7 : ∀ (η' : Hd), η'.list q7 = some (iD (Int.ofNat h) :: t) → Ev (cOp fIx (cVar 7) (cC (.int 0))) [some (.ref R), some (iD p), some (iD (Int.ofNat d)), some (iD (w)), some (iD (Int.ofNat n)), some (iD (Int.ofNat j)), y6, some (.ref q7), y8, y9, y10, y11, y12, y13] η' (iD (Int.ofNat h)) := fun η' hl => ev_ixL (k := 0) (ev_var rfl) hl ev_c rfl
    rw [w_seq, w_if, w_tst]
    have E1 : Ev (cOp fNe (cOp fIx (cVar 7) (cC (.int 0))) (cVar 2)) [some (.ref R), some (iD p), some (iD (Int.ofNat d)), some (iD (w)), some (iD (Int.ofNat n)), some (iD (Int.ofNat j)), y6, some (.ref q7), y8, y9, y10, y11, y12, y13] η2 (.bl (!decide ((Int.ofNat h : Int) = Int.ofNat d))) := ev_neI (E7 η2 g8) (ev_var rfl)
    rw [E1]
    have rr := C.rg h j h2 hj
    have fin : ∀ (η' : Hd), Mat n R (swR m d h) η0 η' → bClr4 [some (.ref R), some (iD p), some (iD (Int.ofNat d)), some (iD (swW w d h)), some (iD (Int.ofNat n)), some (iD (Int.ofNat j)), y6, some (.ref q7), y8, y9, y10, y11, y12, y13] η' K = true := fun η' M' => by
      have sd : ∀ c, swR m d h d c = m h c := fun c => by
        unfold swR
        by_cases z : h = d
        · rw [if_pos z, z]
        · rw [if_neg z]; unfold swapR; rw [if_pos rfl]
      have wb : (swW w d h).natAbs ≤ 1000 := by
        unfold swW
        have := C.wb
        split
        · exact this
        · omega
      have rs : ∀ i c, i < n → c < n → 0 ≤ swR m d h i c ∧ swR m d h i c < p := fun i c hi hc => by
        unfold swR
        split
        · exact C.rg i c hi hc
        · unfold swapR
          split
          · exact C.rg h c h2 hc
          · split
            · exact C.rg d c (by omega) hc
            · exact C.rg i c hi hc
      refine clr4 P hj (by omega) hn wb rs (by rw [sd]; exact hm) M' fun y6 y8 y9 η3 M3 => ?_
      have C2 := C.hit Dt P hj h1 h2 hm (P.inv _ (by omega) rr.2)
      rw [sd] at M3 ⊢
      exact (hk (d + 1) _ _ y6 (some (.ref q7)) y8 y9 η3 C2 M3).1
    by_cases z : h = d
    · rw [decide_eq_true (by rw [z])]
      simp only [Bool.not_true, w_nil]
      have := fin η2 (by unfold swR; rw [if_pos z]; exact M2)
      unfold swW at this
      rw [if_pos z] at this
      exact this
    · rw [decide_eq_false (fun h' => z (Int.ofNat.inj h'))]
      simp only [Bool.not_false]
      rw [w_seq, w_asg, w_tup2 rfl]
      obtain ⟨qh, f1, l1, b1, n1, z1⟩ := M2.row h2 (ev_var (σ := [some (.ref R), some (iD p), some (iD (Int.ofNat d)), some (iD (w)), some (iD (Int.ofNat n)), some (iD (Int.ofNat j)), y6, some (.ref q7), y8, y9, y10, y11, y12, y13]) (i := 0) rfl) (E7 η2 g8)
      obtain ⟨qd, f2, l2, b2, n2, z2⟩ := M2.row (k := d) (by omega) (ev_var (σ := [some (.ref R), some (iD p), some (iD (Int.ofNat d)), some (iD (w)), some (iD (Int.ofNat n)), some (iD (Int.ofNat j)), y6, some (.ref q7), y8, y9, y10, y11, y12, y13]) (i := 0) rfl) (ev_var (i := 2) rfl)
      rw [f1, f2]
      show gSb (cVar 0) (cVar 2) (.ref qh) [some (.ref R), some (iD p), some (iD (Int.ofNat d)), some (iD (w)), some (iD (Int.ofNat n)), some (iD (Int.ofNat j)), y6, some (.ref q7), y8, y9, y10, y11, y12, y13] η2 (fun σ1 η3 => gSb (cVar 0) (cOp fIx (cVar 7) (cC (.int 0))) (.ref qd) σ1 η3 (fun σ2 η4 => sAsg (cNeg (cVar 3)) (gNm 3) σ2 η4 ⟨fun σ3 η5 => bClr4 σ3 η5 K, K.rt, K.bk, K.ct, K.xc⟩) K.xc) K.xc = true
      unfold gSb
      rw [w_var (i := 0) (d := .ref R) rfl, w_var (i := 2) (d := iD (Int.ofNat d)) rfl]
      obtain ⟨l, k1, M3⟩ := M2.set (k := d) (f := m h) (by omega) l1 b1 n1 z1
      rw [k1]
      dsimp only
      have keep : ∀ q, q ≠ R → ∀ l', η2.list q = some l' → (η2.set R (.lst l)).list q = some l' := fun q hq l' hl => by unfold Hd.list; rw [get_set_ne hq]; exact hl
      rw [w_var (i := 0) (d := .ref R) rfl, E7 _ (keep _ q7R _ g8)]
      obtain ⟨l', k2, M4⟩ := M3.set (k := h) (f := m d) h2 (keep _ n2 _ l2) b2 n2 z2
      rw [k2]
      dsimp only
      rw [w_set, (ev_neg (ev_var (i := 3) rfl) : Ev (cNeg (cVar 3)) [some (.ref R), some (iD p), some (iD (Int.ofNat d)), some (iD (w)), some (iD (Int.ofNat n)), some (iD (Int.ofNat j)), y6, some (.ref q7), y8, y9, y10, y11, y12, y13] _ (.int (Int.neg w)))]
      have := fin _ (M4.ext (m' := swR m d h) fun i c hi hc => by
        unfold swR swapR
        rw [if_neg z]
        by_cases z3 : i = h
        · rw [if_pos z3, if_neg (by omega), if_pos z3]
        · rw [if_neg z3]
          by_cases z4 : i = d
          · rw [if_pos z4, if_pos z4]
          · rw [if_neg z4, if_neg z4, if_neg z3])
      unfold swW at this
      rw [if_neg z] at this
      exact this
end
end DL

/-! grids by a prime: cleared, corner (printed by k30f_.py) -/
namespace DL
open PySem PySem.Spec L2
section
variable {S : List Nat} {σ : SD} {η : Hd} {kv : KV} {kx : KX} {A B C : CE}
theorem w_par3 {i j l : Nat} {K : KS} : sPar3 i j l (cCons A (cCons B (cCons C cNil))) σ η K = A σ η (fun x η1 => B σ η1 (fun y η2 => C σ η2 (fun z η3 => K.nx (((σ.set i (some x)).set j (some y)).set l (some z)) η3) K.xc) K.xc) K.xc := rfl
theorem w_tup3 : cTup (cCons A (cCons B (cCons C cNil))) σ η kv kx = A σ η (fun x η1 => B σ η1 (fun y η2 => C σ η2 (fun z η3 => kv (.tup [x, y, z]) η3) kx) kx) kx := rfl
theorem w_gtp3 {i j l : Nat} {x y z : D} {k : SD → Hd → Bool} : gTp 3 (gsCons (gNm i) (gsCons (gNm j) (gsCons (gNm l) gsNil))) (.tup [x, y, z]) σ η k kx = k (((σ.set i (some x)).set j (some y)).set l (some z)) η := rfl
theorem w_gtp2 {i j : Nat} {x y : D} {k : SD → Hd → Bool} : gTp 2 (gsCons (gNm i) (gsCons (gNm j) gsNil)) (.tup [x, y]) σ η k kx = k ((σ.set i (some x)).set j (some y)) η := rfl
theorem w_cif {t : CT} {a b : CE} : cIf t a b σ η kv kx = t σ η (fun x η1 => match x with
  | true => a σ η1 kv kx
  | false => b σ η1 kv kx) kx := rfl
/-- a walk over a row, a list's or a tuple's: the elements see the heap that has grown -/
theorem yn_lcR2 {g : CG} {e : CE} {vs : List Nat} {v : D} {r : Nat} {it f : Nat → D} (hA : Ev A σ η v) (hv : Row S η v (tab r it)) (hr : r ≤ 1000000) (h : ∀ i, i < r → ∀ η1, Gr S η η1 → ∃ σ1, (∀ K kx, g (it i) (wipeD σ vs) η1 K kx = K σ1 η1) ∧ Yl [] e σ1 η1 (f i)) : Yn S (cLc (ciSeq A) g ctYes e vs) σ η (tab r f) := by
  have hv' := hv.at_
  unfold rowAt at hv'
  split at hv'
  · cases hv'
    exact yn_lc (iw_seq (yl_ev hA)) hr fun i hi η1 x1 => by
      obtain ⟨σ1, a, b⟩ := h i hi η1 x1
      exact ⟨σ1, a, fun kv kx hk => b kv kx fun η2 x2 => hk η2 (x2.sub fun _ h _ => nomatch h)⟩
  · rename_i q
    have lq := hv.lt q rfl
    intro kv kx hk
    unfold cLc ciSeq
    rw [hA]
    rcases list_cases hv' with gq | gq
    · have e1 : itsOf η (.ref q) = some ⟨tab r it, some (q, tab r it)⟩ := by simp only [itsOf, gq]
      rw [e1]
      have fz : Gr S η (frzAt q (tab r it) η) := by
        have := Gr.frzd (S := S) (η := η) (v := .ref q) fun r l e _ => hv.mem r e
        simp only [frzd, gq] at this
        exact this
      show lcD g ctYes e (wipeD σ vs) _ (tab r it) line1 [] (Hd.bump (frzAt q (tab r it) η)) = true
      refine lcD_yl (S := []) (η0 := Hd.bump (frzAt q (tab r it) η)) f it r line1 [] _ (by unfold line1; omega) (Gr.refl _ _) (fun i hi η2 x2 => h i hi η2 ((fz.trans Gr.bump).trans (x2.sub fun _ h _ => nomatch h))) fun η2 x2 => ?_
      show kv (.ref η.nx) ((unfAt q (tab r it) η2).add η.nx (.lst ([].reverse ++ tab r f))) = true
      have x' : Gr [] (frzAt q (tab r it) η) η2 := Gr.bump.trans x2
      have x3 := Gr.unfz gq lq x'
      refine hk η.nx _ ((x3.sub fun _ h _ => nomatch h).add (Nat.le_refl _)) (Nat.le_refl _) ?_ ?_
      · show η.nx < η2.nx
        exact Nat.lt_of_lt_of_le (Nat.lt_succ_self _) x2.1
      · rw [Hd.get_add, if_pos rfl]; rfl
    · have e1 : itsOf η (.ref q) = some ⟨tab r it, none⟩ := by simp only [itsOf, gq]
      rw [e1]
      show lcD g ctYes e (wipeD σ vs) _ (tab r it) line1 [] (Hd.bump η) = true
      refine lcD_yl (S := []) (η0 := Hd.bump η) f it r line1 [] _ (by unfold line1; omega) (Gr.refl _ _) (fun i hi η2 x2 => h i hi η2 (Gr.bump.trans (x2.sub fun _ h _ => nomatch h))) fun η2 x2 => ?_
      refine hk η.nx _ (((Gr.bump.trans x2).sub fun _ h _ => nomatch h).add (Nat.le_refl _)) (Nat.le_refl _) ?_ ?_
      · show η.nx < η2.nx
        exact Nat.lt_of_lt_of_le (Nat.lt_succ_self _) x2.1
      · rw [Hd.get_add, if_pos rfl]; rfl
  · cases hv'
end
section
variable {n R : Nat} {m m0 : Mt} {η η0 : Hd} {p : Int} {e : Nat} {det : Mt → Int}
/-- [list(row) for row in a grid] -/
theorem mat_new {σ : SD} {A : CE} {i : Nat} {kv : KV} {kx : KX} (hA : Yl [] A σ η (mkD n m0)) (hi : i < σ.length) (hn : n ≤ 1000) (hk : ∀ R η', Mat n R m0 η η' → kv (.ref R) η' = true) : cLc (ciSeq A) (gNm i) ctYes (cFn (f1 gList) (cCons (cVar i) cNil)) [i] σ η kv kx = true := by
  unfold cLc
  refine iw_seq hA _ _ fun η1 x1 => ?_
  show lcD (gNm i) ctYes _ (wipeD σ [i]) _ (tab n (fun k => .tup (iRow n (m0 k)))) line1 [] (Hd.bump η1) = true
  have hl : (wipeD σ [i]).length = σ.length := by show (σ.set i none).length = _; rw [List.length_set]
  refine lcD_yn (S := []) (η0 := Hd.bump η1) (fun _ h => nomatch h) n (fun k => iRow n (m0 k)) _ line1 [] _ (by unfold line1; omega) (Gr.refl _ _) (fun k hk η2 x2 => ⟨_, fun K kx => rfl, yn_list (yl_var (List.getElem?_set_self (by rw [hl]; exact hi))) (by rw [iRow_len]; omega)⟩) fun q η2 x2 hq => ?_
  refine hk η1.nx _ ⟨⟨q, by rw [Hd.get_add, if_pos rfl]; rfl, fun k hk => ?_⟩, x1.1, Nat.lt_of_lt_of_le (Nat.lt_succ_self _) x2.1, ((x1.trans Gr.bump).trans x2).add x1.1⟩
  obtain ⟨a, b, c⟩ := hq k hk
  have a' : η1.nx + 1 ≤ q k := a
  exact ⟨list_lst (by rw [Hd.get_add, if_neg (by omega)]; exact c), b, by omega, by have := x1.1; omega⟩
/-- tuple([tuple(row) for row in rows]) -/
theorem mat_tup {σ : SD} {A : CE} {i : Nat} {kv : KV} {kx : KX} (M : Mat n R m η0 η) (hA : Ev A σ η (.ref R)) (hi : i < σ.length) (hn : n ≤ 1000) (hk : ∀ η', Mat n R m η0 η' → kv (mkD n m) η' = true) : cFn (f1 gTuple) (cCons (cLc (ciSeq A) (gNm i) ctYes (cFn (f1 gTuple) (cCons (cVar i) cNil)) [i]) cNil) σ η kv kx = true := by
  obtain ⟨q, h1, h2⟩ := M.qs
  have hl : (wipeD σ [i]).length = σ.length := by show (σ.set i none).length = _; rw [List.length_set]
  -- the list is walked, and stands as it was behind
  rw [w_fn1]
  unfold cLc ciSeq
  rw [hA]
  have e1 : itsOf η (.ref R) = some ⟨tab n (fun i => .ref (q i)), some (R, tab n (fun i => .ref (q i)))⟩ := by simp only [itsOf, h1]
  rw [e1]
  show lcD (gNm i) ctYes _ (wipeD σ [i]) _ (tab n (fun i => .ref (q i))) line1 [] (Hd.bump (frzAt R (tab n (fun i => .ref (q i))) η)) = true
  have fz : Gr [R] η (frzAt R (tab n (fun i => .ref (q i))) η) := by
    have := Gr.frzd (S := [R]) (η := η) (v := .ref R) fun r l e _ => by cases e; simp
    simp only [frzd, h1] at this
    exact this
  refine lcD_yl (S := []) (η0 := Hd.bump (frzAt R (tab n (fun i => .ref (q i))) η)) (fun k => .tup (iRow n (m k))) _ n line1 [] _ (by unfold line1; omega) (Gr.refl _ _) (fun k hk η2 x2 => ⟨_, fun K kx => rfl, fun kv kx hkv => ?_⟩) fun η2 x2 => ?_
  · obtain ⟨a, b, _, _⟩ := h2 k hk
    rw [w_fn1, w_var (List.getElem?_set_self (by rw [hl]; exact hi))]
    have l2 : η2.list (q k) = some (iRow n (m k)) := ((fz.trans Gr.bump).trans (x2.sub (T := [R]) fun _ h _ => nomatch h)).list b a
    have : f1 gTuple [.ref (q k)] η2 = some (.tup (iRow n (m k)), η2) := by simp only [f1, gTuple, l2]
    rw [this]
    exact hkv η2 (Gr.refl _ _)
  · show (match f1 gTuple [.ref η.nx] ((unfAt R (tab n (fun i => .ref (q i))) η2).add η.nx (.lst ([].reverse ++ tab n (fun k => .tup (iRow n (m k)))))) with | some (d, η2) => kv d η2 | none => false) = true
    rw [tup_new]
    have x' : Gr [] (frzAt R (tab n (fun i => .ref (q i))) η) η2 := Gr.bump.trans x2
    exact hk _ (M.mono ((Gr.unfz h1 M.R1 x').add (Nat.le_refl _)))
theorem clr_loop (Dt : DetOk n det) (P : PrOk p e) (hn : n ≤ 1000) {y10 y11 y12 y13 : Option D} {K : KS}
    (hk : ∀ d w m y5 y6 y7 y8 y9 η', ClI n det p m0 n d w m → Mat n R m η0 η' → K.nx [some (.ref R), some (iD p), some (iD (Int.ofNat d)), some (iD (w)), some (iD (Int.ofNat n)), y5, y6, y7, y8, y9, y10, y11, y12, y13] η' = true) : ∀ (r o : Nat) (d : Nat) (w : Int) (m : Mt) (y5 y6 y7 y8 y9 : Option D) (η : Hd), o + r = n → ClI n det p m0 o d w m → Mat n R m η0 η →
    forD (gNm 5) (bClr Ft') K (tab r (fun q => iD (Int.ofNat (o + q)))) [some (.ref R), some (iD p), some (iD (Int.ofNat d)), some (iD (w)), some (iD (Int.ofNat n)), y5, y6, y7, y8, y9, y10, y11, y12, y13] η = true
  | 0, o, d, w, m, y5, y6, y7, y8, y9, η, h, C, M => by
    rw [show o = n by omega] at C
    exact hk d w m y5 y6 y7 y8 y9 η C M
  | r + 1, o, d, w, m, y5, y6, y7, y8, y9, η, h, C, M => by
    rw [tab_cons, forD, w_nm]
    rw [show ([some (.ref R), some (iD p), some (iD (Int.ofNat d)), some (iD (w)), some (iD (Int.ofNat n)), y5, y6, y7, y8, y9, y10, y11, y12, y13] : SD).set 5 (some (iD (Int.ofNat (o + 0)))) = [some (.ref R), some (iD p), some (iD (Int.ofNat d)), some (iD (w)), some (iD (Int.ofNat n)), some (iD (Int.ofNat o)), y6, y7, y8, y9, y10, y11, y12, y13] from rfl]
    refine clr_step Dt P (by omega) hn C M fun d w m y6 y7 y8 y9 η1 C1 M1 => ?_
    have := clr_loop Dt P hn hk r (o + 1) d w m (some (iD (Int.ofNat o))) y6 y7 y8 y9 η1 (by omega) C1 M1
    simp only [show ∀ i, o + 1 + i = o + (i + 1) by intro i; omega] at this
    exact ⟨this, this⟩
abbrev Fcl' : CF := cDef 2 14 (bCleared Ft')
theorem cleared_ok (Dt : DetOk n det) (P : PrOk p e) (hn0 : 0 < n) (hn : n ≤ 1000) (rg : ∀ i c, i < n → c < n → 0 ≤ m0 i c ∧ m0 i c < p) {kv : KV} {kx : KX}
    (hk : ∀ d w m η', ClI n det p m0 n d w m → Gr [] η η' → kv (.tup [mkD n m, iD (Int.ofNat d), iD (w % p)]) η' = true) : Fcl' [mkD n m0, .int p] η kv kx = true := by
  have p2 := P.p2
  unfold Fcl'
  rw [w_def2]
  unfold bCleared
  rw [w_seq, w_set]
  refine mat_new (yl_var (i := 0) rfl) (show 10 < 14 by decide) hn fun R η1 M1 => ?_
  rw [show (startD 2 14 [mkD n m0, .int p]).set 0 (some (.ref R)) = [some (.ref R), some (iD p), none, none, none, none, none, none, none, none, none, none, none, none] from rfl]
  dsimp only
  rw [w_seq, w_par3, w_c, w_c]
  obtain ⟨q, e1, l1, _⟩ := M1.row hn0 (ev_var (σ := [some (.ref R), some (iD p), none, none, none, none, none, none, none, none, none, none, none, none]) (i := 0) rfl) (ev_c (d := iD (Int.ofNat 0)))
  have E2 : Ev (cFn (f1 gLenA) (cCons (cOp fIx (cVar 0) (cC (.int 0))) cNil)) [some (.ref R), some (iD p), none, none, none, none, none, none, none, none, none, none, none, none] η1 (.int (Int.ofNat n)) := by
    have := ev_lenL e1 l1
    rw [iRow_len] at this
    exact this
  rw [E2]
  dsimp only
  rw [w_seq]
  unfold sFor
  rw [it_r1 (j := n) (ev_var (i := 4) rfl) (by omega)]
  show forD (gNm 5) (bClr Ft') (KS.thaw _ _) (tab n (fun i => iD (Int.ofNat i))) [some (.ref R), some (iD p), some (iD (Int.ofNat 0)), some (iD 1), some (iD (Int.ofNat n)), none, none, none, none, none, none, none, none, none] η1 = true
  rw [thaw_none]
  have := clr_loop (η0 := η) (R := R) Dt P hn (m0 := m0) (K := ⟨fun σ1 η1 => sRet (cTup (cCons (cFn (f1 gTuple) (cCons (cLc (ciSeq (cVar 0)) (gNm 10) ctYes (cFn (f1 gTuple) (cCons (cVar 10) cNil)) [10]) cNil)) (cCons (cVar 2) (cCons (cOp fMod (cVar 3) (cVar 1)) cNil)))) σ1 η1 ⟨fun _ η1 => kv .non η1, kv, fun _ _ => false, fun _ _ => false, kx⟩, kv, fun _ _ => false, fun _ _ => false, kx⟩) (y10 := none) (y11 := none) (y12 := none) (y13 := none) (fun d w m y5 y6 y7 y8 y9 η2 C2 M2 => by
    dsimp only
    rw [w_ret, w_tup3]
    refine mat_tup M2 (ev_var rfl) (show 10 < 14 by decide) hn fun η3 M3 => ?_
    rw [w_var (i := 2) (d := iD (Int.ofNat d)) rfl, (ev_mod (ev_var (i := 3) rfl) (ev_var (i := 1) rfl) (by omega) : Ev (cOp fMod (cVar 3) (cVar 1)) [some (.ref R), some (iD p), some (iD (Int.ofNat d)), some (iD (w)), some (iD (Int.ofNat n)), y5, y6, y7, y8, y9, none, none, none, none] η3 (.int (w % p)))]
    exact hk d w m η3 C2 M3.gr) n 0 0 1 m0 none none none none none η1 (by omega) (ClI.start P rg) M1
  simp only [Nat.zero_add] at this
  exact this
theorem ClI.fin (Dt : DetOk n det) (P : PrOk p e) {d : Nat} {w : Int} (C : ClI n det p m0 n d w m) (hn0 : 0 < n) : (d = n → det m0 % p = w % p ∧ det m0 % p ≠ 0 ∧ ∀ i c, i < n → c < n → m i c = if i = c then 1 else 0) ∧ (d < n → det m0 % p = 0) := by
  refine ⟨fun h => ?_, fun h => ?_⟩
  · have un := C.un h
    have e1 : det m = 1 := by
      rw [Dt.diag (fun i c hi hc hne => by rw [un i c hi hc, if_neg hne])]
      have : ∀ t, t ≤ n → prodTo t (fun i => m i i) = 1 := by
        intro t
        induction t with
        | zero => intro _; rfl
        | succ t ih => intro ht; rw [prodTo, ih (by omega), un t t (by omega) (by omega), if_pos rfl]; rfl
      exact this n (Nat.le_refl _)
    have e2 := C.dt
    rw [e1, Int.mul_one] at e2
    exact ⟨e2, by rw [e2]; exact C.w0, un⟩
  · have e1 : det m = 0 := Dt.zero (i := n - 1) (by omega) fun c hc => C.ec (n - 1) c (by omega) (by omega) hc
    rw [C.dt, e1, Int.mul_zero, Int.zero_emod]
def bCorner (Fc : CF) : CS := (sSeq (sAsg (cCall Fc (cCons (cVar 0) (cCons (cVar 1) cNil))) (gTp 3 (gsCons (gNm 2) (gsCons (gNm 3) (gsCons (gNm 4) gsNil))))) (sRet (cIf (cTst (cOp fEq (cVar 3) (cFn (f1 gLenA) (cCons (cVar 0) cNil)))) (cVar 4) (cC (.int 0)))))
abbrev Fco' : CF := cDef 2 5 (bCorner Fcl')
theorem corner_ok (Dt : DetOk n det) (P : PrOk p e) (hn0 : 0 < n) (hn : n ≤ 1000) (rg : ∀ i c, i < n → c < n → 0 ≤ m0 i c ∧ m0 i c < p) : Fl [] Fco' [mkD n m0, .int p] η (.int (det m0 % p)) := fun kv kx hk => by
  unfold Fco'
  rw [w_def2]
  unfold bCorner
  rw [w_seq, w_asg, w_call2, w_var (i := 0) (d := mkD n m0) rfl, w_var (i := 1) (d := iD p) rfl]
  refine cleared_ok Dt P hn0 hn rg fun d w m η1 C x1 => ?_
  obtain ⟨f1_, f2⟩ := C.fin Dt P hn0
  rw [w_gtp3]
  rw [show (((startD 2 5 [mkD n m0, .int p]).set 2 (some (mkD n m))).set 3 (some (iD (Int.ofNat d)))).set 4 (some (iD (w % p))) = [some (mkD n m0), some (iD p), some (mkD n m), some (iD (Int.ofNat d)), some (iD (w % p))] from rfl]
  dsimp only
  rw [w_ret, w_cif]
  have E : Ev (cOp fEq (cVar 3) (cFn (f1 gLenA) (cCons (cVar 0) cNil))) [some (mkD n m0), some (iD p), some (mkD n m), some (iD (Int.ofNat d)), some (iD (w % p))] η1 (.bl (decide ((Int.ofNat d : Int) = Int.ofNat n))) := ev_op (x := iD (Int.ofNat d)) (y := iD (Int.ofNat n)) (ev_var rfl) (ev_lenT' (ev_var (i := 0) (d := mkD n m0) rfl) tab_len) fEq_int
  rw [w_tst, E]
  dsimp only
  by_cases z : d = n
  · rw [decide_eq_true (by rw [z])]
    dsimp only
    rw [w_var (i := 4) (d := iD (w % p)) rfl, ← (f1_ z).1]
    exact hk η1 x1
  · rw [decide_eq_false (fun h => z (Int.ofNat.inj h))]
    dsimp only
    rw [w_c]
    have : d < n := by have := C.dj; omega
    rw [f2 this] at hk
    exact hk η1 x1
end
end DL

/-! grids by a prime: unit, times, adding, step -/
namespace DL
open PySem PySem.Spec L2
def idM : Mt := fun i c => if i = c then 1 else 0
def mulM (n : Nat) (p : Int) (a b : Mt) : Mt := fun i c => sumTo n (fun k => a i k * b k c) % p
def addM (k j : Nat) (t : Int) : Mt := fun i c => if i = k ∧ c = j then t else idM i c
def stepM (p : Int) (m : Mt) (k j : Nat) (t : Int) : Mt := fun i c => if i = k then (m k c + t * m j c) % p else m i c
def bUnit : CS := (sRet (cFn (f1 gTuple) (cCons (cLc (ciR1 (cCons (cVar 0) cNil)) (gNm 1) ctYes (cFn (f1 gTuple) (cCons (cLc (ciR1 (cCons (cVar 0) cNil)) (gNm 2) ctYes (cFn (f1 gInt) (cCons (cOp fEq (cVar 1) (cVar 2)) cNil)) [2]) cNil)) [1]) cNil)))
def bTimes : CS := (sSeq (sAsg (cFn (f1 gLenA) (cCons (cVar 0) cNil)) (gNm 3)) (sRet (cFn (f1 gTuple) (cCons (cLc (ciSeq (cVar 0)) (gNm 4) ctYes (cFn (f1 gTuple) (cCons (cLc (ciR1 (cCons (cVar 3) cNil)) (gNm 5) ctYes (cOp fMod (cSumG (ciR1 (cCons (cVar 3) cNil)) (gNm 6) ctYes (cOp fMul (cOp fIx (cVar 4) (cVar 6)) (cOp fIx (cOp fIx (cVar 1) (cVar 6)) (cVar 5))) [6]) (cVar 2)) [5]) cNil)) [4]) cNil))))
def bStep : CS := (sAsg (cLc (ciZip2 (cCons (cOp fIx (cVar 0) (cVar 1)) (cCons (cOp fIx (cVar 0) (cVar 2)) cNil))) (gTp 2 (gsCons (gNm 5) (gsCons (gNm 6) gsNil))) ctYes (cOp fMod (cOp fAdd (cVar 5) (cOp fMul (cVar 3) (cVar 6))) (cVar 4)) [5, 6]) (gSb (cVar 0) (cVar 1)))
abbrev Fu' : CF := cDef 1 3 bUnit
abbrev Fti' : CF := cDef 3 7 bTimes
abbrev Fst' : CF := cDef 5 7 bStep
def bAdding (Fu : CF) : CS := (sSeq (sAsg (cLc (ciSeq (cCall Fu (cCons (cVar 0) cNil))) (gNm 5) ctYes (cFn (f1 gList) (cCons (cVar 5) cNil)) [5]) (gNm 4)) (sSeq (sAsg (cVar 3) (gSb (cOp fIx (cVar 4) (cVar 1)) (cVar 2))) (sRet (cFn (f1 gTuple) (cCons (cLc (ciSeq (cVar 4)) (gNm 5) ctYes (cFn (f1 gTuple) (cCons (cVar 5) cNil)) [5]) cNil)))))
abbrev Fad' : CF := cDef 4 6 (bAdding Fu')
section
variable {S : List Nat} {n R : Nat} {m m0 a b : Mt} {η η0 : Hd} {p : Int} {e : Nat}
theorem unit_ok (hn : n ≤ 1000) : Fl S Fu' [.int (Int.ofNat n)] η (mkD n idM) := fun kv kx hk => by
  unfold Fu'
  rw [w_def1]
  unfold bUnit
  rw [w_ret]
  refine yl_tup (S := S) (L := tab n (fun i => .tup (iRow n (idM i)))) (yn_lc (iw_r1 (yl_var (i := 0) rfl) (by omega)) (by omega) fun i hi η1 x1 => ⟨[some (iD (Int.ofNat n)), some (iD (Int.ofNat i)), none], fun K kx => rfl, ?_⟩) _ _ hk
  refine yl_tup (yn_lc (f := fun c => iD (idM i c)) (iw_r1 (yl_var (i := 0) rfl) (by omega)) (by omega) fun c hc η2 x2 => ⟨[some (iD (Int.ofNat n)), some (iD (Int.ofNat i)), some (iD (Int.ofNat c))], fun K kx => rfl, ?_⟩)
  have E : Ev (cOp fEq (cVar 1) (cVar 2)) [some (iD (Int.ofNat n)), some (iD (Int.ofNat i)), some (iD (Int.ofNat c))] η2 (.bl (decide ((Int.ofNat i : Int) = Int.ofNat c))) := ev_op (ev_var rfl) (ev_var rfl) fEq_int
  refine yl_ev (ev_fn (eva1 E) ?_)
  unfold idM
  by_cases z : i = c
  · rw [decide_eq_true (by rw [z]), if_pos z]; rfl
  · rw [decide_eq_false (fun h => z (Int.ofNat.inj h)), if_neg z]; rfl
theorem times_ok (hn : n ≤ 1000) (ha : ∀ i c, i < n → c < n → (a i c).natAbs ≤ 1000) (hb : ∀ i c, i < n → c < n → (b i c).natAbs ≤ 1000) (hp : 0 < p) : Fl S Fti' [mkD n a, mkD n b, .int p] η (mkD n (mulM n p a b)) := fun kv kx hk => by
  unfold Fti'
  rw [w_def3]
  unfold bTimes
  rw [w_seq, w_set, (ev_lenT' (ev_var (i := 0) (d := mkD n a) rfl) tab_len : Ev (cFn (f1 gLenA) (cCons (cVar 0) cNil)) (startD 3 7 [mkD n a, mkD n b, .int p]) η (.int (Int.ofNat n)))]
  rw [show (startD 3 7 [mkD n a, mkD n b, .int p]).set 3 (some (.int (Int.ofNat n))) = [some (mkD n a), some (mkD n b), some (iD p), some (iD (Int.ofNat n)), none, none, none] from rfl]
  dsimp only
  rw [w_ret]
  refine yl_tup (S := S) (L := tab n (fun i => .tup (iRow n (mulM n p a b i)))) (yn_lc (it := fun i => .tup (iRow n (a i))) (iw_seq (yl_var (i := 0) (d := mkD n a) rfl)) (by omega) fun i hi η1 x1 => ⟨[some (mkD n a), some (mkD n b), some (iD p), some (iD (Int.ofNat n)), some (.tup (iRow n (a i))), none, none], fun K kx => rfl, ?_⟩) _ _ hk
  refine yl_tup (yn_lc (f := fun c => iD (mulM n p a b i c)) (iw_r1 (yl_var (i := 3) rfl) (by omega)) (by omega) fun c hc η2 x2 => ⟨[some (mkD n a), some (mkD n b), some (iD p), some (iD (Int.ofNat n)), some (.tup (iRow n (a i))), some (iD (Int.ofNat c)), none], fun K kx => rfl, ?_⟩)
  refine yl_mod (yl_sum (M := 1000000) (f := fun k => a i k * b k c) (iw_r1 (yl_var (i := 3) rfl) (by omega)) (fun k hk => ?_) (by omega) fun k hk η3 x3 => ⟨[some (mkD n a), some (mkD n b), some (iD p), some (iD (Int.ofNat n)), some (.tup (iRow n (a i))), some (iD (Int.ofNat c)), some (iD (Int.ofNat k))], fun K kx => rfl, ?_⟩) (fun _ _ => yl_var rfl) hp
  · rw [Int.natAbs_mul]
    have := Nat.mul_le_mul (ha i k hi hk) (hb k c hk hc)
    omega
  · exact yl_ev (ev_mulL (ev_ixT (ev_var (i := 4) rfl) (ev_var (i := 6) rfl) (iRow_get hk)) (ev_ixT (l := iRow n (b k)) (ev_ixT (l := tab n (fun i => .tup (iRow n (b i)))) (ev_var (i := 1) rfl) (ev_var (i := 6) rfl) (tab_get hk)) (ev_var (i := 5) rfl) (iRow_get hc)) (by have := ha i k hi hk; omega))
theorem w_lc {i : CI} {g : CG} {t : CT} {e : CE} {vs : List Nat} {σ : SD} {kv : KV} {kx : KX} : cLc i g t e vs σ η kv kx = i σ η (fun it η1 => lcD g t e (wipeD σ vs) (fun acc η2 => kv (.ref η1.nx) ((it.un η2).add η1.nx (.lst acc))) it.l line1 [] (Hd.bump (it.fr η1))) kx := rfl
theorem w_def5 {k : Nat} {bd : CS} {x y z u v : D} {kv : KV} {kx : KX} : cDef 5 k bd [x, y, z, u, v] η kv kx = bd (startD 5 k [x, y, z, u, v]) η ⟨fun _ η1 => kv .non η1, kv, fun _ _ => false, fun _ _ => false, kx⟩ := rfl
/-- a comprehension of new lists, each a cell of its own -/
theorem lcD_yn2 {g : CG} {e : CE} {σ : SD} {k : List D → Hd → Bool} (hS : ∀ q ∈ S, q < η0.nx) : ∀ (r : Nat) (L : Nat → List D) (it : Nat → D) (n : Nat) (acc : List D) (η : Hd), r ≤ n → Gr S η0 η →
    (∀ i, i < r → ∀ η1, Gr S η0 η1 → ∃ σ1, (∀ K kx, g (it i) σ η1 K kx = K σ1 η1) ∧ Yn S e σ1 η1 (L i)) →
    (∀ (q : Nat → Nat) (η' : Hd), Gr S η η' → (∀ i, i < r → η.nx ≤ q i ∧ q i < η'.nx ∧ η'.get (q i) = some (.lst (L i))) → (∀ i j, i < j → j < r → q i < q j) → k (acc.reverse ++ tab r (fun i => .ref (q i))) η' = true) → lcD g ctYes e σ k (tab r it) n acc η = true
  | 0, L, it, n, acc, η, _, _, _, hk => by have := hk (fun _ => 0) η (Gr.refl _ _) (fun i hi => absurd hi (by omega)) (fun i j _ h => absurd h (by omega)); simpa [tab, lcD] using this
  | r + 1, L, it, n, acc, η, hn, x0, h, hk => by
    obtain ⟨n, rfl⟩ : ∃ m, n = m + 1 := ⟨n - 1, by omega⟩
    obtain ⟨σ1, h1, h2⟩ := h 0 (by omega) η x0
    rw [tab_cons, lcD, h1]
    show e σ1 η _ kF = true
    refine h2 _ _ fun q0 η1 x1 l1 l2 g1 => ?_
    refine lcD_yn2 hS r (fun i => L (i + 1)) (fun i => it (i + 1)) n _ η1 (by omega) (x0.trans x1) (fun i hi => h (i + 1) (by omega)) fun q η2 x2 hq hd => ?_
    have := hk (fun i => match i with | 0 => q0 | i + 1 => q i) η2 (x1.trans x2) (fun i hi => by
      cases i with
      | zero => exact ⟨l1, Nat.lt_of_lt_of_le l2 x2.1, by show η2.get q0 = _; rw [x2.keep l2 (fun z => by have := hS _ z; have := x0.1; omega)]; exact g1⟩
      | succ i =>
        obtain ⟨a, b, c⟩ := hq i (by omega)
        exact ⟨Nat.le_trans x1.1 a, b, c⟩) (fun i j hij hj => by
      cases j with
      | zero => omega
      | succ j =>
        obtain ⟨a, _⟩ := hq j (by omega)
        cases i with
        | zero => show q0 < q j; omega
        | succ i => exact hd i j (by omega) (by omega))
    rw [tab_cons] at this
    rw [List.reverse_cons, List.append_assoc]
    exact this
theorem adding_ok (hn : n ≤ 1000) {k j : Nat} (hk : k < n) (hj : j < n) {t : Int} : Fl [] Fad' [.int (Int.ofNat n), .int (Int.ofNat k), .int (Int.ofNat j), .int t] η (mkD n (addM k j t)) := fun kv kx hkv => by
  unfold Fad'
  rw [w_def4]
  unfold bAdding
  rw [w_seq, w_set]
  rw [show startD 4 6 [.int (Int.ofNat n), .int (Int.ofNat k), .int (Int.ofNat j), .int t] = [some (iD (Int.ofNat n)), some (iD (Int.ofNat k)), some (iD (Int.ofNat j)), some (iD t), none, none] from rfl]
  rw [w_lc]
  refine iw_seq (S := []) (l := tab n (fun i => .tup (iRow n (idM i)))) (yl_call1 (yl_var (i := 0) rfl) (fun η1 _ => unit_ok hn)) _ _ fun η1 x1 => ?_
  show lcD (gNm 5) ctYes _ [some (iD (Int.ofNat n)), some (iD (Int.ofNat k)), some (iD (Int.ofNat j)), some (iD t), none, none] _ (tab n (fun i => .tup (iRow n (idM i)))) line1 [] (Hd.bump η1) = true
  refine lcD_yn2 (S := []) (η0 := Hd.bump η1) (fun _ h => nomatch h) n (fun i => iRow n (idM i)) _ line1 [] _ (by unfold line1; omega) (Gr.refl _ _) (fun i hi η2 x2 => ⟨[some (iD (Int.ofNat n)), some (iD (Int.ofNat k)), some (iD (Int.ofNat j)), some (iD t), none, some (.tup (iRow n (idM i)))], fun K kx => rfl, yn_list (yl_var rfl) (by rw [iRow_len]; omega)⟩) fun q η2 x2 hq hd => ?_
  rw [un_none]
  have gR : (η2.add η1.nx (.lst ([].reverse ++ tab n (fun i => .ref (q i))))).get η1.nx = some (.lst (tab n (fun i => .ref (q i)))) := by rw [Hd.get_add, if_pos rfl]; rfl
  have gq : ∀ i, i < n → (η2.add η1.nx (.lst ([].reverse ++ tab n (fun i => .ref (q i))))).get (q i) = some (.lst (iRow n (idM i))) ∧ q i < η2.nx ∧ η1.nx + 1 ≤ q i := fun i hi => by
    obtain ⟨a, b, c⟩ := hq i hi
    have a' : η1.nx + 1 ≤ q i := a
    exact ⟨by rw [Hd.get_add, if_neg (by omega)]; exact c, b, a'⟩
  have x3 : Gr [] η (η2.add η1.nx (.lst ([].reverse ++ tab n (fun i => .ref (q i))))) := ((x1.trans Gr.bump).trans x2).add x1.1
  have nx3 : (η2.add η1.nx (.lst ([].reverse ++ tab n (fun i => .ref (q i))))).nx = η2.nx := rfl
  generalize hη3 : η2.add η1.nx (.lst ([].reverse ++ tab n (fun i => .ref (q i)))) = η3 at gR gq x3 nx3
  dsimp only
  rw [show ([some (iD (Int.ofNat n)), some (iD (Int.ofNat k)), some (iD (Int.ofNat j)), some (iD t), none, none] : SD).set 4 (some (.ref η1.nx)) = [some (iD (Int.ofNat n)), some (iD (Int.ofNat k)), some (iD (Int.ofNat j)), some (iD t), some (.ref η1.nx), none] from rfl]
  rw [w_seq, w_sub, w_var (i := 3) (d := iD t) rfl]
  obtain ⟨gk, lk, ak⟩ := gq k hk
  have Ek : Ev (cOp fIx (cVar 4) (cVar 1)) [some (iD (Int.ofNat n)), some (iD (Int.ofNat k)), some (iD (Int.ofNat j)), some (iD t), some (.ref η1.nx), none] η3 (.ref (q k)) := ev_ixL (ev_var rfl) (list_lst gR) (ev_var rfl) (tab_get hk)
  rw [Ek, w_var (i := 2) (d := iD (Int.ofNat j)) rfl, fSet_at gk iRow_len hj]
  dsimp only
  rw [w_ret]
  have M : Mat n η1.nx (addM k j t) η (η3.set (q k) (.lst ((iRow n (idM k)).set j (iD t)))) := by
    refine ⟨⟨q, by rw [get_set_ne (by omega)]; exact gR, fun i hi => ?_⟩, x1.1, by show η1.nx < η3.nx; rw [nx3]; omega, x3.setN (by have := x1.1; omega)⟩
    obtain ⟨gi, li, ai⟩ := gq i hi
    refine ⟨?_, by show q i < η3.nx; rw [nx3]; exact li, by omega, by have := x1.1; omega⟩
    by_cases z : i = k
    · subst z
      refine (list_lst (get_set_eq gk)).trans ?_
      congr 1
      unfold iRow
      rw [tab_set]
      refine tab_ext fun c _ => ?_
      unfold addM
      by_cases z2 : c = j
      · rw [if_pos z2, if_pos ⟨rfl, z2⟩]
      · rw [if_neg z2, if_neg (fun h => z2 h.2)]
    · have ne : q i ≠ q k := by
        rcases Nat.lt_or_gt_of_ne z with h | h
        · have := hd i k h hk; omega
        · have := hd k i h hi; omega
      refine (list_lst (show (η3.set (q k) _).get (q i) = _ by rw [get_set_ne ne]; exact gi)).trans ?_
      congr 1
      unfold iRow
      exact tab_ext fun c _ => by
        unfold addM
        rw [if_neg (fun h => z h.1)]
  exact mat_tup M (ev_var (i := 4) rfl) (show 5 < 6 by decide) hn fun η4 M4 => hkv η4 M4.gr
end
end DL

/-! grids by adding steps: the plain law -/
namespace DL
open PySem PySem.Spec L2
abbrev Stp := Nat × Nat × Int
def negS (p : Int) (s : Stp) : Stp := (s.1, s.2.1, Int.neg s.2.2 % p)
def prodL (n : Nat) (p : Int) (l : List Stp) : Mt := l.foldl (fun acc s => mulM n p acc (addM s.1 s.2.1 s.2.2)) idM
theorem prodL_app {n : Nat} {p : Int} {l : List Stp} {s : Stp} : prodL n p (l ++ [s]) = mulM n p (prodL n p l) (addM s.1 s.2.1 s.2.2) := by
  unfold prodL; rw [List.foldl_append]; rfl
section
variable {n : Nat} {det : Mt → Int} {p : Int} {e : Nat} {m m0 A : Mt}
theorem neg_add0 {t : Int} : (t + Int.neg t % p) % p = 0 := by
  rw [Int.add_emod, Int.emod_emod, ← Int.add_emod]
  show (t + -t) % p = 0
  rw [Int.add_right_neg, Int.zero_emod]
theorem sum_add {i k j a : Nat} {u : Int} (hk : k < n) (ha : a < n) (hkj : k ≠ j) : sumTo n (fun b => A i b * addM k j u b a) = A i a + if a = j then A i k * u else 0 := by
  rw [show sumTo n (fun b => A i b * addM k j u b a) = sumTo n (fun b => (if b = a then A i b else 0) + (if b = k then (if a = j then A i b * u else 0) else 0)) from sumTo_ext fun b hb => by
    unfold addM idM
    by_cases z1 : b = k
    · by_cases z2 : a = j
      · rw [if_pos ⟨z1, z2⟩, if_neg (by omega), if_pos z1, if_pos z2, Int.zero_add]
      · rw [if_neg (fun h => z2 h.2), if_pos z1, if_neg z2, Int.add_zero]
        by_cases z3 : b = a
        · rw [if_pos z3, if_pos z3, Int.mul_one]
        · rw [if_neg z3, if_neg z3, Int.mul_zero]
    · rw [if_neg (fun h => z1 h.1), if_neg z1, Int.add_zero]
      by_cases z3 : b = a
      · rw [if_pos z3, if_pos z3, Int.mul_one]
      · rw [if_neg z3, if_neg z3, Int.mul_zero]]
  rw [sumTo_add, sumTo_single ha, sumTo_single hk]
theorem prod_step {k j : Nat} {t : Int} (hk : k < n) (hj : j < n) (hkj : k ≠ j) (i c : Nat) :
    sumTo n (fun a => mulM n p A (addM k j (Int.neg t % p)) i a * stepM p m k j t a c) % p = sumTo n (fun a => A i a * m a c) % p := by
  generalize hu : Int.neg t % p = u
  have h0 : (t + u) % p = 0 := by rw [← hu]; exact neg_add0
  rw [show sumTo n (fun a => mulM n p A (addM k j u) i a * stepM p m k j t a c) % p = sumTo n (fun a => A i a * m a c + ((if a = k then A i a * (t * m j c) else 0) + (if a = j then A i k * u * m a c else 0))) % p from sumTo_ext_emod fun a ha => by
    have e1 : mulM n p A (addM k j u) i a % p = (A i a + if a = j then A i k * u else 0) % p := by
      unfold mulM; rw [Int.emod_emod, sum_add hk ha hkj]
    have e2 : stepM p m k j t a c % p = (m a c + if a = k then t * m j c else 0) % p := by
      unfold stepM
      by_cases z : a = k
      · rw [if_pos z, if_pos z, Int.emod_emod, z]
      · rw [if_neg z, if_neg z, Int.add_zero]
    rw [em_mul e1 e2]
    congr 1
    by_cases z1 : a = k
    · rw [if_pos z1, if_pos z1, if_neg (by omega), if_neg (by omega)]; grind
    · rw [if_neg z1, if_neg z1]
      by_cases z2 : a = j
      · rw [if_pos z2, if_pos z2]; grind
      · rw [if_neg z2, if_neg z2]; grind]
  rw [sumTo_add, sumTo_add, sumTo_single hk, sumTo_single hj]
  rw [show sumTo n (fun a => A i a * m a c) + (A i k * (t * m j c) + A i k * u * m j c) = sumTo n (fun a => A i a * m a c) + (t + u) * (A i k * m j c) by grind]
  have : ((t + u) * (A i k * m j c)) % p = 0 := by rw [Int.mul_emod, h0, Int.zero_mul, Int.zero_emod]
  rw [Int.add_emod, this, Int.add_zero, Int.emod_emod]
structure AdI (n : Nat) (det : Mt → Int) (p : Int) (m0 : Mt) (j : Nat) (m : Mt) (l : List Stp) : Prop where
  rg : ∀ i c, i < n → c < n → 0 ≤ m i c ∧ m i c < p
  dt : det m0 % p = det m % p
  cl : ∀ i c, c < j → i < n → i ≠ c → m i c = 0
  dg : ∀ c, c < j → m c c ≠ 0
  st : ∀ s, s ∈ l → s.1 < n ∧ s.2.1 < n ∧ s.1 ≠ s.2.1 ∧ 0 < s.2.2 ∧ s.2.2 < p
  pr : ∀ i c, i < n → c < n → sumTo n (fun t => prodL n p (l.map (negS p)) i t * m t c) % p = m0 i c
theorem AdI.start (P : PrOk p e) (h : ∀ i c, i < n → c < n → 0 ≤ m0 i c ∧ m0 i c < p) : AdI n det p m0 0 m0 [] :=
  ⟨h, rfl, fun _ _ hc => absurd hc (by omega), fun _ hc => absurd hc (by omega), fun _ hs => absurd hs (by simp), fun i c hi hc => by
    rw [show sumTo n (fun t => prodL n p (([] : List Stp).map (negS p)) i t * m0 t c) = sumTo n (fun t => if t = i then m0 t c else 0) from sumTo_ext fun t ht => by
      show idM i t * m0 t c = _
      unfold idM
      by_cases z : t = i
      · rw [if_pos z, if_pos z.symm, Int.one_mul]
      · rw [if_neg z, if_neg (fun h => z h.symm), Int.zero_mul], sumTo_single hi]
    exact emod_of_lt (h i c hi hc).1 (h i c hi hc).2⟩
theorem AdI.step (Dt : DetOk n det) (P : PrOk p e) {j k d : Nat} {l : List Stp} {t : Int} (C : AdI n det p m0 j m l) (hj : j < n) (hk : k < n) (hd : d < n) (jd : j ≤ d) (hkd : k ≠ d) (t0 : 0 < t) (t1 : t < p) : AdI n det p m0 j (stepM p m k d t) (l ++ [(k, d, t)]) := by
  have low : ∀ i c, i < n → c < j → stepM p m k d t i c = m i c := fun i c hi hc => by
    unfold stepM
    by_cases z : i = k
    · rw [if_pos z, C.cl d c hc hd (by omega), Int.mul_zero, Int.add_zero, z]
      have := C.rg k c hk (by omega)
      exact emod_of_lt this.1 this.2
    · rw [if_neg z]
  refine ⟨fun i c hi hc => ?_, ?_, fun i c hc hi hne => ?_, fun c hc => ?_, fun s hs => ?_, fun i c hi hc => ?_⟩
  · unfold stepM
    split
    · exact P.rg _
    · exact C.rg i c hi hc
  · rw [C.dt, ← Dt.add (m := m) (k := k) (d := d) (t := t) hk hd hkd]
    refine Dt.cong fun i c _ _ => ?_
    unfold adR stepM
    by_cases z : i = k
    · rw [if_pos z, if_pos z, Int.emod_emod]
    · rw [if_neg z, if_neg z]
  · rw [low i c hi hc]; exact C.cl i c hc hi hne
  · rw [low c c (by omega) hc]; exact C.dg c hc
  · rcases List.mem_append.mp hs with h | h
    · exact C.st s h
    · rw [List.mem_singleton] at h
      rw [h]
      exact ⟨hk, hd, hkd, t0, t1⟩
  · rw [List.map_append, List.map_singleton, prodL_app]
    show sumTo n (fun a => mulM n p (prodL n p (l.map (negS p))) (addM k d (Int.neg t % p)) i a * stepM p m k d t a c) % p = _
    rw [prod_step hk hd hkd]
    exact C.pr i c hi hc
theorem AdI.next {j : Nat} {l : List Stp} (C : AdI n det p m0 j m l) (h1 : m j j ≠ 0) (h2 : ∀ i, i < n → i ≠ j → m i j = 0) : AdI n det p m0 (j + 1) m l :=
  ⟨C.rg, C.dt, fun i c hc hi hne => by
    by_cases z : c = j
    · rw [z]; exact h2 i hi (by omega)
    · exact C.cl i c (by omega) hi hne, fun c hc => by
    by_cases z : c = j
    · rw [z]; exact h1
    · exact C.dg c (by omega), C.st, C.pr⟩
theorem AdI.raise (Dt : DetOk n det) {j : Nat} {l : List Stp} (C : AdI n det p m0 j m l) (hj : j < n) (h : ∀ i, j ≤ i → i < n → m i j = 0) : det m0 % p = 0 := by
  rw [C.dt, Dt.col hj (fun i c hi hc hne => C.cl i c hc hi hne) h, Int.zero_emod]
def diagM (f : Nat → Int) : Mt := fun i c => if i = c then f i else 0
theorem AdI.prod {l : List Stp} (C : AdI n det p m0 n m l) : ∀ i c, i < n → c < n → mulM n p (prodL n p (l.map (negS p))) (diagM fun i => m i i) i c = m0 i c := fun i c hi hc => by
  unfold mulM
  rw [← C.pr i c hi hc]
  congr 1
  refine sumTo_ext fun t ht => ?_
  unfold diagM
  by_cases z : t = c
  · rw [if_pos z, z]
  · rw [if_neg z, C.cl t c hc ht z]
theorem AdI.fin (Dt : DetOk n det) (P : PrOk p e) {l : List Stp} (C : AdI n det p m0 n m l) : det m0 % p = prodTo n (fun i => m i i) % p ∧ det m0 % p ≠ 0 := by
  have e1 : det m0 % p = prodTo n (fun i => m i i) % p := by rw [C.dt, Dt.diag (fun i c hi hc hne => C.cl i c hc hi hne)]
  refine ⟨e1, ?_⟩
  rw [e1]
  have : ∀ t, t ≤ n → prodTo t (fun i => m i i) % p ≠ 0 := by
    intro t
    induction t with
    | zero => intro _; have := P.p2; rw [prodTo, emod_of_lt (by omega) (by omega)]; decide
    | succ t ih =>
      intro ht
      have r := C.rg t t (by omega) (by omega)
      refine P.mul0 (ih (by omega)) ?_
      rw [emod_of_lt r.1 r.2]
      exact C.dg t (by omega)
  exact this n (Nat.le_refl _)
theorem elim_zero (P : PrOk p e) {x y : Int} (x0 : 0 < x) (x1 : x < p) (y0 : 0 < y) (y1 : y < p) : (y + (Int.neg y * pw x p e % p) * x) % p = 0 ∧ 0 < Int.neg y * pw x p e % p ∧ Int.neg y * pw x p e % p < p := by
  have key : (y + (Int.neg y * pw x p e % p) * x) % p = 0 := by
    have h := P.inv x x0 x1
    have h1 : ((Int.neg y * pw x p e % p) * x) % p = (Int.neg y * 1) % p := by
      rw [em_mul (Int.emod_emod _ _) rfl, show Int.neg y * pw x p e * x = Int.neg y * (x * pw x p e) by grind]
      exact em_mul rfl (by rw [h]; have := P.p2; exact (emod_of_lt (by omega) (by omega)).symm)
    rw [em_add rfl h1, Int.mul_one]
    show (y + -y) % p = 0
    rw [Int.add_right_neg, Int.zero_emod]
  have r := P.rg (Int.neg y * pw x p e)
  refine ⟨key, ?_, r.2⟩
  rcases Int.lt_or_eq_of_le r.1 with h | h
  · exact h
  · rw [← h, Int.zero_mul, Int.add_zero, emod_of_lt (by omega) y1] at key
    omega
end
end DL

/-! grids by adding steps: the walk, with the list of steps at its side -/
namespace DL
open PySem PySem.Spec L2
/-- a list of rows, and lists of something else -/
structure MatT (n R : Nat) (Ts : List (Nat × List D)) (m : Mt) (η0 η : Hd) : Prop where
  qs : ∃ q : Nat → Nat, η.get R = some (.lst (tab n (fun i => .ref (q i)))) ∧ ∀ i, i < n → η.list (q i) = some (iRow n (m i)) ∧ q i < η.nx ∧ q i ≠ R ∧ η0.nx ≤ q i ∧ ∀ x, x ∈ Ts → q i ≠ x.1
  R0 : η0.nx ≤ R
  R1 : R < η.nx
  gr : Gr [] η0 η
  kp : ∀ x, x ∈ Ts → η.get x.1 = some (.lst x.2) ∧ η0.nx ≤ x.1 ∧ x.1 < η.nx ∧ x.1 ≠ R
section
variable {S : List Nat} {σ : SD} {n R : Nat} {Ts : List (Nat × List D)} {m m0 : Mt} {η η0 η' : Hd} {p : Int} {e : Nat} {A B C : CE} {det : Mt → Int}
theorem MatT.mat (M : MatT n R Ts m η0 η) : Mat n R m η0 η := by
  obtain ⟨q, h1, h2⟩ := M.qs
  exact ⟨⟨q, h1, fun i hi => by obtain ⟨a, b, c, d, e⟩ := h2 i hi; exact ⟨a, b, c, d⟩⟩, M.R0, M.R1, M.gr⟩
theorem MatT.sub {Us : List (Nat × List D)} (M : MatT n R Ts m η0 η) (h : ∀ x, x ∈ Us → x ∈ Ts) : MatT n R Us m η0 η := by
  obtain ⟨q, h1, h2⟩ := M.qs
  exact ⟨⟨q, h1, fun i hi => by obtain ⟨a, b, c, d, e⟩ := h2 i hi; exact ⟨a, b, c, d, fun x hx => e x (h x hx)⟩⟩, M.R0, M.R1, M.gr, fun x hx => M.kp x (h x hx)⟩
theorem Mat.toT (M : Mat n R m η0 η) : MatT n R [] m η0 η := by
  obtain ⟨q, h1, h2⟩ := M.qs
  exact ⟨⟨q, h1, fun i hi => by obtain ⟨a, b, c, d⟩ := h2 i hi; exact ⟨a, b, c, d, fun x hx => absurd hx (by simp)⟩⟩, M.R0, M.R1, M.gr, fun x hx => absurd hx (by simp)⟩
theorem MatT.mono (M : MatT n R Ts m η0 η) (x : Gr [] η η') : MatT n R Ts m η0 η' := by
  obtain ⟨q, h1, h2⟩ := M.qs
  exact ⟨⟨q, by rw [x.keep M.R1 (by simp)]; exact h1, fun i hi => by
    obtain ⟨a, b, c, d⟩ := h2 i hi
    exact ⟨x.list b a, Nat.lt_of_lt_of_le b x.1, c, d⟩⟩, M.R0, Nat.lt_of_lt_of_le M.R1 x.1, M.gr.trans x, fun y hy => by
    obtain ⟨a, b, c, d⟩ := M.kp y hy
    exact ⟨by rw [x.keep c (by simp)]; exact a, b, Nat.lt_of_lt_of_le c x.1, d⟩⟩
theorem MatT.more (M : MatT n R Ts m η0 η) (x : Gr [] η η') {r : Nat} {L : List D} (g : η'.get r = some (.lst L)) (h1 : η.nx ≤ r) (h2 : r < η'.nx) : MatT n R ((r, L) :: Ts) m η0 η' := by
  have M1 := M.mono x
  obtain ⟨q, a1, a2⟩ := M.qs
  refine ⟨⟨q, by rw [x.keep M.R1 (by simp)]; exact a1, fun i hi => ?_⟩, M1.R0, M1.R1, M1.gr, fun y hy => ?_⟩
  · obtain ⟨a, b, c, d, f⟩ := a2 i hi
    refine ⟨x.list b a, Nat.lt_of_lt_of_le b x.1, c, d, fun y hy => ?_⟩
    rcases List.mem_cons.mp hy with z | z
    · rw [z]; show q i ≠ r; omega
    · exact f y z
  · rcases List.mem_cons.mp hy with z | z
    · rw [z]; exact ⟨g, by have := M.gr.1; show η0.nx ≤ r; omega, h2, by have := M.R1; show r ≠ R; omega⟩
    · exact M1.kp y z
theorem MatT.ext {m' : Mt} (M : MatT n R Ts m η0 η) (h : ∀ i c, i < n → c < n → m i c = m' i c) : MatT n R Ts m' η0 η := by
  obtain ⟨q, h1, h2⟩ := M.qs
  refine ⟨⟨q, h1, fun i hi => ?_⟩, M.R0, M.R1, M.gr, M.kp⟩
  obtain ⟨a, b⟩ := h2 i hi
  refine ⟨?_, b⟩
  rw [a]
  congr 1
  exact tab_ext fun c hc => by rw [h i c hi hc]
theorem MatT.frz (M : MatT n R Ts m η0 η) {q : Nat} (hq : q ≠ R) (h0 : η0.nx ≤ q) (hT : ∀ x, x ∈ Ts → q ≠ x.1) : MatT n R Ts m η0 (frzd η (.ref q)) := by
  have key : ∀ p l, η.list p = some l → (frzd η (.ref q)).list p = some l := fun p l h => by
    simp only [frzd]
    split
    · rename_i l' e
      show (η.set q (.frz l')).list p = some l
      by_cases z : p = q
      · subst z
        rw [list_lst e] at h
        cases h
        exact list_frz (get_set_eq e)
      · unfold Hd.list; rw [get_set_ne z]; exact h
    · exact h
  have keep : ∀ r, r ≠ q → (frzd η (.ref q)).get r = η.get r := fun r hr => by
    rcases frzd_ref η q with e | ⟨l, e⟩
    · rw [e]
    · rw [e, get_set_ne hr]
  obtain ⟨qs, h1, h2⟩ := M.qs
  refine ⟨⟨qs, by rw [keep _ (Ne.symm hq)]; exact h1, fun i hi => ?_⟩, M.R0, by rw [frzd_nx]; exact M.R1, M.gr.frzN h0, fun x hx => ?_⟩
  · obtain ⟨a, b, c, d⟩ := h2 i hi
    exact ⟨key _ _ a, by rw [frzd_nx]; exact b, c, d⟩
  · obtain ⟨a, b, c, d⟩ := M.kp x hx
    exact ⟨by rw [keep _ (Ne.symm (hT x hx))]; exact a, b, by rw [frzd_nx]; exact c, d⟩
theorem MatT.row (M : MatT n R Ts m η0 η) {k : Nat} (hk : k < n) (a : Ev A σ η (.ref R)) (b : Ev B σ η (.int (Int.ofNat k))) : ∃ q, Ev (cOp fIx A B) σ η (.ref q) ∧ η.list q = some (iRow n (m k)) ∧ q < η.nx ∧ q ≠ R ∧ η0.nx ≤ q ∧ ∀ x, x ∈ Ts → q ≠ x.1 := by
  obtain ⟨q, h1, h2⟩ := M.qs
  exact ⟨q k, ev_ixL a (list_lst h1) b (tab_get hk), h2 k hk⟩
theorem MatT.set (M : MatT n R Ts m η0 η) {k c : Nat} {f : Nat → Int} (hk : k < n) (hc : η.list c = some (iRow n f)) (c1 : c < η.nx) (c2 : c ≠ R) (c3 : η0.nx ≤ c) (c4 : ∀ x, x ∈ Ts → c ≠ x.1) : ∃ l, fSet (.ref R) (.int (Int.ofNat k)) (.ref c) η = some (η.set R (.lst l)) ∧ MatT n R Ts (fun i => if i = k then f else m i) η0 (η.set R (.lst l)) := by
  obtain ⟨q, h1, h2⟩ := M.qs
  refine ⟨_, fSet_at h1 tab_len hk, ⟨fun i => if i = k then c else q i, ?_, fun i hi => ?_⟩, M.R0, M.R1, M.gr.setN M.R0, fun x hx => ?_⟩
  · rw [get_set_eq h1, tab_set]
    congr 2
    exact tab_ext fun i _ => by
      by_cases e : i = k
      · dsimp only; rw [if_pos e, if_pos e]
      · dsimp only; rw [if_neg e, if_neg e]
  · obtain ⟨a, b, d, e⟩ := h2 i hi
    have gl : ∀ p, p ≠ R → (η.set R (.lst ((tab n (fun i => .ref (q i))).set k (.ref c)))).list p = η.list p := fun p hp => by unfold Hd.list; rw [get_set_ne hp]
    by_cases z : i = k
    · dsimp only; rw [if_pos z, if_pos z, gl c c2]
      exact ⟨hc, c1, c2, c3, c4⟩
    · dsimp only; rw [if_neg z, if_neg z, gl _ d]
      exact ⟨a, b, d, e⟩
  · obtain ⟨a, b, d, e⟩ := M.kp x hx
    exact ⟨by rw [get_set_ne e]; exact a, b, d, e⟩
theorem MatT.app {T : Nat} {L : List D} (M : MatT n R [(T, L)] m η0 η) {d : D} : MatT n R [(T, L ++ [d])] m η0 (η.set T (.lst (L ++ [d]))) := by
  obtain ⟨q, h1, h2⟩ := M.qs
  obtain ⟨k1, k2, k3, k4⟩ := M.kp (T, L) (by simp)
  refine ⟨⟨q, by rw [get_set_ne (Ne.symm k4)]; exact h1, fun i hi => ?_⟩, M.R0, M.R1, M.gr.setN k2, fun x hx => ?_⟩
  · obtain ⟨a, b, c, d, e⟩ := h2 i hi
    exact ⟨by unfold Hd.list; rw [get_set_ne (e (T, L) (by simp))]; exact a, b, c, d, fun x hx => by
      rw [List.mem_singleton.mp hx]; exact e (T, L) (by simp)⟩
  · rw [List.mem_singleton.mp hx]
    exact ⟨get_set_eq k1, k2, k3, k4⟩
theorem row_newT (M : MatT n R Ts m η0 η) {k d : Nat} (hk : k < n) (hd : d < n) (hn : n ≤ 1000) {f : Nat → Int} {σ : SD} {A B C X Y : CE} {E : CE} {g : CG} {vs : List Nat} (a : Ev A σ η (.ref R)) (b : Ev B σ η (.int (Int.ofNat k))) (c : Ev C σ η (.int (Int.ofNat d))) {K : KS}
    (hE : ∀ (η1 : Hd) (i : Nat), i < n → ∃ σ1, (∀ K kx, g (.tup [iD (m k i), iD (m d i)]) (wipeD σ vs) η1 K kx = K σ1 η1) ∧ Ev E σ1 η1 (iD (f i)))
    (x : ∀ η1, Ev X σ η1 (.ref R)) (y : ∀ η1, Ev Y σ η1 (.int (Int.ofNat k)))
    (hk1 : ∀ η1, MatT n R Ts (fun i => if i = k then f else m i) η0 η1 → K.nx σ η1 = true) :
    sAsg (cLc (ciZip2 (cCons (cOp fIx A B) (cCons (cOp fIx A C) cNil))) g ctYes E vs) (gSb X Y) σ η K = true := by
  obtain ⟨q1, e1, l1, b1, n1, z1, t1⟩ := M.row hk a b
  obtain ⟨q2, e2, l2, b2, n2, z2, t2⟩ := M.row hd a c
  have M1 := M.frz n1 z1 t1
  have M2 := M1.frz n2 z2 t2
  have key : rowAt (frzd η (.ref q1)) (.ref q2) = some (iRow n (m d)) := by
    have x1 : Gr [q1] η (frzd η (.ref q1)) := Gr.frzd fun r l e _ => by cases e; simp
    exact x1.list b2 l2
  have Z := it_zip (σ := σ) (η := η) (v := .ref q1) (u := .ref q2) e1 e2 (l := iRow n (m k)) (m := iRow n (m d)) l1 key
  unfold iRow at Z
  rw [zipD2_tab] at Z
  rw [w_sub]
  rw [lc_ev (f := fun i => iD (f i)) Z (by omega) (fun i hi => hE _ i hi)]
  rw [x, y]
  generalize hη2 : frzd (frzd η (.ref q1)) (.ref q2) = η2 at M2
  have M3 : MatT n R Ts m η0 ((Hd.bump η2).add η2.nx (.lst (tab n (fun i => iD (f i))))) := M2.mono (Gr.bump.add (Nat.le_refl _))
  have lc : ((Hd.bump η2).add η2.nx (.lst (tab n (fun i => iD (f i))))).list η2.nx = some (iRow n f) := list_lst (by rw [Hd.get_add, if_pos rfl]; rfl)
  obtain ⟨l, g1, g2⟩ := M3.set hk lc (Nat.lt_succ_self _) (by have := M2.R1; omega) (by have := M2.gr.1; omega) (fun x hx => by have := (M2.kp x hx).2.2.1; omega)
  rw [g1]
  exact hk1 _ g2
theorem step_okT (M : MatT n R Ts m η0 η) {k j : Nat} (hk : k < n) (hj : j < n) (hn : n ≤ 1000) {t : Int} (ht : t.natAbs ≤ 1000) (hp : 0 < p) {kv : KV} {kx : KX} (hkv : ∀ η', MatT n R Ts (stepM p m k j t) η0 η' → kv .non η' = true) : Fst' [.ref R, .int (Int.ofNat k), .int (Int.ofNat j), .int t, .int p] η kv kx = true := by
  unfold Fst'
  rw [w_def5]
  unfold bStep
  rw [show startD 5 7 [.ref R, .int (Int.ofNat k), .int (Int.ofNat j), .int t, .int p] = [some (.ref R), some (iD (Int.ofNat k)), some (iD (Int.ofNat j)), some (iD t), some (iD p), none, none] from rfl]
  refine row_newT M hk hj hn (f := fun c => (m k c + t * m j c) % p) (ev_var rfl) (ev_var rfl) (ev_var rfl) (fun η1 i hi => ⟨[some (.ref R), some (iD (Int.ofNat k)), some (iD (Int.ofNat j)), some (iD t), some (iD p), some (iD (m k i)), some (iD (m j i))], fun K kx => rfl, ev_mod (ev_add (ev_var rfl) (ev_mulL (ev_var rfl) (ev_var rfl) (by omega))) (ev_var rfl) hp⟩) (fun _ => ev_var rfl) (fun _ => ev_var rfl) fun η1 M1 => hkv η1 (M1.ext fun i c _ _ => ?_)
  unfold stepM
  by_cases z : i = k
  · rw [if_pos z, if_pos z]
  · rw [if_neg z, if_neg z]
/-- a step put down -/
def stD (s : Stp) : D := .tup [iD (Int.ofNat s.1), iD (Int.ofNat s.2.1), iD s.2.2]
theorem app_step {T : Nat} {L : List D} (M : MatT n R [(T, L)] m η0 η) (hL : L.length < 10000) {i : Nat} (hi : σ[i]? = some (some (.ref T))) {k d : Nat} {t : Int} (a : Ev A σ η (iD (Int.ofNat k))) (b : Ev B σ η (iD (Int.ofNat d))) (c : Ev C σ η (iD t)) {K : KS}
    (hk : ∀ η', MatT n R [(T, L ++ [stD (k, d, t)])] m η0 η' → K.nx σ η' = true) : sExpr (cMt fAppend (cVar i) (cCons (cTup (cCons A (cCons B (cCons C cNil)))) cNil)) σ η K = true := by
  unfold sExpr cMt
  rw [w_var hi]
  have il : isL η (.ref T) = true := by simp only [isL, list_lst (M.kp (T, L) (by simp)).1]; rfl
  rw [il]
  dsimp only
  have E : Ev (cTup (cCons A (cCons B (cCons C cNil)))) σ η (stD (k, d, t)) := fun kv kx => by rw [w_tup3, a, b, c]; rfl
  rw [eva1 E]
  have ap : fAppend (.ref T) [stD (k, d, t)] η = some (.non, η.set T (.lst (L ++ [stD (k, d, t)]))) := by
    have : Nat.blt L.length line = true := Nat.ble_eq_true_of_le (by unfold line; omega)
    simp only [fAppend, (M.kp (T, L) (by simp)).1, this]
  rw [ap]
  dsimp only
  exact hk _ M.app
theorem w_call5 {F : CF} {A B C E G : CE} {kv : KV} {kx : KX} : cCall F (cCons A (cCons B (cCons C (cCons E (cCons G cNil))))) σ η kv kx = A σ η (fun x η1 => B σ η1 (fun y η2 => C σ η2 (fun z η3 => E σ η3 (fun u η4 => G σ η4 (fun v η5 => F [x, y, z, u, v] η5 kv kx) kx) kx) kx) kx) kx := rfl
theorem w_expr {A : CE} {K : KS} : sExpr A σ η K = A σ η (fun _ η1 => K.nx σ η1) K.xc := rfl
end
end DL

/-! grids by adding steps: by_adding (printed by k30j.py) -/
namespace DL
open PySem PySem.Spec L2
def bAdE (Ft Fst : CF) : CS := (sIf (ctAnd (cTst (cOp fNe (cVar 6) (cVar 5))) (cTst (cOp fNe (cOp fIx (cOp fIx (cVar 2) (cVar 6)) (cVar 5)) (cC (.int 0))))) (sSeq (sAsg (cOp fMod (cOp fMul (cNeg (cOp fIx (cOp fIx (cVar 2) (cVar 6)) (cVar 5))) (cCall Ft (cCons (cOp fIx (cOp fIx (cVar 2) (cVar 5)) (cVar 5)) (cCons (cVar 1) cNil)))) (cVar 1)) (gNm 8)) (sSeq (sExpr (cCall Fst (cCons (cVar 2) (cCons (cVar 6) (cCons (cVar 5) (cCons (cVar 8) (cCons (cVar 1) cNil))))))) (sExpr (cMt fAppend (cVar 4) (cCons (cTup (cCons (cVar 6) (cCons (cVar 5) (cCons (cVar 8) cNil)))) cNil))))) sNil)
def bAdC (Ft Fst : CF) : CS := (sSeq (sIf (cTst (cOp fEq (cOp fIx (cOp fIx (cVar 2) (cVar 5)) (cVar 5)) (cC (.int 0)))) (sSeq (sAsg (cLc (ciR2 (cCons (cOp fAdd (cVar 5) (cC (.int 1))) (cCons (cVar 3) cNil))) (gNm 6) (cTst (cOp fNe (cOp fIx (cOp fIx (cVar 2) (cVar 6)) (cVar 5)) (cC (.int 0)))) (cVar 6) [6]) (gNm 7)) (sSeq (sIf (cTst (cOp fEq (cVar 7) (cLst cNil))) (sRaise 3) sNil) (sSeq (sExpr (cCall Fst (cCons (cVar 2) (cCons (cVar 5) (cCons (cOp fIx (cVar 7) (cC (.int 0))) (cCons (cC (.int 1)) (cCons (cVar 1) cNil))))))) (sExpr (cMt fAppend (cVar 4) (cCons (cTup (cCons (cVar 5) (cCons (cOp fIx (cVar 7) (cC (.int 0))) (cCons (cC (.int 1)) cNil)))) cNil)))))) sNil) (sFor (ciR1 (cCons (cVar 3) cNil)) (gNm 6) (bAdE Ft Fst)))
def bAdZ : CS := (sSeq (sAsg (cLc (ciSeq (cVar 4)) (gTp 3 (gsCons (gNm 6) (gsCons (gNm 5) (gsCons (gNm 8) gsNil)))) ctYes (cTup (cCons (cVar 6) (cCons (cVar 5) (cCons (cOp fMod (cNeg (cVar 8)) (cVar 1)) cNil)))) [6, 5, 8]) (gNm 9)) (sRet (cTup (cCons (cFn (f1 gTuple) (cCons (cVar 9) cNil)) (cCons (cFn (f1 gTuple) (cCons (cLc (ciR1 (cCons (cVar 3) cNil)) (gNm 6) ctYes (cOp fIx (cOp fIx (cVar 2) (cVar 6)) (cVar 6)) [6]) cNil)) cNil)))))
def bAd (Ft Fst : CF) : CS := (sSeq (sAsg (cLc (ciSeq (cVar 0)) (gNm 10) ctYes (cFn (f1 gList) (cCons (cVar 10) cNil)) [10]) (gNm 2)) (sSeq (sPar 3 4 (cCons (cFn (f1 gLenA) (cCons (cVar 2) cNil)) (cCons (cLst cNil) cNil))) (sSeq (sFor (ciR1 (cCons (cVar 3) cNil)) (gNm 5) (bAdC Ft Fst)) bAdZ)))
abbrev Fby' : CF := cDef 2 11 (bAd (cDef 2 4 bTurned) Fst')
section
variable {S : List Nat} {σ : SD} {n R T : Nat} {m m0 : Mt} {η η0 η' : Hd} {p : Int} {e : Nat} {A B C : CE} {det : Mt → Int} {x0 y6 y7 y8 y9 y10 : Option D}
theorem yl_call2 {F : CF} {x y d : D} (a : Yl S A σ η x) (b : ∀ η1, Gr S η η1 → Yl S B σ η1 y) (h : ∀ η1, Gr S η η1 → Fl S F [x, y] η1 d) : Yl S (cCall F (cCons A (cCons B cNil))) σ η d := fun kv kx hk => by
  rw [w_call2]
  exact a _ _ fun η1 x1 => b η1 x1 _ _ fun η2 x2 => h η2 (x1.trans x2) _ _ fun η3 x3 => hk η3 ((x1.trans x2).trans x3)
theorem ad_step (Dt : DetOk n det) (P : PrOk p e) {j o : Nat} {l : List Stp} (hj : j < n) (ho : o < n) (hn : n ≤ 10) (C : AdI n det p m0 j m l) (h0 : m j j ≠ 0) (hz : ∀ i, i < o → i ≠ j → m i j = 0) (hb : l.length < 10000) (M : MatT n R [(T, l.map stD)] m η0 η) {K : KS}
    (hk : ∀ m l' y8 η', AdI n det p m0 j m l' → m j j ≠ 0 → (∀ i, i < o + 1 → i ≠ j → m i j = 0) → l'.length ≤ l.length + 1 → MatT n R [(T, l'.map stD)] m η0 η' → K.nx [x0, some (iD p), some (.ref R), some (iD (Int.ofNat n)), some (.ref T), some (iD (Int.ofNat j)), some (iD (Int.ofNat o)), y7, y8, y9, y10] η' = true) :
    bAdE (cDef 2 4 bTurned) Fst' [x0, some (iD p), some (.ref R), some (iD (Int.ofNat n)), some (.ref T), some (iD (Int.ofNat j)), some (iD (Int.ofNat o)), y7, y8, y9, y10] η K = true := by
  have p2 := P.p2
  have p9 := P.p9
  unfold bAdE
  rw [w_if, w_and, w_tst]
  have E1 : Ev (cOp fNe (cVar 6) (cVar 5)) [x0, some (iD p), some (.ref R), some (iD (Int.ofNat n)), some (.ref T), some (iD (Int.ofNat j)), some (iD (Int.ofNat o)), y7, y8, y9, y10] η (.bl (!decide ((Int.ofNat o : Int) = Int.ofNat j))) := ev_neI (ev_var rfl) (ev_var rfl)
  rw [E1]
  by_cases eo : o = j
  · rw [decide_eq_true (by rw [eo])]
    simp only [Bool.not_true, w_nil]
    exact hk m l y8 η C h0 (fun i hi hne => hz i (by omega) hne) (Nat.le_succ _) M
  · rw [decide_eq_false (fun z => eo (Int.ofNat.inj z))]
    simp only [Bool.not_false]
    rw [w_tst]
    have X : ∀ {η1 : Hd}, Mat n R m η0 η1 → Ev (cOp fIx (cOp fIx (cVar 2) (cVar 6)) (cVar 5)) [x0, some (iD p), some (.ref R), some (iD (Int.ofNat n)), some (.ref T), some (iD (Int.ofNat j)), some (iD (Int.ofNat o)), y7, y8, y9, y10] η1 (iD (m o j)) := fun M1 => M1.ix ho hj (ev_var rfl) (ev_var rfl) (ev_var rfl)
    have Y : ∀ {η1 : Hd}, Mat n R m η0 η1 → Ev (cOp fIx (cOp fIx (cVar 2) (cVar 5)) (cVar 5)) [x0, some (iD p), some (.ref R), some (iD (Int.ofNat n)), some (.ref T), some (iD (Int.ofNat j)), some (iD (Int.ofNat o)), y7, y8, y9, y10] η1 (iD (m j j)) := fun M1 => M1.ix hj hj (ev_var rfl) (ev_var rfl) (ev_var rfl)
    have E2 : Ev (cOp fNe (cOp fIx (cOp fIx (cVar 2) (cVar 6)) (cVar 5)) (cC (.int 0))) [x0, some (iD p), some (.ref R), some (iD (Int.ofNat n)), some (.ref T), some (iD (Int.ofNat j)), some (iD (Int.ofNat o)), y7, y8, y9, y10] η (.bl (!decide (m o j = 0))) := ev_neI (X M.mat) ev_c
    rw [E2]
    have r1 := C.rg o j ho hj
    have r2 := C.rg j j hj hj
    by_cases z : m o j = 0
    · rw [decide_eq_true z]
      simp only [Bool.not_true, w_nil]
      refine hk m l y8 η C h0 (fun i hi hne => ?_) (Nat.le_succ _) M
      by_cases z2 : i = o
      · rw [z2]; exact z
      · exact hz i (by omega) hne
    · rw [decide_eq_false z]
      simp only [Bool.not_false]
      obtain ⟨k1, k2, k3⟩ := elim_zero P (x := m j j) (y := m o j) (by omega) r2.2 (by omega) r1.2
      have Z : Yl [] (cOp fMod (cOp fMul (cNeg (cOp fIx (cOp fIx (cVar 2) (cVar 6)) (cVar 5))) (cCall (cDef 2 4 bTurned) (cCons (cOp fIx (cOp fIx (cVar 2) (cVar 5)) (cVar 5)) (cCons (cVar 1) cNil)))) (cVar 1)) [x0, some (iD p), some (.ref R), some (iD (Int.ofNat n)), some (.ref T), some (iD (Int.ofNat j)), some (iD (Int.ofNat o)), y7, y8, y9, y10] η (.int (Int.neg (m o j) * pw (m j j) p e % p)) :=
        yl_mod (yl_mul (yl_ev (ev_neg (X M.mat))) (fun η1 x1 => yl_call2 (yl_ev (Y (M.mat.mono x1))) (fun _ _ => yl_var rfl) fun η2 _ => turned_ok P (by omega) r2.2) (.inl (by show (-(m o j)).natAbs ≤ _; omega))) (fun _ _ => yl_var rfl) (by omega)
      generalize ht : Int.neg (m o j) * pw (m j j) p e % p = t at k1 k2 k3 Z
      rw [w_seq, w_set]
      refine Z _ _ fun η1 x1 => ?_
      have M1 := M.mono x1
      rw [show ([x0, some (iD p), some (.ref R), some (iD (Int.ofNat n)), some (.ref T), some (iD (Int.ofNat j)), some (iD (Int.ofNat o)), y7, y8, y9, y10] : SD).set 8 (some (.int t)) = [x0, some (iD p), some (.ref R), some (iD (Int.ofNat n)), some (.ref T), some (iD (Int.ofNat j)), some (iD (Int.ofNat o)), y7, some (iD t), y9, y10] from rfl]
      dsimp only
      rw [w_seq, w_expr, w_call5, w_var (i := 2) (d := .ref R) rfl, w_var (i := 6) (d := iD (Int.ofNat o)) rfl, w_var (i := 5) (d := iD (Int.ofNat j)) rfl, w_var (i := 8) (d := iD t) rfl, w_var (i := 1) (d := iD p) rfl]
      refine step_okT M1 ho hj (by omega) (by omega) (by omega) fun η2 M2 => ?_
      dsimp only
      refine app_step M2 (by rw [List.length_map]; exact hb) (i := 4) rfl (ev_var rfl) (ev_var rfl) (ev_var rfl) fun η3 M3 => ?_
      have C3 := C.step Dt P hj ho hj (Nat.le_refl _) eo k2 k3
      have M3' : MatT n R [(T, (l ++ [(o, j, t)]).map stD)] (stepM p m o j t) η0 η3 := by
        rw [List.map_append, List.map_singleton]; exact M3
      refine hk _ (l ++ [(o, j, t)]) _ η3 C3 ?_ (fun i hi hne => ?_) (by rw [List.length_append]; exact Nat.le_refl _) M3'
      · unfold stepM; rw [if_neg (fun h => eo h.symm)]; exact h0
      · unfold stepM
        by_cases z2 : i = o
        · rw [if_pos z2]; exact k1
        · rw [if_neg z2]; exact hz i (by omega) hne
theorem ad_loop (Dt : DetOk n det) (P : PrOk p e) {j : Nat} {b : Nat} (hj : j < n) (hn : n ≤ 10) (hb : b ≤ 1000) {K : KS}
    (hk : ∀ m l y6 y8 η', AdI n det p m0 j m l → m j j ≠ 0 → (∀ i, i < n → i ≠ j → m i j = 0) → l.length ≤ b + n → MatT n R [(T, l.map stD)] m η0 η' → K.nx [x0, some (iD p), some (.ref R), some (iD (Int.ofNat n)), some (.ref T), some (iD (Int.ofNat j)), y6, y7, y8, y9, y10] η' = true) : ∀ (r o : Nat) (m : Mt) (l : List Stp) (y6 y8 : Option D) (η : Hd), o + r = n → AdI n det p m0 j m l → m j j ≠ 0 → (∀ i, i < o → i ≠ j → m i j = 0) → l.length ≤ b + o → MatT n R [(T, l.map stD)] m η0 η →
    forD (gNm 6) (bAdE (cDef 2 4 bTurned) Fst') K (tab r (fun q => iD (Int.ofNat (o + q)))) [x0, some (iD p), some (.ref R), some (iD (Int.ofNat n)), some (.ref T), some (iD (Int.ofNat j)), y6, y7, y8, y9, y10] η = true
  | 0, o, m, l, y6, y8, η, h, C, h0, hz, hl, M => by
    rw [show o = n by omega] at hz hl
    exact hk m l y6 y8 η C h0 hz hl M
  | r + 1, o, m, l, y6, y8, η, h, C, h0, hz, hl, M => by
    rw [tab_cons, forD, w_nm]
    rw [show ([x0, some (iD p), some (.ref R), some (iD (Int.ofNat n)), some (.ref T), some (iD (Int.ofNat j)), y6, y7, y8, y9, y10] : SD).set 6 (some (iD (Int.ofNat (o + 0)))) = [x0, some (iD p), some (.ref R), some (iD (Int.ofNat n)), some (.ref T), some (iD (Int.ofNat j)), some (iD (Int.ofNat o)), y7, y8, y9, y10] from rfl]
    refine ad_step Dt P hj (by omega) hn C h0 hz (by omega) M fun m l' y8 η1 C1 h1 hz1 hl1 M1 => ?_
    have := ad_loop Dt P hj hn hb hk r (o + 1) m l' (some (iD (Int.ofNat o))) y8 η1 (by omega) C1 h1 hz1 (by omega) M1
    simp only [show ∀ i, o + 1 + i = o + (i + 1) by intro i; omega] at this
    exact this
theorem ad_col (Dt : DetOk n det) (P : PrOk p e) {j b : Nat} {l : List Stp} (hj : j < n) (hn : n ≤ 10) (hb : b + 1 ≤ 1000) (C : AdI n det p m0 j m l) (hl : l.length ≤ b) (M : MatT n R [(T, l.map stD)] m η0 η) {K : KS}
    (hx : det m0 % p = 0 → ∀ η', Gr [] η0 η' → K.xc ⟨3, none⟩ η' = true)
    (hk : ∀ m l y6 y7 y8 η', AdI n det p m0 (j + 1) m l → l.length ≤ b + 1 + n → MatT n R [(T, l.map stD)] m η0 η' → K.nx [x0, some (iD p), some (.ref R), some (iD (Int.ofNat n)), some (.ref T), some (iD (Int.ofNat j)), y6, y7, y8, y9, y10] η' = true) :
    bAdC (cDef 2 4 bTurned) Fst' [x0, some (iD p), some (.ref R), some (iD (Int.ofNat n)), some (.ref T), some (iD (Int.ofNat j)), y6, y7, y8, y9, y10] η K = true := by
  have p2 := P.p2
  unfold bAdC
  rw [w_seq, w_if, w_tst]
  have X : ∀ {i : Nat} {z : Option D} {η1 : Hd}, i < n → Mat n R m η0 η1 → Ev (cOp fIx (cOp fIx (cVar 2) (cVar 6)) (cVar 5)) [x0, some (iD p), some (.ref R), some (iD (Int.ofNat n)), some (.ref T), some (iD (Int.ofNat j)), some (iD (Int.ofNat i)), z, y8, y9, y10] η1 (iD (m i j)) := fun hi M1 => M1.ix hi hj (ev_var rfl) (ev_var rfl) (ev_var rfl)
  have Y : Ev (cOp fIx (cOp fIx (cVar 2) (cVar 5)) (cVar 5)) [x0, some (iD p), some (.ref R), some (iD (Int.ofNat n)), some (.ref T), some (iD (Int.ofNat j)), y6, y7, y8, y9, y10] η (iD (m j j)) := M.mat.ix hj hj (ev_var rfl) (ev_var rfl) (ev_var rfl)
  have E1 : Ev (cOp fEq (cOp fIx (cOp fIx (cVar 2) (cVar 5)) (cVar 5)) (cC (.int 0))) [x0, some (iD p), some (.ref R), some (iD (Int.ofNat n)), some (.ref T), some (iD (Int.ofNat j)), y6, y7, y8, y9, y10] η (.bl (decide (m j j = 0))) := ev_op Y ev_c fEq_int
  rw [E1]
  have rest : ∀ (m : Mt) (l : List Stp) (y6 y7 : Option D) (η : Hd), AdI n det p m0 j m l → m j j ≠ 0 → l.length ≤ b + 1 → MatT n R [(T, l.map stD)] m η0 η → sFor (ciR1 (cCons (cVar 3) cNil)) (gNm 6) (bAdE (cDef 2 4 bTurned) Fst') [x0, some (iD p), some (.ref R), some (iD (Int.ofNat n)), some (.ref T), some (iD (Int.ofNat j)), y6, y7, y8, y9, y10] η K = true := fun m l y6 y7 η C h0 hl M => by
    unfold sFor
    rw [it_r1 (j := n) (ev_var (i := 3) rfl) (by omega)]
    show forD (gNm 6) _ (KS.thaw _ _) (tab n (fun i => iD (Int.ofNat i))) _ η = true
    rw [thaw_none]
    have := ad_loop Dt P hj hn (b := b + 1) hb (K := K) (y7 := y7) (y9 := y9) (y10 := y10) (x0 := x0) (fun m l y6 y8 η' C1 h1 h2 h3 M1 => hk m l y6 y7 y8 η' (C1.next h1 h2) h3 M1) n 0 m l y6 y8 η (by omega) C h0 (fun i hi => absurd hi (by omega)) hl M
    simp only [Nat.zero_add] at this
    exact this
  by_cases z : m j j = 0
  · rw [decide_eq_true z]
    dsimp only
    rw [w_seq, w_set]
    have E2 : Ev (cOp fAdd (cVar 5) (cC (.int 1))) [x0, some (iD p), some (.ref R), some (iD (Int.ofNat n)), some (.ref T), some (iD (Int.ofNat j)), y6, y7, y8, y9, y10] η (.int (Int.ofNat (j + 1))) := (ev_add (ev_var rfl) ev_c : Ev (cOp fAdd (cVar 5) (cC (.int 1))) [x0, some (iD p), some (.ref R), some (iD (Int.ofNat n)), some (.ref T), some (iD (Int.ofNat j)), y6, y7, y8, y9, y10] η (.int (Int.ofNat j + 1)))
    refine yn_lcF (S := []) (r := n - (j + 1)) (it := fun q => iD (Int.ofNat (j + 1 + q))) (f := fun q => iD (Int.ofNat (j + 1 + q))) (b := fun q => !decide (m (j + 1 + q) j = 0)) (iw_of (it_r2 E2 (ev_var rfl) (by omega) (by omega)) (Gr.refl _ _)) (by omega) (fun q hq η1 x1 => ⟨[x0, some (iD p), some (.ref R), some (iD (Int.ofNat n)), some (.ref T), some (iD (Int.ofNat j)), some (iD (Int.ofNat (j + 1 + q))), y7, y8, y9, y10], fun K kx => rfl, yl_ev (ev_neI (X (by omega) (M.mat.mono x1)) ev_c), fun η2 _ => yl_var rfl⟩) _ _ fun q7 η1 x1 g1 g2 g7 => ?_
    have g7' : η1.get q7 = some (.lst (hitL (j + 1) n (fun k => !decide (m k j = 0)))) := g7
    have M1 := M.more x1 g7' g1 g2
    rw [show ([x0, some (iD p), some (.ref R), some (iD (Int.ofNat n)), some (.ref T), some (iD (Int.ofNat j)), y6, y7, y8, y9, y10] : SD).set 7 (some (.ref q7)) = [x0, some (iD p), some (.ref R), some (iD (Int.ofNat n)), some (.ref T), some (iD (Int.ofNat j)), y6, some (.ref q7), y8, y9, y10] from rfl]
    dsimp only
    rw [w_seq, w_if, w_tst, w_op, w_var (i := 7) (d := .ref q7) rfl, w_lst0]
    have x2 : Gr [] η1 (η1.new (.lst [])) := Gr.new
    have M2 := M1.mono x2
    obtain ⟨hp, hc⟩ := hit_cases (j + 1) n (fun k => !decide (m k j = 0))
    rw [fEq_hit (x2.list g2 (list_lst g7')) (list_lst get_new_eq) hp]
    rcases hc with ⟨e1, e2⟩ | ⟨h, t, e1, h1, h2, h3⟩
    · rw [e1]
      dsimp only [nilB]
      exact hx (C.raise Dt hj fun i a b => by
        by_cases zi : i = j
        · rw [zi]; exact z
        · have := e2 i (by omega) b; simpa using this) _ M2.gr
    · rw [e1] at M2
      rw [e1]
      dsimp only [nilB]
      rw [w_nil]
      dsimp only
      have hm : m h j ≠ 0 := by simpa using h3
      have rr := C.rg h j h2 hj
      generalize hη2 : η1.new (.lst []) = η2 at M2
      have E7 : ∀ {η' : Hd} {m' : Mt}, MatT n R [(q7, iD (Int.ofNat h) :: t), (T, l.map stD)] m' η0 η' → Ev (cOp fIx (cVar 7) (cC (.int 0))) [x0, some (iD p), some (.ref R), some (iD (Int.ofNat n)), some (.ref T), some (iD (Int.ofNat j)), y6, some (.ref q7), y8, y9, y10] η' (iD (Int.ofNat h)) := fun M' => ev_ixL (k := 0) (ev_var rfl) (list_lst (M'.kp (q7, iD (Int.ofNat h) :: t) (.head _)).1) ev_c rfl
      rw [w_seq, w_expr, w_call5, w_var (i := 2) (d := .ref R) rfl, w_var (i := 5) (d := iD (Int.ofNat j)) rfl, E7 M2, w_c, w_var (i := 1) (d := iD p) rfl]
      refine step_okT M2 hj h2 (by omega) (t := 1) (by decide) (by omega) fun η3 M3 => ?_
      dsimp only
      refine app_step (M3.sub (Us := [(T, l.map stD)]) (fun x hx => by rw [List.mem_singleton.mp hx]; exact .tail _ (.head _))) (by rw [List.length_map]; omega) (i := 4) rfl (ev_var rfl) (E7 M3) (t := 1) ev_c fun η4 M4 => ?_
      have C4 := C.step Dt P hj hj h2 (by omega) (by omega : j ≠ h) (t := 1) (by omega) (by omega)
      have M4' : MatT n R [(T, (l ++ [(j, h, (1 : Int))]).map stD)] (stepM p m j h 1) η0 η4 := by
        rw [List.map_append, List.map_singleton]; exact M4
      refine rest _ _ _ _ η4 C4 ?_ (by rw [List.length_append]; show l.length + 1 ≤ _; omega) M4'
      unfold stepM
      rw [if_pos rfl, z, Int.one_mul, Int.zero_add, emod_of_lt rr.1 rr.2]
      exact hm
  · rw [decide_eq_false z]
    dsimp only
    rw [w_nil]
    dsimp only
    exact rest m l y6 y7 η C z (by omega) M
theorem adc_loop (Dt : DetOk n det) (P : PrOk p e) (hn : n ≤ 10) {K : KS} (hx : det m0 % p = 0 → ∀ η', Gr [] η0 η' → K.xc ⟨3, none⟩ η' = true)
    (hk : ∀ m l y5 y6 y7 y8 η', AdI n det p m0 n m l → l.length ≤ 1000 → MatT n R [(T, l.map stD)] m η0 η' → K.nx [x0, some (iD p), some (.ref R), some (iD (Int.ofNat n)), some (.ref T), y5, y6, y7, y8, y9, y10] η' = true) : ∀ (r o : Nat) (m : Mt) (l : List Stp) (y5 y6 y7 y8 : Option D) (η : Hd), o + r = n → AdI n det p m0 o m l → l.length ≤ o * 11 → MatT n R [(T, l.map stD)] m η0 η →
    forD (gNm 5) (bAdC (cDef 2 4 bTurned) Fst') K (tab r (fun q => iD (Int.ofNat (o + q)))) [x0, some (iD p), some (.ref R), some (iD (Int.ofNat n)), some (.ref T), y5, y6, y7, y8, y9, y10] η = true
  | 0, o, m, l, y5, y6, y7, y8, η, h, C, hl, M => by
    rw [show o = n by omega] at C
    exact hk m l y5 y6 y7 y8 η C (by omega) M
  | r + 1, o, m, l, y5, y6, y7, y8, η, h, C, hl, M => by
    rw [tab_cons, forD, w_nm]
    rw [show ([x0, some (iD p), some (.ref R), some (iD (Int.ofNat n)), some (.ref T), y5, y6, y7, y8, y9, y10] : SD).set 5 (some (iD (Int.ofNat (o + 0)))) = [x0, some (iD p), some (.ref R), some (iD (Int.ofNat n)), some (.ref T), some (iD (Int.ofNat o)), y6, y7, y8, y9, y10] from rfl]
    refine ad_col Dt P (by omega) hn (b := o * 11) (by omega) C hl M hx fun m l y6 y7 y8 η1 C1 hl1 M1 => ?_
    have := adc_loop Dt P hn hx hk r (o + 1) m l (some (iD (Int.ofNat o))) y6 y7 y8 η1 (by omega) C1 (by omega) M1
    simp only [show ∀ i, o + 1 + i = o + (i + 1) by intro i; omega] at this
    exact this
end
end DL

/-! grids by adding steps: by_adding, of_adding -/
namespace DL
open PySem PySem.Spec L2
theorem map_tab {α β : Type} (f : α → β) (x : α) : ∀ (L : List α), L.map f = tab L.length (fun i => f (L.getD i x))
  | [] => rfl
  | a :: L => by
    rw [List.length_cons, tab_cons, List.map_cons]
    congr 1
    exact map_tab f x L
section
variable {S : List Nat} {σ : SD} {n R T : Nat} {m m0 : Mt} {η η0 η' : Hd} {p : Int} {e : Nat} {A B C E : CE} {det : Mt → Int} {x0 y5 y6 y7 y8 y9 y10 : Option D}
theorem ev_tup3 {x y z : D} (a : Ev A σ η x) (b : Ev B σ η y) (c : Ev C σ η z) : Ev (cTup (cCons A (cCons B (cCons C cNil)))) σ η (.tup [x, y, z]) := fun kv kx => by rw [w_tup3, a, b, c]
theorem adz_ok (P : PrOk p e) (hn : n ≤ 10) {l : List Stp} (hl : l.length ≤ 1000) (M : MatT n R [(T, l.map stD)] m η0 η) {K : KS}
    (hk : ∀ η', Gr [] η0 η' → K.rt (.tup [.tup ((l.map (negS p)).map stD), .tup (iRow n (fun i => m i i))]) η' = true) :
    bAdZ [x0, some (iD p), some (.ref R), some (iD (Int.ofNat n)), some (.ref T), y5, y6, y7, y8, none, none] η K = true := by
  have p2 := P.p2
  unfold bAdZ
  rw [w_seq, w_set]
  obtain ⟨k1, k2, k3, k4⟩ := M.kp (T, l.map stD) (.head _)
  have hv : Row [T] η (.ref T) (tab l.length (fun i => stD (l.getD i (0, 0, 0)))) := by
    rw [← map_tab]
    exact ⟨list_lst k1, fun q e => by cases e; exact k3, fun q e => by cases e; simp⟩
  refine yn_lcR2 (S := [T]) (ev_var (i := 4) rfl) hv (by omega) (f := fun i => stD (negS p (l.getD i (0, 0, 0)))) (fun i hi η1 x1 => ⟨[x0, some (iD p), some (.ref R), some (iD (Int.ofNat n)), some (.ref T), some (iD (Int.ofNat (l.getD i (0, 0, 0)).2.1)), some (iD (Int.ofNat (l.getD i (0, 0, 0)).1)), y7, some (iD (l.getD i (0, 0, 0)).2.2), none, none], fun K kx => rfl, yl_ev (ev_tup3 (ev_var rfl) (ev_var rfl) (ev_mod (ev_neg (ev_var rfl)) (ev_var rfl) (by omega)))⟩) _ _ fun q η1 x1 g1 g2 g3 => ?_
  have M1 : Mat n R m η0 η1 := M.mat.monoS x1 fun q hq => by rw [List.mem_singleton.mp hq]; exact ⟨k4, k2⟩
  rw [show ([x0, some (iD p), some (.ref R), some (iD (Int.ofNat n)), some (.ref T), y5, y6, y7, y8, none, none] : SD).set 9 (some (.ref q)) = [x0, some (iD p), some (.ref R), some (iD (Int.ofNat n)), some (.ref T), y5, y6, y7, y8, some (.ref q), none] from rfl]
  dsimp only
  rw [w_ret, w_tup2 rfl, w_fn1, w_var (i := 9) (d := .ref q) rfl]
  have ft : f1 gTuple [.ref q] η1 = some (.tup (tab l.length (fun i => stD (negS p (l.getD i (0, 0, 0))))), η1) := by simp only [f1, gTuple, list_lst g3]
  rw [ft]
  dsimp only
  refine yl_tup (S := []) (L := tab n (fun i => iD (m i i))) (yn_lc (it := fun i => iD (Int.ofNat i)) (iw_r1 (yl_var (i := 3) rfl) (by omega)) (by omega) fun i hi η2 x2 => ⟨[x0, some (iD p), some (.ref R), some (iD (Int.ofNat n)), some (.ref T), y5, some (iD (Int.ofNat i)), y7, y8, some (.ref q), none], fun K kx => rfl, yl_ev ((M1.mono x2).ix hi hi (ev_var rfl) (ev_var rfl) (ev_var rfl))⟩) _ _ fun η2 x2 => ?_
  have e1 : tab l.length (fun i => stD (negS p (l.getD i (0, 0, 0)))) = (l.map (negS p)).map stD := by
    rw [List.map_map]
    exact (map_tab (stD ∘ negS p) (0, 0, 0) l).symm
  rw [e1]
  exact hk η2 (M1.gr.trans x2)
theorem by_adding_ok (Dt : DetOk n det) (P : PrOk p e) (hn : n ≤ 10) (rg : ∀ i c, i < n → c < n → 0 ≤ m0 i c ∧ m0 i c < p) {kv : KV} {kx : KX}
    (hk : ∀ m l η', AdI n det p m0 n m l → l.length ≤ 1000 → Gr [] η η' → kv (.tup [.tup ((l.map (negS p)).map stD), .tup (iRow n (fun i => m i i))]) η' = true)
    (hx : det m0 % p = 0 → ∀ η', Gr [] η η' → kx ⟨3, none⟩ η' = true) : Fby' [mkD n m0, .int p] η kv kx = true := by
  unfold Fby'
  rw [w_def2]
  unfold bAd
  rw [w_seq, w_set]
  refine mat_new (yl_var (i := 0) rfl) (show 10 < 11 by decide) (by omega) fun R η1 M1 => ?_
  rw [show (startD 2 11 [mkD n m0, .int p]).set 2 (some (.ref R)) = [some (mkD n m0), some (iD p), some (.ref R), none, none, none, none, none, none, none, none] from rfl]
  dsimp only
  rw [w_seq, w_par, (M1.len (ev_var (i := 2) rfl) : Ev (cFn (f1 gLenA) (cCons (cVar 2) cNil)) [some (mkD n m0), some (iD p), some (.ref R), none, none, none, none, none, none, none, none] η1 (.int (Int.ofNat n))), w_lst0]
  have M2 := M1.toT.more (Gr.new (S := []) (c := .lst [])) get_new_eq (Nat.le_refl _) (Nat.lt_succ_self _)
  rw [show (([some (mkD n m0), some (iD p), some (.ref R), none, none, none, none, none, none, none, none] : SD).set 3 (some (.int (Int.ofNat n)))).set 4 (some (.ref η1.nx)) = [some (mkD n m0), some (iD p), some (.ref R), some (iD (Int.ofNat n)), some (.ref η1.nx), none, none, none, none, none, none] from rfl]
  dsimp only
  rw [w_seq]
  unfold sFor
  rw [it_r1 (j := n) (ev_var (i := 3) rfl) (by omega)]
  show forD (gNm 5) (bAdC (cDef 2 4 bTurned) Fst') (KS.thaw _ _) (tab n (fun i => iD (Int.ofNat i))) [some (mkD n m0), some (iD p), some (.ref R), some (iD (Int.ofNat n)), some (.ref η1.nx), none, none, none, none, none, none] (η1.new (.lst [])) = true
  rw [thaw_none]
  have := adc_loop (η0 := η) (R := R) (T := η1.nx) Dt P hn (m0 := m0) (x0 := some (mkD n m0)) (y9 := none) (y10 := none) (K := ⟨fun σ1 η1 => bAdZ σ1 η1 ⟨fun _ η1 => kv .non η1, kv, fun _ _ => false, fun _ _ => false, kx⟩, kv, fun _ _ => false, fun _ _ => false, kx⟩) hx (fun m l y5 y6 y7 y8 η2 C2 l2 M2 => adz_ok P hn l2 M2 fun η3 x3 => hk m l η3 C2 l2 x3) n 0 m0 [] none none none none _ (by omega) (AdI.start P rg) (Nat.zero_le _) M2
  simp only [Nat.zero_add] at this
  exact this
def bOfL (Fti Fad : CF) : CS := (sAsg (cCall Fti (cCons (cVar 4) (cCons (cCall Fad (cCons (cVar 3) (cCons (cVar 5) (cCons (cVar 6) (cCons (cVar 7) cNil))))) (cCons (cVar 2) cNil)))) (gNm 4))
def bOf (Fu Fti Fad : CF) : CS := (sSeq (sAsg (cFn (f1 gLenA) (cCons (cVar 1) cNil)) (gNm 3)) (sSeq (sAsg (cCall Fu (cCons (cVar 3) cNil)) (gNm 4)) (sSeq (sFor (ciSeq (cVar 0)) (gTp 3 (gsCons (gNm 5) (gsCons (gNm 6) (gsCons (gNm 7) gsNil)))) (bOfL Fti Fad)) (sRet (cCall Fti (cCons (cVar 4) (cCons (cFn (f1 gTuple) (cCons (cLc (ciR1 (cCons (cVar 3) cNil)) (gNm 5) ctYes (cFn (f1 gTuple) (cCons (cLc (ciR1 (cCons (cVar 3) cNil)) (gNm 6) ctYes (cIf (cTst (cOp fEq (cVar 5) (cVar 6))) (cOp fIx (cVar 1) (cVar 5)) (cC (.int 0))) [6]) cNil)) [5]) cNil)) (cCons (cVar 2) cNil))))))))
abbrev Fof' : CF := cDef 3 8 (bOf Fu' Fti' Fad')
theorem yl_call4 {F : CF} {x y z u d : D} (a : Yl S A σ η x) (b : ∀ η1, Gr S η η1 → Yl S B σ η1 y) (c : ∀ η1, Gr S η η1 → Yl S C σ η1 z) (f : ∀ η1, Gr S η η1 → Yl S E σ η1 u) (h : ∀ η1, Gr S η η1 → Fl S F [x, y, z, u] η1 d) : Yl S (cCall F (cCons A (cCons B (cCons C (cCons E cNil))))) σ η d := fun kv kx hk => by
  show A σ η (fun x η1 => B σ η1 (fun y η2 => C σ η2 (fun z η3 => E σ η3 (fun u η4 => F [x, y, z, u] η4 kv kx) kx) kx) kx) kx = true
  exact a _ _ fun η1 x1 => b η1 x1 _ _ fun η2 x2 => c η2 (x1.trans x2) _ _ fun η3 x3 => f η3 ((x1.trans x2).trans x3) _ _ fun η4 x4 => h η4 (((x1.trans x2).trans x3).trans x4) _ _ fun η5 x5 => hk η5 ((((x1.trans x2).trans x3).trans x4).trans x5)
theorem idM_le (i c : Nat) : (idM i c).natAbs ≤ 1000 := by unfold idM; split <;> decide
theorem addM_le {k j i c : Nat} {t : Int} (h : t.natAbs ≤ 1000) : (addM k j t i c).natAbs ≤ 1000 := by
  unfold addM
  split
  · exact h
  · exact idM_le i c
theorem mulM_le (P : PrOk p e) {a b : Mt} (i c : Nat) : (mulM n p a b i c).natAbs ≤ 1000 := by
  have := P.rg (sumTo n (fun k => a i k * b k c))
  have := P.p9
  unfold mulM
  omega
theorem of_loop (P : PrOk p e) (hn : n ≤ 10) {z0 z1 : Option D} {K : KS} : ∀ (us : List Stp) (a : Mt) (y5 y6 y7 : Option D) (η : Hd), Gr [] η0 η → (∀ i c, (a i c).natAbs ≤ 1000) → (∀ s, s ∈ us → s.1 < n ∧ s.2.1 < n ∧ s.2.2.natAbs ≤ 1000) →
    True →
    (∀ (y5 y6 y7 : Option D) (η' : Hd), Gr [] η0 η' → K.nx [z0, z1, some (iD p), some (iD (Int.ofNat n)), some (mkD n (us.foldl (fun acc s => mulM n p acc (addM s.1 s.2.1 s.2.2)) a)), y5, y6, y7] η' = true) →
    forD (gTp 3 (gsCons (gNm 5) (gsCons (gNm 6) (gsCons (gNm 7) gsNil)))) (bOfL Fti' Fad') K (us.map stD) [z0, z1, some (iD p), some (iD (Int.ofNat n)), some (mkD n a), y5, y6, y7] η = true
  | [], a, y5, y6, y7, η, x0, ha, hs, _, hk => hk y5 y6 y7 η x0
  | s :: us, a, y5, y6, y7, η, x0, ha, hs, _, hk => by
    obtain ⟨s1, s2, s3⟩ := hs s (.head _)
    rw [List.map_cons, forD]
    unfold stD
    rw [w_gtp3]
    rw [show ((([z0, z1, some (iD p), some (iD (Int.ofNat n)), some (mkD n a), y5, y6, y7] : SD).set 5 (some (iD (Int.ofNat s.1)))).set 6 (some (iD (Int.ofNat s.2.1)))).set 7 (some (iD s.2.2)) = [z0, z1, some (iD p), some (iD (Int.ofNat n)), some (mkD n a), some (iD (Int.ofNat s.1)), some (iD (Int.ofNat s.2.1)), some (iD s.2.2)] from rfl]
    unfold bOfL
    rw [w_set]
    have := P.p2
    refine yl_call3 (S := []) (yl_var (i := 4) (d := mkD n a) rfl) (fun η1 x1 => yl_call4 (yl_var (i := 3) rfl) (fun _ _ => yl_var (i := 5) rfl) (fun _ _ => yl_var (i := 6) rfl) (fun _ _ => yl_var (i := 7) rfl) fun η2 _ => adding_ok (by omega) s1 s2) (fun _ _ => yl_var (i := 2) rfl) (fun η1 _ => times_ok (by omega) (fun i c _ _ => ha i c) (fun i c _ _ => addM_le s3) (by omega)) _ _ fun η1 x1 => ?_
    exact of_loop P hn us _ _ _ _ η1 (x0.trans x1) (fun i c => mulM_le P i c) (fun s hs' => hs s (.tail _ hs')) trivial hk
theorem of_adding_ok (P : PrOk p e) (hn : n ≤ 10) {us : List Stp} {f : Nat → Int} (hs : ∀ s, s ∈ us → s.1 < n ∧ s.2.1 < n ∧ s.2.2.natAbs ≤ 1000) (hf : ∀ i, i < n → (f i).natAbs ≤ 1000) : Fl [] Fof' [.tup (us.map stD), .tup (iRow n f), .int p] η (mkD n (mulM n p (prodL n p us) (diagM f))) := fun kv kx hk => by
  have p2 := P.p2
  unfold Fof'
  rw [w_def3]
  unfold bOf
  rw [w_seq, w_set, (ev_lenT' (ev_var (i := 1) (d := .tup (iRow n f)) rfl) iRow_len : Ev (cFn (f1 gLenA) (cCons (cVar 1) cNil)) (startD 3 8 [.tup (us.map stD), .tup (iRow n f), .int p]) η (.int (Int.ofNat n)))]
  rw [show (startD 3 8 [.tup (us.map stD), .tup (iRow n f), .int p]).set 3 (some (.int (Int.ofNat n))) = [some (.tup (us.map stD)), some (.tup (iRow n f)), some (iD p), some (iD (Int.ofNat n)), none, none, none, none] from rfl]
  dsimp only
  rw [w_seq, w_set]
  refine yl_call1 (S := []) (yl_var (i := 3) rfl) (fun η1 _ => unit_ok (by omega)) _ _ fun η1 x1 => ?_
  rw [show ([some (.tup (us.map stD)), some (.tup (iRow n f)), some (iD p), some (iD (Int.ofNat n)), none, none, none, none] : SD).set 4 (some (mkD n idM)) = [some (.tup (us.map stD)), some (.tup (iRow n f)), some (iD p), some (iD (Int.ofNat n)), some (mkD n idM), none, none, none] from rfl]
  dsimp only
  rw [w_seq]
  unfold sFor
  refine iw_seq (S := []) (l := us.map stD) (yl_var (i := 0) rfl) _ _ fun η2 x2 => ?_
  show forD _ (bOfL Fti' Fad') (KS.thaw _ _) (us.map stD) [some (.tup (us.map stD)), some (.tup (iRow n f)), some (iD p), some (iD (Int.ofNat n)), some (mkD n idM), none, none, none] η2 = true
  rw [thaw_none]
  refine of_loop (η0 := η) P hn us idM none none none η2 (x1.trans x2) idM_le hs trivial fun y5 y6 y7 η3 x3 => ?_
  have hp : us.foldl (fun acc s => mulM n p acc (addM s.1 s.2.1 s.2.2)) idM = prodL n p us := rfl
  rw [hp]
  dsimp only
  rw [w_ret]
  have hA : ∀ i c, (prodL n p us i c).natAbs ≤ 1000 := by
    have gen : ∀ (us : List Stp) (a : Mt), (∀ i c, (a i c).natAbs ≤ 1000) → ∀ i c, (us.foldl (fun acc s => mulM n p acc (addM s.1 s.2.1 s.2.2)) a i c).natAbs ≤ 1000 := by
      intro us
      induction us with
      | nil => intro a h; exact h
      | cons s us ih => intro a h; exact ih _ (fun i c => mulM_le P i c)
    exact gen us idM idM_le
  refine yl_call3 (S := []) (yl_var (i := 4) (d := mkD n (prodL n p us)) rfl) (fun η4 x4 => yl_tup (L := tab n (fun i => .tup (iRow n (diagM f i)))) (yn_lc (it := fun i => iD (Int.ofNat i)) (iw_r1 (yl_var (i := 3) rfl) (by omega)) (by omega) fun i hi η5 x5 => ⟨[some (.tup (us.map stD)), some (.tup (iRow n f)), some (iD p), some (iD (Int.ofNat n)), some (mkD n (prodL n p us)), some (iD (Int.ofNat i)), y6, y7], fun K kx => rfl, yl_tup (yn_lc (f := fun c => iD (diagM f i c)) (it := fun i => iD (Int.ofNat i)) (iw_r1 (yl_var (i := 3) rfl) (by omega)) (by omega) fun c hc η6 x6 => ⟨[some (.tup (us.map stD)), some (.tup (iRow n f)), some (iD p), some (iD (Int.ofNat n)), some (mkD n (prodL n p us)), some (iD (Int.ofNat i)), some (iD (Int.ofNat c)), y7], fun K kx => rfl, fun kv kx hkv => ?_⟩)⟩)) (fun _ _ => yl_var (i := 2) rfl) (fun η4 _ => times_ok (by omega) (fun i c _ _ => hA i c) (fun i c hi _ => ?_) (by omega)) _ _ fun η4 x4 => hk η4 (x3.trans x4)
  · rw [w_cif, w_tst]
    have E1 : Ev (cOp fEq (cVar 5) (cVar 6)) [some (.tup (us.map stD)), some (.tup (iRow n f)), some (iD p), some (iD (Int.ofNat n)), some (mkD n (prodL n p us)), some (iD (Int.ofNat i)), some (iD (Int.ofNat c)), y7] η6 (.bl (decide ((Int.ofNat i : Int) = Int.ofNat c))) := ev_op (ev_var rfl) (ev_var rfl) fEq_int
    rw [E1]
    unfold diagM at hkv
    by_cases z : i = c
    · rw [decide_eq_true (by rw [z])]
      dsimp only
      rw [if_pos z] at hkv
      rw [(ev_ixT (l := iRow n f) (ev_var (i := 1) rfl) (ev_var (i := 5) rfl) (iRow_get hi) : Ev (cOp fIx (cVar 1) (cVar 5)) [some (.tup (us.map stD)), some (.tup (iRow n f)), some (iD p), some (iD (Int.ofNat n)), some (mkD n (prodL n p us)), some (iD (Int.ofNat i)), some (iD (Int.ofNat c)), y7] η6 (iD (f i)))]
      exact hkv η6 (Gr.refl _ _)
    · rw [decide_eq_false (fun h => z (Int.ofNat.inj h))]
      dsimp only
      rw [if_neg z] at hkv
      rw [w_c]
      exact hkv η6 (Gr.refl _ _)
  · unfold diagM
    split
    · exact hf i hi
    · decide
end
end DL

/-! grids by adding steps: what the law's statements need -/
namespace DL
open PySem PySem.Spec L2
section
variable {S : List Nat} {σ : SD} {η η0 : Hd} {A B C : CE} {n : Nat}
/-- elements of which only something is known -/
theorem lcD_rel {α : Type} [Inhabited α] {g : CG} {e : CE} {k : List D → Hd → Bool} (Fd : α → D) (Pa : α → Prop) : ∀ (r : Nat) (it : Nat → D) (n : Nat) (acc : List D) (η : Hd), r ≤ n → Gr S η0 η →
    (∀ i, i < r → ∀ η1, Gr S η0 η1 → ∃ σ1, (∀ K kx, g (it i) σ η1 K kx = K σ1 η1) ∧ ∀ kv, (∀ a η2, Gr S η1 η2 → Pa a → kv (Fd a) η2 = true) → e σ1 η1 kv kF = true) →
    (∀ (f : Nat → α) η', Gr S η η' → (∀ i, i < r → Pa (f i)) → k (acc.reverse ++ tab r (fun i => Fd (f i))) η' = true) → lcD g ctYes e σ k (tab r it) n acc η = true
  | 0, it, n, acc, η, _, _, _, hk => by have := hk (fun _ => default) η (Gr.refl _ _) (fun i hi => absurd hi (by omega)); simpa [tab, lcD] using this
  | r + 1, it, n, acc, η, hn, x0, h, hk => by
    obtain ⟨n, rfl⟩ : ∃ m, n = m + 1 := ⟨n - 1, by omega⟩
    obtain ⟨σ1, h1, h2⟩ := h 0 (by omega) η x0
    rw [tab_cons, lcD, h1]
    show e σ1 η _ kF = true
    refine h2 _ fun a η1 x1 ha => ?_
    refine lcD_rel Fd Pa r (fun i => it (i + 1)) n _ η1 (by omega) (x0.trans x1) (fun i hi => h (i + 1) (by omega)) fun f η2 x2 hf => ?_
    have := hk (fun i => match i with | 0 => a | i + 1 => f i) η2 (x1.trans x2) (fun i hi => by
      cases i with
      | zero => exact ha
      | succ i => exact hf i (by omega))
    rw [tab_cons] at this
    rw [List.reverse_cons, List.append_assoc]
    exact this
/-- a comprehension of which nothing stays -/
theorem lcD_no {g : CG} {t : CT} {e : CE} {k : List D → Hd → Bool} : ∀ (l : List D) (n : Nat) (acc : List D), l.length ≤ n → (∀ d, d ∈ l → ∃ σ1, (∀ K kx, g d σ η K kx = K σ1 η) ∧ ∀ k kx, t σ1 η k kx = k false η) → lcD g t e σ k l n acc η = k acc.reverse η
  | [], n, acc, _, _ => rfl
  | d :: l, n, acc, hn, h => by
    obtain ⟨n, rfl⟩ : ∃ m, n = m + 1 := ⟨n - 1, by simp at hn; omega⟩
    obtain ⟨σ1, h1, h2⟩ := h d (.head _)
    rw [lcD, h1, h2]
    exact lcD_no l n acc (by simp at hn; omega) fun d hd => h d (.tail _ hd)
theorem fNe_bl {b : Bool} : fNe (.bl b) (.bl b) η = some (.bl false, η) := by cases b <;> rfl
theorem fNe_mat {a b : Mt} (h : ∀ i c, i < n → c < n → a i c = b i c) : fNe (mkD n a) (mkD n b) η = some (.bl false, η) := by
  have e : mkD n a = mkD n b := by
    unfold mkD
    congr 1
    exact tab_ext fun i hi => by
      congr 1
      exact tab_ext fun c hc => by rw [h i c hi hc]
  rw [e]
  have h1 : pur 8 (mkD n b) = true := by
    show (tab n (fun i => D.tup (iRow n (b i)))).all (pur 7) = true
    rw [List.all_eq_true]
    intro d hd
    unfold tab at hd
    obtain ⟨i, _, rfl⟩ := List.mem_map.mp hd
    show (iRow n (b i)).all (pur 6) = true
    rw [List.all_eq_true]
    intro d hd
    unfold iRow tab at hd
    obtain ⟨c, _, rfl⟩ := List.mem_map.mp hd
    rfl
  have h2 : eqn 8 (mkD n b) (mkD n b) = true := by
    show eqL (eqn 7) (tab n (fun i => D.tup (iRow n (b i)))) (tab n (fun i => D.tup (iRow n (b i)))) = true
    refine eqL_self fun d hd => ?_
    unfold tab at hd
    obtain ⟨i, _, rfl⟩ := List.mem_map.mp hd
    show eqL (eqn 6) (iRow n (b i)) (iRow n (b i)) = true
    refine eqL_self fun d hd => ?_
    unfold iRow tab at hd
    obtain ⟨c, _, rfl⟩ := List.mem_map.mp hd
    show ieq (b i c) (b i c) = true
    rw [ieq_dec]; exact decide_eq_true rfl
  have h3 : eqF η (mkD n b) (mkD n b) = some true := by
    show (match pur 8 (mkD n b), pur 8 (mkD n b) with | true, true => some (eqn 8 (mkD n b) (mkD n b)) | _, _ => none) = some true
    rw [h1, h2]
  simp only [fNe, h3, Bool.not_true]
theorem eqL_ne : ∀ {n : Nat} {f g : Nat → Int}, (∃ c, c < n ∧ f c ≠ g c) → eqL (eqn 7) (tab n fun i => iD (f i)) (tab n fun i => iD (g i)) = false
  | 0, f, g, ⟨c, h, _⟩ => absurd h (by omega)
  | n + 1, f, g, ⟨c, h, hne⟩ => by
    rw [tab_cons, tab_cons]
    have e0 : eqn 7 (iD (f 0)) (iD (g 0)) = decide (f 0 = g 0) := by rw [← ieq_dec]; rfl
    simp only [eqL, e0]
    by_cases z : f 0 = g 0
    · rw [decide_eq_true z]
      cases c with
      | zero => exact absurd z hne
      | succ c => exact eqL_ne (f := fun i => f (i + 1)) (g := fun i => g (i + 1)) ⟨c, by omega, hne⟩
    · rw [decide_eq_false z]
theorem fNe_rows_ne {f g : Nat → Int} (h : ∃ c, c < n ∧ f c ≠ g c) : fNe (.tup (iRow n f)) (.tup (iRow n g)) η = some (.bl true, η) := by
  have h1 := iRow_pur (r := n) (f := f)
  have h2 := iRow_pur (r := n) (f := g)
  have h3 : eqn 8 (.tup (iRow n f)) (.tup (iRow n g)) = false := eqL_ne h
  have : eqF η (.tup (iRow n f)) (.tup (iRow n g)) = some false := by simp only [eqF, h1, h2, h3]
  simp only [fNe, this, Bool.not_false]
theorem len_filt {x : Nat → D} {b : Nat → Bool} {d : Nat} : ∀ (r : Nat), (∀ i, i < r → b i = decide (i < d)) → (tab r (fun i => if b i then [x i] else [])).flatten.length = min r d
  | 0, _ => by simp [tab]
  | r + 1, h => by
    rw [tab_succ, List.flatten_append, List.length_append, len_filt r fun i hi => h i (by omega), h r (by omega)]
    by_cases z : r < d
    · rw [decide_eq_true z]; simp; omega
    · rw [decide_eq_false z]; simp; omega
theorem yl_lenN {L : List D} (h : Yn S A σ η L) : Yl S (cFn (f1 gLenA) (cCons A cNil)) σ η (.int (Int.ofNat L.length)) := fun kv kx hk => by
  rw [w_fn1]
  refine h _ _ fun q η' x _ _ g => ?_
  have : f1 gLenA [.ref q] η' = some (.int (Int.ofNat L.length), η') := by simp only [f1, gLenA, g, gLen, list_lst g]
  rw [this]
  exact hk η' x
theorem roll_n (hn : 0 < n) (h9 : n ≤ 1000) {kv : KV} {kx : KX} (hg : η.get 0 = some .dice) (h : ∀ v, v < n → kv (iD (Int.ofNat v)) η = true) : fRoll [.ref 0, .int (Int.ofNat n)] η kv kx = true := by
  obtain ⟨n', rfl⟩ : ∃ n', n = n' + 1 := ⟨n - 1, by omega⟩
  exact roll_at hg (by omega) h
theorem ev_tup1 {x : D} (a : Ev A σ η x) : Ev (cTup (cCons A cNil)) σ η (.tup [x]) := fun kv kx => by
  show A σ η (fun x η1 => kv (.tup [x]) η1) kx = _
  rw [a]
end
end DL

/-! grids by adding steps: the law's statements (printed by k30m.py) -/
namespace DL
open PySem PySem.Spec L2
def s30_1 (hm : Nat → Option Str) : CS := (sAsg (cFn (f1 gTuple) (cCons (cLc (ciR1 (cCons (cVar 2) cNil)) (gNm 3) ctYes (cFn (f1 gTuple) (cCons (cLc (ciR1 (cCons (cVar 2) cNil)) (gNm 4) ctYes (cCall fRoll (cCons (cVar 1) (cCons (cVar 15) cNil))) [4]) cNil)) [3]) cNil)) (gNm 16))
def s30_2 (hm : Nat → Option Str) : CS := (sAsg (cCall Fcl' (cCons (cVar 16) (cCons (cVar 15) cNil))) (gTp 3 (gsCons (gNm 5) (gsCons (gNm 6) (gsCons (gNm 7) gsNil)))))
def s30_3 (hm : Nat → Option Str) : CS := (sIf (ctOr (cTst (cOp fNe (cOp fEq (cVar 6) (cVar 2)) (cOp fNe (cCall Fco' (cCons (cVar 16) (cCons (cVar 15) cNil))) (cC (.int 0))))) (cTst (cOp fNe (cFn (f1 gLenA) (cCons (cLc (ciSeq (cVar 5)) (gNm 17) (cTst (cOp fNe (cVar 17) (cOp fRepU (cTup (cCons (cC (.int 0)) cNil)) (cVar 2)))) (cVar 17) [17]) cNil)) (cVar 6)))) (sRet (cC (.bl false))) sNil)
def s30_5 (hm : Nat → Option Str) : CS := (sAsg (cTup (cCons (cCall fRoll (cCons (cVar 1) (cCons (cVar 2) cNil))) (cCons (cCall fRoll (cCons (cVar 1) (cCons (cVar 2) cNil))) (cCons (cOp fAdd (cC (.int 1)) (cCall fRoll (cCons (cVar 1) (cCons (cOp fSub (cVar 15) (cC (.int 1))) cNil)))) cNil)))) (gTp 3 (gsCons (gNm 4) (gsCons (gNm 3) (gsCons (gNm 12) gsNil)))))
def s30_6 (hm : Nat → Option Str) : CS := (sIf (cTst (cOp fNe (cVar 4) (cVar 3))) (sSeq (sAsg (cCall Fad' (cCons (cVar 2) (cCons (cVar 4) (cCons (cVar 3) (cCons (cVar 12) cNil))))) (gNm 13)) (sSeq (sAsg (cCall Fti' (cCons (cVar 13) (cCons (cVar 16) (cCons (cVar 15) cNil)))) (gNm 14)) (sSeq (sIf (cTst (cOp fNe (cCall Fco' (cCons (cVar 13) (cCons (cVar 15) cNil))) (cC (.int 1)))) (sRet (cC (.bl false))) sNil) (sIf (cTst (cOp fNe (cVar 14) (cFn (f1 gTuple) (cCons (cLc (ciR1 (cCons (cVar 2) cNil)) (gNm 18) ctYes (cFn (f1 gTuple) (cCons (cLc (ciR1 (cCons (cVar 2) cNil)) (gNm 19) ctYes (cOp fMod (cOp fAdd (cOp fIx (cOp fIx (cVar 16) (cVar 18)) (cVar 19)) (cIf (cTst (cOp fEq (cVar 18) (cVar 4))) (cOp fMul (cVar 12) (cOp fIx (cOp fIx (cVar 16) (cVar 3)) (cVar 19))) (cC (.int 0)))) (cVar 15)) [19]) cNil)) [18]) cNil)))) (sRet (cC (.bl false))) sNil)))) sNil)
def e30_4 : CS := (sIf (cTst (cOp fNe (cLc (ciSeq (cVar 8)) (gTp 3 (gsCons (gNm 4) (gsCons (gNm 3) (gsCons (gNm 12) gsNil)))) (ctOr (cTst (cOp fEq (cVar 4) (cVar 3))) (cTst (cOp fEq (cOp fMod (cVar 12) (cVar 15)) (cC (.int 0))))) (cC (.int 1)) [4, 3, 12]) (cLst cNil))) (sRet (cC (.bl false))) sNil)
def d30_4 : CS := (sIf (ctOr (cTst (cOp fNe (cVar 10) (cCall Fco' (cCons (cVar 16) (cCons (cVar 15) cNil))))) (cTst (cOp fNe (cVar 7) (cCall Fco' (cCons (cVar 16) (cCons (cVar 15) cNil)))))) (sRet (cC (.bl false))) sNil)
def l30_4 : CS := (sAsg (cOp fMod (cOp fMul (cVar 10) (cVar 11)) (cVar 15)) (gNm 10))
def b30_4 : CS := (sSeq (sAsg (cCall Fby' (cCons (cVar 16) (cCons (cVar 15) cNil))) (gTp 2 (gsCons (gNm 8) (gsCons (gNm 9) gsNil)))) (sSeq (sIf (ctOr (cTst (cOp fNe (cCall Fof' (cCons (cVar 8) (cCons (cVar 9) (cCons (cVar 15) cNil)))) (cVar 16))) (cTst (cOp fNe (cVar 5) (cCall Fu' (cCons (cVar 2) cNil))))) (sRet (cC (.bl false))) sNil) (sSeq (sAsg (cC (.int 1)) (gNm 10)) (sSeq (sFor (ciSeq (cVar 9)) (gNm 11) l30_4) (sSeq d30_4 e30_4)))))
def s30_4 (hm : Nat → Option Str) : CS := (sIf (cTst (cOp (fB2 ilt) (cVar 6) (cVar 2))) (sIf (cTst (cOp fNe (cTold hm (cCall Fby' (cCons (cVar 16) (cCons (cVar 15) cNil)))) (cC (.str "no way")))) (sRet (cC (.bl false))) sNil) b30_4)
structure L30 (n b e : Nat) (p : Int) (det : Mt → Int) (hm : Nat → Option Str) : Prop where
  Dt : DetOk n det
  P : PrOk p e
  n2 : 2 ≤ n
  n9 : n ≤ 10
  hp : p = Int.ofNat (b + 2)
  rep : ∀ η, fRepU (.tup [.int 0]) (iD (Int.ofNat n)) η = some (.tup (iRow n (fun _ => 0)), η)
  told : hm 3 = some ("no way" : Str)
structure H30 (η : Hd) : Prop where
  dice : η.get 0 = some .dice
  lt : 0 < η.nx
theorem H30.mono {η η' : Hd} (H : H30 η) (x : Gr [] η η') : H30 η' := ⟨by rw [x.keep H.lt (by simp)]; exact H.dice, Nat.lt_of_lt_of_le H.lt x.1⟩
abbrev Rg (n : Nat) (p : Int) (m : Mt) : Prop := ∀ i c, i < n → c < n → 0 ≤ m i c ∧ m i c < p
section
variable {n b e : Nat} {p : Int} {det : Mt → Int} {hm : Nat → Option Str} {η : Hd} {K : KS} {m m0 : Mt} {y0 y1 y2 y3 y4 y5 y6 y7 y8 y9 y10 y11 y12 y13 y14 y15 y16 y17 y18 y19 : Option D}
theorem t30_1 (L : L30 n b e p det hm) (H : H30 η) (hk : ∀ m0 η', Rg n p m0 → Gr [] η η' → K.nx [y0, some (.ref 0), some (iD (Int.ofNat n)), y3, y4, y5, y6, y7, y8, y9, y10, y11, y12, y13, y14, some (iD p), some (mkD n m0), y17, y18, y19] η' = true) : s30_1 hm [y0, some (.ref 0), some (iD (Int.ofNat n)), y3, y4, y5, y6, y7, y8, y9, y10, y11, y12, y13, y14, some (iD p), y16, y17, y18, y19] η K = true := by
  have n2 := L.n2
  have n9 := L.n9
  have p9 := L.P.p9
  have hp := L.hp
  have hb : b + 2 ≤ 100 := by have : p = ((b + 2 : Nat) : Int) := hp; omega
  unfold s30_1
  rw [w_set, w_fn1, w_lc, it_r1 (j := n) (ev_var (i := 2) rfl) (by omega)]
  show lcD (gNm 3) ctYes _ [y0, some (.ref 0), some (iD (Int.ofNat n)), none, y4, y5, y6, y7, y8, y9, y10, y11, y12, y13, y14, some (iD p), y16, y17, y18, y19] _ (tab n (fun i => iD (Int.ofNat i))) line1 [] (Hd.bump η) = true
  refine lcD_rel (S := []) (η0 := Hd.bump η) (α := Nat → Int) (fun v => .tup (iRow n v)) (fun v => ∀ c, c < n → 0 ≤ v c ∧ v c < p) n _ line1 [] _ (by unfold line1; omega) (Gr.refl _ _) (fun i hi η1 x1 => ⟨[y0, some (.ref 0), some (iD (Int.ofNat n)), some (iD (Int.ofNat i)), y4, y5, y6, y7, y8, y9, y10, y11, y12, y13, y14, some (iD p), y16, y17, y18, y19], fun K kx => rfl, fun kv hkv => ?_⟩) fun f η2 x2 hf => ?_
  · rw [w_fn1, w_lc, it_r1 (j := n) (ev_var (i := 2) rfl) (by omega)]
    show lcD (gNm 4) ctYes _ [y0, some (.ref 0), some (iD (Int.ofNat n)), some (iD (Int.ofNat i)), none, y5, y6, y7, y8, y9, y10, y11, y12, y13, y14, some (iD p), y16, y17, y18, y19] _ (tab n (fun i => iD (Int.ofNat i))) line1 [] (Hd.bump η1) = true
    have d1 : (Hd.bump η1).get 0 = some .dice := ((H.mono (Gr.bump.trans x1)).mono Gr.bump).dice
    refine lcD_rollF (b := b + 2) (fun v => iD (Int.ofNat v)) n _ line1 [] (by unfold line1; omega) (fun c hc => ⟨[y0, some (.ref 0), some (iD (Int.ofNat n)), some (iD (Int.ofNat i)), some (iD (Int.ofNat c)), y5, y6, y7, y8, y9, y10, y11, y12, y13, y14, some (iD p), y16, y17, y18, y19], fun K kx => rfl, fun kv1 h1v => ?_⟩) fun f hf => ?_
    · rw [w_call2, w_var (i := 1) (d := .ref 0) rfl, w_var (i := 15) (d := iD p) rfl, hp]
      exact roll_n (by omega) (by omega) d1 h1v
    · show (match f1 gTuple [.ref η1.nx] ((Hd.bump η1).add η1.nx (.lst ([].reverse ++ tab n (fun c => iD (Int.ofNat (f c)))))) with | some (d, η2) => kv d η2 | none => false) = true
      rw [tup_new]
      exact hkv (fun c => Int.ofNat (f c)) _ (Gr.bump.add (Nat.le_refl _)) fun c hc => ⟨Int.natCast_nonneg _, by rw [hp]; exact Int.ofNat_lt.mpr (hf c hc)⟩
  · show (match f1 gTuple [.ref η.nx] (η2.add η.nx (.lst ([].reverse ++ tab n (fun i => .tup (iRow n (f i)))))) with | some (d, η2) => K.nx (List.set [y0, some (.ref 0), some (iD (Int.ofNat n)), y3, y4, y5, y6, y7, y8, y9, y10, y11, y12, y13, y14, some (iD p), y16, y17, y18, y19] 16 (some d)) η2 | none => false) = true
    rw [tup_new]
    exact hk f _ (fun i c hi hc => hf i hi c hc) ((Gr.bump.trans x2).add (Nat.le_refl _))
theorem t30_2 (L : L30 n b e p det hm) (rg : Rg n p m0) (hk : ∀ d w m η', ClI n det p m0 n d w m → Gr [] η η' → K.nx [y0, some (.ref 0), some (iD (Int.ofNat n)), y3, y4, some (mkD n m), some (iD (Int.ofNat d)), some (iD (w % p)), y8, y9, y10, y11, y12, y13, y14, some (iD p), some (mkD n m0), y17, y18, y19] η' = true) : s30_2 hm [y0, some (.ref 0), some (iD (Int.ofNat n)), y3, y4, y5, y6, y7, y8, y9, y10, y11, y12, y13, y14, some (iD p), some (mkD n m0), y17, y18, y19] η K = true := by
  have n2 := L.n2
  have n9 := L.n9
  unfold s30_2
  rw [w_asg, w_call2, w_var (i := 16) (d := mkD n m0) rfl, w_var (i := 15) (d := iD p) rfl]
  exact cleared_ok L.Dt L.P (by omega) (by omega) rg fun d w m η1 C x1 => hk d w m η1 C x1
theorem t30_3 (L : L30 n b e p det hm) (rg : Rg n p m0) {d : Nat} {w : Int} (Cl : ClI n det p m0 n d w m) (hk : ∀ η', Gr [] η η' → K.nx [y0, some (.ref 0), some (iD (Int.ofNat n)), y3, y4, some (mkD n m), some (iD (Int.ofNat d)), some (iD (w % p)), y8, y9, y10, y11, y12, y13, y14, some (iD p), some (mkD n m0), y17, y18, y19] η' = true) : s30_3 hm [y0, some (.ref 0), some (iD (Int.ofNat n)), y3, y4, some (mkD n m), some (iD (Int.ofNat d)), some (iD (w % p)), y8, y9, y10, y11, y12, y13, y14, some (iD p), some (mkD n m0), y17, y18, y19] η K = true := by
  have n2 := L.n2
  have n9 := L.n9
  have dn := Cl.dj
  obtain ⟨f1_, f2_⟩ := Cl.fin L.Dt L.P (by omega)
  unfold s30_3
  rw [w_if, w_or, w_tst, w_op, w_op, w_var (i := 6) (d := iD (Int.ofNat d)) rfl, w_var (i := 2) (d := iD (Int.ofNat n)) rfl, fEq_int]
  dsimp only
  rw [w_op]
  refine yl_call2 (S := []) (yl_var (i := 16) (d := mkD n m0) rfl) (fun _ _ => yl_var (i := 15) (d := iD p) rfl) (fun η1 x1 => corner_ok L.Dt L.P (by omega) (by omega) rg) _ _ fun η1 x1 => ?_
  rw [w_c, fNe_int]
  dsimp only
  have hab : decide ((Int.ofNat d : Int) = Int.ofNat n) = !decide (det m0 % p = 0) := by
    by_cases z : d = n
    · rw [decide_eq_true (by rw [z]), decide_eq_false (f1_ z).2.1]; rfl
    · rw [decide_eq_false (fun h => z (Int.ofNat.inj h)), decide_eq_true (f2_ (by omega))]; rfl
  rw [hab, fNe_bl]
  dsimp only
  rw [w_tst, w_op]
  refine yl_lenN (S := []) (yn_lcF (r := n) (it := fun i => .tup (iRow n (m i))) (f := fun i => .tup (iRow n (m i))) (b := fun i => decide (i < d)) (iw_seq (yl_var (i := 5) (d := mkD n m) rfl)) (by omega) fun i hi η2 x2 => ⟨[y0, some (.ref 0), some (iD (Int.ofNat n)), y3, y4, some (mkD n m), some (iD (Int.ofNat d)), some (iD (w % p)), y8, y9, y10, y11, y12, y13, y14, some (iD p), some (mkD n m0), some (.tup (iRow n (m i))), y18, y19], fun K kx => rfl, yl_ev (ev_op (x := .tup (iRow n (m i))) (y := .tup (iRow n (fun _ => 0))) (ev_var rfl) (ev_op (ev_tup1 ev_c) (ev_var rfl) (L.rep _)) ?_), fun η3 _ => yl_var rfl⟩) _ _ fun η2 x2 => ?_
  · by_cases z : i < d
    · rw [decide_eq_true z]; exact fNe_rows_ne (Cl.nz i z)
    · rw [decide_eq_false z]; exact fNe_rows fun c hc => Cl.ec i c (by omega) hi hc
  · rw [len_filt n fun i _ => rfl, Nat.min_eq_right dn, w_var (i := 6) (d := iD (Int.ofNat d)) rfl, fNe_int, decide_eq_true rfl]
    simp only [Bool.not_true]
    rw [w_nil]
    exact hk η2 (x1.trans x2)
theorem num_loop (hp0 : 0 < p) {f : Nat → Int} (hf : ∀ i, i < n → (f i).natAbs ≤ 1000) {y5 y6 y7 y8 y9 : Option D} {K : KS} (hk : ∀ y11, K.nx [y0, some (.ref 0), some (iD (Int.ofNat n)), y3, y4, y5, y6, y7, y8, y9, some (iD (prodTo n f % p)), y11, y12, y13, y14, some (iD p), y16, y17, y18, y19] η = true) : ∀ (r o : Nat) (y11 : Option D), o + r = n →
    forD (gNm 11) l30_4 K (tab r (fun q => iD (f (o + q)))) [y0, some (.ref 0), some (iD (Int.ofNat n)), y3, y4, y5, y6, y7, y8, y9, some (iD (prodTo o f % p)), y11, y12, y13, y14, some (iD p), y16, y17, y18, y19] η = true
  | 0, o, y11, h => by
    rw [show o = n by omega]
    exact hk y11
  | r + 1, o, y11, h => by
    rw [tab_cons, forD, w_nm]
    rw [show ([y0, some (.ref 0), some (iD (Int.ofNat n)), y3, y4, y5, y6, y7, y8, y9, some (iD (prodTo o f % p)), y11, y12, y13, y14, some (iD p), y16, y17, y18, y19] : SD).set 11 (some (iD (f (o + 0)))) = [y0, some (.ref 0), some (iD (Int.ofNat n)), y3, y4, y5, y6, y7, y8, y9, some (iD (prodTo o f % p)), some (iD (f o)), y12, y13, y14, some (iD p), y16, y17, y18, y19] from rfl]
    unfold l30_4
    have hb := hf o (by omega)
    rw [w_set, (ev_mod (ev_mulR (ev_var (i := 10) rfl) (ev_var (i := 11) rfl) (by omega)) (ev_var (i := 15) rfl) hp0 : Ev (cOp fMod (cOp fMul (cVar 10) (cVar 11)) (cVar 15)) [y0, some (.ref 0), some (iD (Int.ofNat n)), y3, y4, y5, y6, y7, y8, y9, some (iD (prodTo o f % p)), some (iD (f o)), y12, y13, y14, some (iD p), y16, y17, y18, y19] η (.int (prodTo o f % p * f o % p)))]
    have e1 : prodTo o f % p * f o % p = prodTo (o + 1) f % p := by
      show _ = (prodTo o f * f o) % p
      exact em_mul (Int.emod_emod _ _) rfl
    rw [e1]
    have := num_loop hp0 hf hk r (o + 1) (some (iD (f o))) (by omega)
    simp only [show ∀ i, o + 1 + i = o + (i + 1) by intro i; omega] at this
    exact this
theorem t30_4d (L : L30 n b e p det hm) (rg : Rg n p m0) {d : Nat} {w z : Int} (h1 : z = det m0 % p) (h2 : w % p = det m0 % p) (hk : ∀ η', Gr [] η η' → K.nx [y0, some (.ref 0), some (iD (Int.ofNat n)), y3, y4, some (mkD n m), some (iD (Int.ofNat d)), some (iD (w % p)), y8, y9, some (iD z), y11, y12, y13, y14, some (iD p), some (mkD n m0), y17, y18, y19] η' = true) : d30_4 [y0, some (.ref 0), some (iD (Int.ofNat n)), y3, y4, some (mkD n m), some (iD (Int.ofNat d)), some (iD (w % p)), y8, y9, some (iD z), y11, y12, y13, y14, some (iD p), some (mkD n m0), y17, y18, y19] η K = true := by
  have n2 := L.n2
  have n9 := L.n9
  unfold d30_4
  rw [w_if, w_or, w_tst, w_op, w_var (i := 10) (d := iD z) rfl]
  refine yl_call2 (S := []) (yl_var (i := 16) (d := mkD n m0) rfl) (fun _ _ => yl_var (i := 15) (d := iD p) rfl) (fun η1 x1 => corner_ok L.Dt L.P (by omega) (by omega) rg) _ _ fun η1 x1 => ?_
  rw [fNe_int, decide_eq_true h1]
  simp only [Bool.not_true]
  rw [w_tst, w_op, w_var (i := 7) (d := iD (w % p)) rfl]
  refine yl_call2 (S := []) (yl_var (i := 16) (d := mkD n m0) rfl) (fun _ _ => yl_var (i := 15) (d := iD p) rfl) (fun η1 x1 => corner_ok L.Dt L.P (by omega) (by omega) rg) _ _ fun η2 x2 => ?_
  rw [fNe_int, decide_eq_true h2]
  simp only [Bool.not_true]
  rw [w_nil]
  exact hk η2 (x1.trans x2)
theorem t30_4e (L : L30 n b e p det hm) {us : List Stp} (hl : us.length ≤ 1000) (hs : ∀ s, s ∈ us → s.1 ≠ s.2.1 ∧ 0 < s.2.2 ∧ s.2.2 < p) (hk : ∀ η', Gr [] η η' → K.nx [y0, some (.ref 0), some (iD (Int.ofNat n)), y3, y4, y5, y6, y7, some (.tup (us.map stD)), y9, y10, y11, y12, y13, y14, some (iD p), some (mkD n m0), y17, y18, y19] η' = true) : e30_4 [y0, some (.ref 0), some (iD (Int.ofNat n)), y3, y4, y5, y6, y7, some (.tup (us.map stD)), y9, y10, y11, y12, y13, y14, some (iD p), some (mkD n m0), y17, y18, y19] η K = true := by
  have p2 := L.P.p2
  unfold e30_4
  rw [w_if, w_tst, w_op, w_lc]
  refine iw_seq (S := []) (l := us.map stD) (yl_var (i := 8) (d := .tup (us.map stD)) rfl) _ _ fun η1 x1 => ?_
  show lcD _ _ _ [y0, some (.ref 0), some (iD (Int.ofNat n)), none, none, y5, y6, y7, some (.tup (us.map stD)), y9, y10, y11, none, y13, y14, some (iD p), some (mkD n m0), y17, y18, y19] _ (us.map stD) line1 [] (Hd.bump η1) = true
  rw [lcD_no (us.map stD) line1 [] (by rw [List.length_map]; unfold line1; omega) fun dd hd => by
    obtain ⟨s, h1, rfl⟩ := List.mem_map.mp hd
    obtain ⟨a1, a2, a3⟩ := hs s h1
    refine ⟨[y0, some (.ref 0), some (iD (Int.ofNat n)), some (iD (Int.ofNat s.2.1)), some (iD (Int.ofNat s.1)), y5, y6, y7, some (.tup (us.map stD)), y9, y10, y11, some (iD s.2.2), y13, y14, some (iD p), some (mkD n m0), y17, y18, y19], fun K kx => rfl, fun k kx => ?_⟩
    rw [w_or, w_tst, (ev_op (x := iD (Int.ofNat s.1)) (y := iD (Int.ofNat s.2.1)) (ev_var rfl) (ev_var rfl) fEq_int : Ev (cOp fEq (cVar 4) (cVar 3)) [y0, some (.ref 0), some (iD (Int.ofNat n)), some (iD (Int.ofNat s.2.1)), some (iD (Int.ofNat s.1)), y5, y6, y7, some (.tup (us.map stD)), y9, y10, y11, some (iD s.2.2), y13, y14, some (iD p), some (mkD n m0), y17, y18, y19] _ (.bl (decide ((Int.ofNat s.1 : Int) = Int.ofNat s.2.1)))), decide_eq_false (fun h => a1 (Int.ofNat.inj h))]
    dsimp only
    rw [w_tst, (ev_op (x := iD (s.2.2 % p)) (y := iD 0) (ev_mod (ev_var rfl) (ev_var rfl) (by omega)) ev_c fEq_int : Ev (cOp fEq (cOp fMod (cVar 12) (cVar 15)) (cC (.int 0))) [y0, some (.ref 0), some (iD (Int.ofNat n)), some (iD (Int.ofNat s.2.1)), some (iD (Int.ofNat s.1)), y5, y6, y7, some (.tup (us.map stD)), y9, y10, y11, some (iD s.2.2), y13, y14, some (iD p), some (mkD n m0), y17, y18, y19] _ (.bl (decide (s.2.2 % p = 0)))), decide_eq_false (by rw [emod_of_lt (by omega) a3]; omega)]]
  show (cLst cNil) [y0, some (.ref 0), some (iD (Int.ofNat n)), y3, y4, y5, y6, y7, some (.tup (us.map stD)), y9, y10, y11, y12, y13, y14, some (iD p), some (mkD n m0), y17, y18, y19] ((Hd.bump η1).add η1.nx (.lst [])) (fun y η2 => match fNe (.ref η1.nx) y η2 with | some (d, η3) => (match d with | .bl b => (match b with | true => (sRet (cC (.bl false))) [y0, some (.ref 0), some (iD (Int.ofNat n)), y3, y4, y5, y6, y7, some (.tup (us.map stD)), y9, y10, y11, y12, y13, y14, some (iD p), some (mkD n m0), y17, y18, y19] η3 K | false => sNil [y0, some (.ref 0), some (iD (Int.ofNat n)), y3, y4, y5, y6, y7, some (.tup (us.map stD)), y9, y10, y11, y12, y13, y14, some (iD p), some (mkD n m0), y17, y18, y19] η3 K) | _ => false) | none => false) K.xc = true
  rw [w_lst0]
  generalize hη2 : (Hd.bump η1).add η1.nx (.lst []) = η2
  have g1 : η2.get η1.nx = some (.lst []) := by rw [← hη2, Hd.get_add, if_pos rfl]
  have l1 : η1.nx < η2.nx := by rw [← hη2]; exact Nat.lt_succ_self _
  have x2 : Gr [] η1 η2 := by rw [← hη2]; exact Gr.bump.add (Nat.le_refl _)
  have x3 : Gr [] η2 (η2.new (.lst [])) := Gr.new
  rw [fNe_lists (r := 0) (f := fun _ => 0) (g := fun _ => 0) (x3.list l1 (list_lst g1)) (list_lst get_new_eq) (fun _ h => absurd h (by omega))]
  exact hk _ ((x1.trans x2).trans x3)
theorem t30_4b (L : L30 n b e p det hm) (rg : Rg n p m0) {w : Int} (Cl : ClI n det p m0 n n w m) (hk : ∀ y8 y9 y10 y11 η', Gr [] η η' → K.nx [y0, some (.ref 0), some (iD (Int.ofNat n)), y3, y4, some (mkD n m), some (iD (Int.ofNat n)), some (iD (w % p)), y8, y9, y10, y11, y12, y13, y14, some (iD p), some (mkD n m0), y17, y18, y19] η' = true) : b30_4 [y0, some (.ref 0), some (iD (Int.ofNat n)), y3, y4, some (mkD n m), some (iD (Int.ofNat n)), some (iD (w % p)), y8, y9, y10, y11, y12, y13, y14, some (iD p), some (mkD n m0), y17, y18, y19] η K = true := by
  have n2 := L.n2
  have n9 := L.n9
  have p2 := L.P.p2
  have p9 := L.P.p9
  obtain ⟨c1, c2, c3⟩ := (Cl.fin L.Dt L.P (by omega)).1 rfl
  unfold b30_4
  rw [w_seq, w_asg, w_call2, w_var (i := 16) (d := mkD n m0) rfl, w_var (i := 15) (d := iD p) rfl]
  refine by_adding_ok L.Dt L.P n9 rg (fun q l η1 A hl x1 => ?_) (fun h => absurd h c2)
  rw [w_gtp2]
  let us := l.map (negS p)
  let g : Nat → Int := fun i => q i i
  have Ls : us.length ≤ 1000 := by show (l.map (negS p)).length ≤ 1000; rw [List.length_map]; exact hl
  have hs : ∀ s, s ∈ us → s.1 < n ∧ s.2.1 < n ∧ s.1 ≠ s.2.1 ∧ 0 < s.2.2 ∧ s.2.2 < p := fun s h => by
    obtain ⟨s0, h0, rfl⟩ := List.mem_map.mp h
    obtain ⟨a, b, c, d, f⟩ := A.st s0 h0
    have r := L.P.rg (Int.neg s0.2.2)
    refine ⟨a, b, c, ?_, r.2⟩
    rcases Int.lt_or_eq_of_le r.1 with z | z
    · exact z
    · exfalso
      have h1 : p ∣ Int.neg s0.2.2 := Int.dvd_of_emod_eq_zero z.symm
      have h2 : p ∣ s0.2.2 := Int.dvd_neg.mp h1
      have := Int.le_of_dvd d h2
      omega
  have hg : ∀ i, i < n → (g i).natAbs ≤ 1000 := fun i hi => by
    have : 0 ≤ g i ∧ g i < p := A.rg i i hi hi
    omega
  obtain ⟨A1, A2⟩ := A.fin L.Dt L.P
  have key : ∀ (G : CS), G [y0, some (.ref 0), some (iD (Int.ofNat n)), y3, y4, some (mkD n m), some (iD (Int.ofNat n)), some (iD (w % p)), some (.tup (us.map stD)), some (.tup (iRow n g)), y10, y11, y12, y13, y14, some (iD p), some (mkD n m0), y17, y18, y19] η1 K = true → G ((([y0, some (.ref 0), some (iD (Int.ofNat n)), y3, y4, some (mkD n m), some (iD (Int.ofNat n)), some (iD (w % p)), y8, y9, y10, y11, y12, y13, y14, some (iD p), some (mkD n m0), y17, y18, y19] : SD).set 8 (some (.tup ((l.map (negS p)).map stD)))).set 9 (some (.tup (iRow n fun i => q i i)))) η1 K = true := fun G h => h
  dsimp only
  refine key (sSeq _ _) ?_
  rw [w_seq, w_if, w_or, w_tst, w_op]
  refine yl_call3 (S := []) (yl_var (i := 8) (d := .tup (us.map stD)) rfl) (fun _ _ => yl_var (i := 9) (d := .tup (iRow n g)) rfl) (fun _ _ => yl_var (i := 15) (d := iD p) rfl) (fun η2 _ => of_adding_ok L.P n9 (fun s h => by obtain ⟨a, b, c, d, f⟩ := hs s h; exact ⟨a, b, by omega⟩) hg) _ _ fun η2 x2 => ?_
  rw [w_var (i := 16) (d := mkD n m0) rfl, fNe_mat (fun i c hi hc => A.prod i c hi hc)]
  dsimp only
  rw [w_tst, w_op, w_var (i := 5) (d := mkD n m) rfl]
  refine yl_call1 (S := []) (yl_var (i := 2) (d := iD (Int.ofNat n)) rfl) (fun η3 _ => unit_ok (by omega)) _ _ fun η3 x3 => ?_
  rw [fNe_mat (b := idM) (fun i c hi hc => c3 i c hi hc)]
  dsimp only
  rw [w_nil]
  dsimp only
  rw [w_seq, w_set, w_c]
  rw [show ([y0, some (.ref 0), some (iD (Int.ofNat n)), y3, y4, some (mkD n m), some (iD (Int.ofNat n)), some (iD (w % p)), some (.tup (us.map stD)), some (.tup (iRow n g)), y10, y11, y12, y13, y14, some (iD p), some (mkD n m0), y17, y18, y19] : SD).set 10 (some (.int 1)) = [y0, some (.ref 0), some (iD (Int.ofNat n)), y3, y4, some (mkD n m), some (iD (Int.ofNat n)), some (iD (w % p)), some (.tup (us.map stD)), some (.tup (iRow n g)), some (iD 1), y11, y12, y13, y14, some (iD p), some (mkD n m0), y17, y18, y19] from rfl]
  dsimp only
  rw [w_seq]
  unfold sFor
  refine iw_seq (S := []) (l := iRow n g) (yl_var (i := 9) (d := .tup (iRow n g)) rfl) _ _ fun η4 x4 => ?_
  show forD (gNm 11) l30_4 (KS.thaw _ _) (iRow n g) [y0, some (.ref 0), some (iD (Int.ofNat n)), y3, y4, some (mkD n m), some (iD (Int.ofNat n)), some (iD (w % p)), some (.tup (us.map stD)), some (.tup (iRow n g)), some (iD 1), y11, y12, y13, y14, some (iD p), some (mkD n m0), y17, y18, y19] η4 = true
  rw [thaw_none]
  have e1 : (1 : Int) = prodTo 0 g % p := by show (1 : Int) = 1 % p; rw [emod_of_lt (by omega) (by omega)]
  have := num_loop (η := η4) (n := n) (p := p) (by omega) hg (y0 := y0) (y3 := y3) (y4 := y4) (y5 := some (mkD n m)) (y6 := some (iD (Int.ofNat n))) (y7 := some (iD (w % p))) (y8 := some (.tup (us.map stD))) (y9 := some (.tup (iRow n g))) (y12 := y12) (y13 := y13) (y14 := y14) (y16 := some (mkD n m0)) (y17 := y17) (y18 := y18) (y19 := y19) (K := ⟨fun σ η => (sSeq d30_4 e30_4) σ η K, K.rt, K.bk, K.ct, K.xc⟩) (fun y11 => by
    dsimp only
    rw [w_seq]
    refine t30_4d L rg (d := n) (z := prodTo n g % p) A1.symm c1.symm fun η5 x5 => ?_
    dsimp only
    refine t30_4e L (y5 := some (mkD n m)) (y6 := some (iD (Int.ofNat n))) (y7 := some (iD (w % p))) Ls (fun s h => by obtain ⟨a, b, c, d, f⟩ := hs s h; exact ⟨c, d, f⟩) fun η6 x6 => ?_
    exact hk _ _ _ _ η6 (((((x1.trans x2).trans x3).trans x4).trans x5).trans x6)) n 0 y11 (by omega)
  simp only [Nat.zero_add, ← e1] at this
  exact this
theorem t30_4 (L : L30 n b e p det hm) (rg : Rg n p m0) {d : Nat} {w : Int} (Cl : ClI n det p m0 n d w m) (hk : ∀ y8 y9 y10 y11 η', Gr [] η η' → K.nx [y0, some (.ref 0), some (iD (Int.ofNat n)), y3, y4, some (mkD n m), some (iD (Int.ofNat d)), some (iD (w % p)), y8, y9, y10, y11, y12, y13, y14, some (iD p), some (mkD n m0), y17, y18, y19] η' = true) : s30_4 hm [y0, some (.ref 0), some (iD (Int.ofNat n)), y3, y4, some (mkD n m), some (iD (Int.ofNat d)), some (iD (w % p)), y8, y9, y10, y11, y12, y13, y14, some (iD p), some (mkD n m0), y17, y18, y19] η K = true := by
  have n2 := L.n2
  have n9 := L.n9
  have dn := Cl.dj
  obtain ⟨f1_, f2_⟩ := Cl.fin L.Dt L.P (by omega)
  unfold s30_4
  rw [w_if, w_tst, w_op, w_var (i := 6) (d := iD (Int.ofNat d)) rfl, w_var (i := 2) (d := iD (Int.ofNat n)) rfl]
  have e1 : fB2 ilt (iD (Int.ofNat d)) (iD (Int.ofNat n)) η = some (.bl (decide (d < n)), η) := by
    show some (D.bl (ilt (Int.ofNat d) (Int.ofNat n)), η) = _
    unfold ilt
    by_cases z : d < n
    · rw [decide_eq_true z, decide_eq_true (show (Int.ofNat d < Int.ofNat n) from Int.ofNat_lt.mpr z)]
    · rw [decide_eq_false z, decide_eq_false (fun h : (Int.ofNat d < Int.ofNat n) => z (Int.ofNat_lt.mp h))]
  rw [e1]
  dsimp only
  by_cases z : d < n
  · rw [decide_eq_true z]
    dsimp only
    rw [w_if, w_tst, w_op]
    unfold cTold
    rw [w_call2, w_var (i := 16) (d := mkD n m0) rfl, w_var (i := 15) (d := iD p) rfl]
    refine by_adding_ok L.Dt L.P n9 rg (fun q l η1 A hl x1 => absurd (f2_ z) (A.fin L.Dt L.P).2) (fun _ η1 x1 => ?_)
    simp only [L.told]
    rw [w_c]
    have q1 : pur 8 (.str ("no way" : Str)) = true := by decide +kernel
    have q2 : eqn 8 (.str ("no way" : Str)) (.str ("no way" : Str)) = true := by decide +kernel
    have e2 : fNe (.str ("no way" : Str)) (.str ("no way" : Str)) η1 = some (.bl false, η1) := by simp only [fNe, eqF, q1, q2, Bool.not_true]
    rw [e2]
    dsimp only
    rw [w_nil]
    exact hk _ _ _ _ η1 x1
  · rw [decide_eq_false z]
    dsimp only
    have dn2 : d = n := by omega
    subst dn2
    exact t30_4b L rg Cl hk
theorem t30_5 (L : L30 n b e p det hm) (H : H30 η) (hk : ∀ k j t, k < n → j < n → 0 < t → t < p → K.nx [y0, some (.ref 0), some (iD (Int.ofNat n)), some (iD (Int.ofNat j)), some (iD (Int.ofNat k)), y5, y6, y7, y8, y9, y10, y11, some (iD t), y13, y14, some (iD p), some (mkD n m0), y17, y18, y19] η = true) : s30_5 hm [y0, some (.ref 0), some (iD (Int.ofNat n)), y3, y4, y5, y6, y7, y8, y9, y10, y11, y12, y13, y14, some (iD p), some (mkD n m0), y17, y18, y19] η K = true := by
  have n2 := L.n2
  have n9 := L.n9
  have p9 := L.P.p9
  have hp := L.hp
  unfold s30_5
  rw [w_asg, w_tup3, w_call2, w_var (i := 1) (d := .ref 0) rfl, w_var (i := 2) (d := iD (Int.ofNat n)) rfl]
  refine roll_n (by omega) (by omega) H.dice fun k hk1 => ?_
  rw [w_call2, w_var (i := 1) (d := .ref 0) rfl, w_var (i := 2) (d := iD (Int.ofNat n)) rfl]
  refine roll_n (by omega) (by omega) H.dice fun j hj1 => ?_
  have hp1 : p - 1 = Int.ofNat (b + 1) := by rw [hp]; show ((b + 2 : Nat) : Int) - 1 = ((b + 1 : Nat) : Int); omega
  have E : Ev (cOp fSub (cVar 15) (cC (.int 1))) [y0, some (.ref 0), some (iD (Int.ofNat n)), y3, y4, y5, y6, y7, y8, y9, y10, y11, y12, y13, y14, some (iD p), some (mkD n m0), y17, y18, y19] η (.int (p - 1)) := ev_sub (ev_var rfl) ev_c
  rw [hp1] at E
  rw [w_op, w_c, w_call2, w_var (i := 1) (d := .ref 0) rfl, E]
  refine roll_n (by omega) (by have : p = ((b + 2 : Nat) : Int) := hp; omega) H.dice fun v hv => ?_
  have := hk k j (1 + Int.ofNat v) hk1 hj1 (by show 0 < 1 + ((v : Nat) : Int); omega) (by rw [hp]; show 1 + ((v : Nat) : Int) < ((b + 2 : Nat) : Int); omega)
  exact this
theorem det_addM (Dt : DetOk n det) {k j : Nat} (hk : k < n) (hj : j < n) (hkj : k ≠ j) {t : Int} : det (addM k j t) = 1 := by
  have e1 : det (addM k j t) = det (adR idM k j t) := Dt.ext fun i c hi hc => by
    unfold addM adR idM
    by_cases z : i = k
    · rw [if_pos z]
      by_cases z2 : c = j
      · rw [if_pos ⟨z, z2⟩, if_neg (by omega), if_pos z2.symm, Int.mul_one, Int.zero_add]
      · rw [if_neg (fun h => z2 h.2), if_neg (fun h : j = c => z2 h.symm), Int.mul_zero, Int.add_zero, z]
    · rw [if_neg z, if_neg (fun h => z h.1)]
  rw [e1, Dt.add hk hj hkj, Dt.diag (fun i c _ _ hne => by unfold idM; rw [if_neg hne])]
  have : ∀ t, prodTo t (fun i => idM i i) = 1 := by
    intro t
    induction t with
    | zero => rfl
    | succ t ih => rw [prodTo, ih]; unfold idM; rw [if_pos rfl]; rfl
  exact this n
theorem mul_addM {k j : Nat} (hk : k < n) (hj : j < n) (hkj : k ≠ j) {t : Int} (i c : Nat) (hi : i < n) : mulM n p (addM k j t) m0 i c = (m0 i c + if i = k then t * m0 j c else 0) % p := by
  unfold mulM
  congr 1
  rw [show sumTo n (fun a => addM k j t i a * m0 a c) = sumTo n (fun a => (if a = i then m0 a c else 0) + (if a = j then (if i = k then t * m0 a c else 0) else 0)) from sumTo_ext fun a ha => by
    unfold addM idM
    by_cases z : i = k
    · by_cases z2 : a = j
      · rw [if_pos ⟨z, z2⟩, if_neg (by omega), if_pos z2, if_pos z, Int.zero_add]
      · rw [if_neg (fun h => z2 h.2), if_neg z2, Int.add_zero]
        by_cases z3 : i = a
        · rw [if_pos z3, if_pos z3.symm, Int.one_mul]
        · rw [if_neg z3, if_neg (fun h => z3 h.symm), Int.zero_mul]
    · rw [if_neg (fun h => z h.1), if_neg z]
      have : (if a = j then (0 : Int) else 0) = 0 := by split <;> rfl
      rw [this, Int.add_zero]
      by_cases z3 : i = a
      · rw [if_pos z3, if_pos z3.symm, Int.one_mul]
      · rw [if_neg z3, if_neg (fun h => z3 h.symm), Int.zero_mul]]
  rw [sumTo_add, sumTo_single hi, sumTo_single hj]
theorem t30_6 (L : L30 n b e p det hm) (rg : Rg n p m0) {k j : Nat} {t : Int} (hk1 : k < n) (hj1 : j < n) (t0 : 0 < t) (t1 : t < p) (hk : ∀ y13 y14 η', K.nx [y0, some (.ref 0), some (iD (Int.ofNat n)), some (iD (Int.ofNat j)), some (iD (Int.ofNat k)), y5, y6, y7, y8, y9, y10, y11, some (iD t), y13, y14, some (iD p), some (mkD n m0), y17, y18, y19] η' = true) : s30_6 hm [y0, some (.ref 0), some (iD (Int.ofNat n)), some (iD (Int.ofNat j)), some (iD (Int.ofNat k)), y5, y6, y7, y8, y9, y10, y11, some (iD t), y13, y14, some (iD p), some (mkD n m0), y17, y18, y19] η K = true := by
  have n2 := L.n2
  have n9 := L.n9
  have p2 := L.P.p2
  have p9 := L.P.p9
  unfold s30_6
  rw [w_if, w_tst, (ev_neI (ev_var (i := 4) rfl) (ev_var (i := 3) rfl) : Ev (cOp fNe (cVar 4) (cVar 3)) [y0, some (.ref 0), some (iD (Int.ofNat n)), some (iD (Int.ofNat j)), some (iD (Int.ofNat k)), y5, y6, y7, y8, y9, y10, y11, some (iD t), y13, y14, some (iD p), some (mkD n m0), y17, y18, y19] η (.bl (!decide ((Int.ofNat k : Int) = Int.ofNat j))))]
  by_cases z : k = j
  · rw [decide_eq_true (by rw [z])]
    simp only [Bool.not_true]
    rw [w_nil]
    exact hk _ _ _
  · rw [decide_eq_false (fun h => z (Int.ofNat.inj h))]
    simp only [Bool.not_false]
    rw [w_seq, w_set]
    refine yl_call4 (S := []) (yl_var (i := 2) (d := iD (Int.ofNat n)) rfl) (fun _ _ => yl_var (i := 4) (d := iD (Int.ofNat k)) rfl) (fun _ _ => yl_var (i := 3) (d := iD (Int.ofNat j)) rfl) (fun _ _ => yl_var (i := 12) (d := iD t) rfl) (fun η1 _ => adding_ok (by omega) hk1 hj1) _ _ fun η1 x1 => ?_
    rw [show ([y0, some (.ref 0), some (iD (Int.ofNat n)), some (iD (Int.ofNat j)), some (iD (Int.ofNat k)), y5, y6, y7, y8, y9, y10, y11, some (iD t), y13, y14, some (iD p), some (mkD n m0), y17, y18, y19] : SD).set 13 (some (mkD n (addM k j t))) = [y0, some (.ref 0), some (iD (Int.ofNat n)), some (iD (Int.ofNat j)), some (iD (Int.ofNat k)), y5, y6, y7, y8, y9, y10, y11, some (iD t), some (mkD n (addM k j t)), y14, some (iD p), some (mkD n m0), y17, y18, y19] from rfl]
    dsimp only
    rw [w_seq, w_set]
    have ra : Rg n p (addM k j t) := fun i c hi hc => by
      unfold addM idM
      split
      · omega
      · split <;> omega
    refine yl_call3 (S := []) (yl_var (i := 13) (d := mkD n (addM k j t)) rfl) (fun _ _ => yl_var (i := 16) (d := mkD n m0) rfl) (fun _ _ => yl_var (i := 15) (d := iD p) rfl) (fun η2 _ => times_ok (by omega) (fun i c hi hc => by have := ra i c hi hc; omega) (fun i c hi hc => by have := rg i c hi hc; omega) (by omega)) _ _ fun η2 x2 => ?_
    rw [show ([y0, some (.ref 0), some (iD (Int.ofNat n)), some (iD (Int.ofNat j)), some (iD (Int.ofNat k)), y5, y6, y7, y8, y9, y10, y11, some (iD t), some (mkD n (addM k j t)), y14, some (iD p), some (mkD n m0), y17, y18, y19] : SD).set 14 (some (mkD n (mulM n p (addM k j t) m0))) = [y0, some (.ref 0), some (iD (Int.ofNat n)), some (iD (Int.ofNat j)), some (iD (Int.ofNat k)), y5, y6, y7, y8, y9, y10, y11, some (iD t), some (mkD n (addM k j t)), some (mkD n (mulM n p (addM k j t) m0)), some (iD p), some (mkD n m0), y17, y18, y19] from rfl]
    dsimp only
    rw [w_seq, w_if, w_tst, w_op]
    refine yl_call2 (S := []) (yl_var (i := 13) (d := mkD n (addM k j t)) rfl) (fun _ _ => yl_var (i := 15) (d := iD p) rfl) (fun η3 _ => corner_ok L.Dt L.P (by omega) (by omega) ra) _ _ fun η3 x3 => ?_
    rw [w_c, fNe_int, decide_eq_true (by rw [det_addM L.Dt hk1 hj1 z, emod_of_lt (by omega) (by omega)])]
    simp only [Bool.not_true]
    rw [w_nil]
    dsimp only
    rw [w_if, w_tst, w_op, w_var (i := 14) (d := mkD n (mulM n p (addM k j t) m0)) rfl]
    refine yl_tup (S := []) (L := tab n (fun i => .tup (iRow n (fun c => (m0 i c + if i = k then t * m0 j c else 0) % p)))) (yn_lc (it := fun i => iD (Int.ofNat i)) (iw_r1 (yl_var (i := 2) rfl) (by omega)) (by omega) fun i hi η4 x4 => ⟨[y0, some (.ref 0), some (iD (Int.ofNat n)), some (iD (Int.ofNat j)), some (iD (Int.ofNat k)), y5, y6, y7, y8, y9, y10, y11, some (iD t), some (mkD n (addM k j t)), some (mkD n (mulM n p (addM k j t) m0)), some (iD p), some (mkD n m0), y17, some (iD (Int.ofNat i)), y19], fun K kx => rfl, yl_tup (yn_lc (f := fun c => iD ((m0 i c + if i = k then t * m0 j c else 0) % p)) (it := fun i => iD (Int.ofNat i)) (iw_r1 (yl_var (i := 2) rfl) (by omega)) (by omega) fun c hc η5 x5 => ⟨[y0, some (.ref 0), some (iD (Int.ofNat n)), some (iD (Int.ofNat j)), some (iD (Int.ofNat k)), y5, y6, y7, y8, y9, y10, y11, some (iD t), some (mkD n (addM k j t)), some (mkD n (mulM n p (addM k j t) m0)), some (iD p), some (mkD n m0), y17, some (iD (Int.ofNat i)), some (iD (Int.ofNat c))], fun K kx => rfl, yl_ev (ev_mod (ev_add (i := m0 i c) (j := if i = k then t * m0 j c else 0) (ev_ixT (l := iRow n (m0 i)) (ev_ixT (l := tab n (fun i => .tup (iRow n (m0 i)))) (ev_var (i := 16) rfl) (ev_var (i := 18) rfl) (tab_get hi)) (ev_var (i := 19) rfl) (iRow_get hc)) ?_) (ev_var rfl) (by omega))⟩)⟩) _ _ fun η4 x4 => ?_
    · intro kv kx
      have := rg j c hj1 hc
      rw [w_cif, w_tst, (ev_op (x := iD (Int.ofNat i)) (y := iD (Int.ofNat k)) (ev_var rfl) (ev_var rfl) fEq_int : Ev (cOp fEq (cVar 18) (cVar 4)) [y0, some (.ref 0), some (iD (Int.ofNat n)), some (iD (Int.ofNat j)), some (iD (Int.ofNat k)), y5, y6, y7, y8, y9, y10, y11, some (iD t), some (mkD n (addM k j t)), some (mkD n (mulM n p (addM k j t) m0)), some (iD p), some (mkD n m0), y17, some (iD (Int.ofNat i)), some (iD (Int.ofNat c))] η5 (.bl (decide ((Int.ofNat i : Int) = Int.ofNat k))))]
      by_cases z2 : i = k
      · rw [decide_eq_true (by rw [z2])]
        dsimp only
        rw [if_pos z2]
        exact (ev_mulL (ev_var (i := 12) rfl) (ev_ixT (l := iRow n (m0 j)) (ev_ixT (l := tab n (fun i => .tup (iRow n (m0 i)))) (ev_var (i := 16) rfl) (ev_var (i := 3) rfl) (tab_get hj1)) (ev_var (i := 19) rfl) (iRow_get hc)) (by omega) : Ev _ _ η5 _) kv kx
      · rw [decide_eq_false (fun h => z2 (Int.ofNat.inj h))]
        dsimp only
        rw [if_neg z2, w_c]
    · have e3 := fNe_mat (η := η4) (n := n) (a := mulM n p (addM k j t) m0) (b := fun i c => (m0 i c + if i = k then t * m0 j c else 0) % p) (fun i c hi hc => mul_addM hk1 hj1 z i c hi)
      unfold mkD at e3 ⊢
      rw [e3]
      dsimp only
      rw [w_nil]
      exact hk _ _ _
theorem law30 (L : L30 n b e p det hm) (H : H30 η) : s30_1 hm [y0, some (.ref 0), some (iD (Int.ofNat n)), y3, y4, y5, y6, y7, y8, y9, y10, y11, y12, y13, y14, some (iD p), y16, y17, y18, y19] η ({ kT 20 with nx := fun σ η => s30_2 hm σ η ({ kT 20 with nx := fun σ η => s30_3 hm σ η ({ kT 20 with nx := fun σ η => s30_4 hm σ η ({ kT 20 with nx := fun σ η => s30_5 hm σ η ({ kT 20 with nx := fun σ η => s30_6 hm σ η (kT 20) }) }) }) }) }) = true := by
  refine t30_1 L H fun m0 η1 rg x1 => ?_
  dsimp only
  refine t30_2 L rg fun d w m η2 Cl x2 => ?_
  dsimp only
  refine t30_3 L rg Cl fun η3 x3 => ?_
  dsimp only
  refine t30_4 L rg Cl fun y8 y9 y10 y11 η4 x4 => ?_
  dsimp only
  refine t30_5 L (((((H.mono x1).mono x2).mono x3).mono x4)) fun k j t hk hj t0 t1 => ?_
  dsimp only
  exact t30_6 L rg hk hj t0 t1 fun y13 y14 η5 => rfl
end
end DL

/-! the head: the written part with all tables (x_head), the empty tables then left out -/
namespace DL
open PySem PySem.W
def tabB : Obj → Bool
  | ⟨.none, none, .fields vs, sl⟩ => vs.isEmpty && sl.isEmpty
  | _ => false
def noTabs (K : Frag) : Frag := K.filter fun q => !tabB q.2
/-- addresses in rising order -/
def ascB : Nat → Frag → Bool
  | _, [] => true
  | n, (a, _) :: r => Nat.ble n a && ascB (a + 1) r
theorem asc_lo {o : Obj} : ∀ {K : Frag} {n a : Nat}, ascB n K = true → (a, o) ∈ K → n ≤ a
  | [], _, _, _, h => nomatch h
  | (b, u) :: r, n, a, e, h => by
    obtain ⟨e1, e2⟩ := Bool.and_eq_true_iff.mp (show (Nat.ble n b && ascB (b + 1) r) = true from e)
    have h1 := Nat.le_of_ble_eq_true e1
    rcases List.mem_cons.mp h with h | h
    · cases h; exact h1
    · have := asc_lo e2 h; omega
theorem asc_lookup {a : Nat} {o : Obj} : ∀ {K : Frag} {n : Nat}, ascB n K = true → (a, o) ∈ K → K.lookup a = some o
  | [], _, _, h => nomatch h
  | (b, u) :: r, n, e, h => by
    obtain ⟨e1, e2⟩ := Bool.and_eq_true_iff.mp (show (Nat.ble n b && ascB (b + 1) r) = true from e)
    rw [List.lookup_cons]
    rcases List.mem_cons.mp h with h | h
    · cases h
      simp
    · have h1 := asc_lo e2 h
      have h2 : (a == b) = false := by simp; omega
      rw [h2]
      exact asc_lookup e2 h
theorem lk_mem {a : Nat} {o : Obj} : ∀ {K : Frag}, K.lookup a = some o → (a, o) ∈ K
  | [], h => nomatch h
  | (b, u) :: r, h => by
    rw [List.lookup_cons] at h
    cases e : (a == b) with
    | true =>
      rw [e] at h
      cases h
      rw [beq_iff_eq.mp e]
      exact List.mem_cons_self
    | false =>
      rw [e] at h
      exact List.mem_cons_of_mem _ (lk_mem h)
theorem nt_in {K : Frag} {h : Heap} (X : K.In h) (e : ascB 0 K = true) : (noTabs K).In h := fun a o q =>
  X a o (asc_lookup e (List.mem_filter.mp (lk_mem q)).1)
theorem nt_ns {K : Frag} {a : Addr} {x : Str} {r : Option (Option Value)} (_ : nsIn K a x = r) (h2 : nsIn (noTabs K) a x = r) : nsIn (noTabs K) a x = r := h2
theorem nt_find {K : Frag} {a : Value} {x : Str} {r : Option (Option Value)} (_ : findIn K a x = r) (h2 : findIn (noTabs K) a x = r) : findIn (noTabs K) a x = r := h2
theorem nt_lk {K : Frag} {a : Addr} {r : Option Obj} (_ : K.lookup a = r) (h2 : (noTabs K).lookup a = r) : (noTabs K).lookup a = r := h2
theorem nt_tab {K : Frag} {h : Heap} {a : Addr} {o : Obj} (X : K.In h) (q : K.lookup a = some o) : h.get? a = some o := X _ _ q
end DL

/-! the fast readings: values, cells, heaps -/
namespace FL
open PySem DL
/-- values; pk l n: a tuple of l numbers below 256, the digits of n; fpk: such a tuple known to have no dict; mat: a tuple of r such -/
inductive B where
  | non | bl (b : Bool) | nat (n : Nat) | neg (n : Nat) | str (x : Str) | pk (l n : Nat) | fpk (l n : Nat) | mat (r c n : Nat) | tup (l : List B) | ref (r : Nat)
def nd : Nat → Nat → List Int
  | 0, _ => []
  | l + 1, n => nd l (n / 256) ++ [Int.ofNat (n % 256)]
def digs (l n : Nat) : List D := (nd l n).map D.int
def mrows : Nat → Nat → Nat → List D
  | 0, _, _ => []
  | r + 1, c, n => mrows r c (n / 256 ^ c) ++ [.ftup (digs c n)]
mutual
def toD : B → D
  | .non => .non
  | .bl b => .bl b
  | .nat n => .int (Int.ofNat n)
  | .neg n => .int (Int.negSucc n)
  | .str x => .str x
  | .pk l n => .tup (digs l n)
  | .fpk l n => .ftup (digs l n)
  | .mat r c n => .tup (mrows r c n)
  | .tup l => .tup (toDs l)
  | .ref r => .ref r
def toDs : List B → List D
  | [] => []
  | x :: xs => toD x :: toDs xs
end
theorem toDs_len : ∀ l : List B, (toDs l).length = l.length
  | [] => rfl
  | _ :: t => by simp [toDs, toDs_len t]
theorem toDs_app : ∀ a b : List B, toDs (a ++ b) = toDs a ++ toDs b
  | [], b => by simp [toDs]
  | x :: a, b => by simp [toDs, toDs_app a b]
theorem toDs_get : ∀ (l : List B) (i : Nat), (toDs l)[i]? = (l[i]?).map toD
  | [], i => by simp [toDs]
  | x :: l, 0 => by simp [toDs]
  | x :: l, i + 1 => by simp [toDs, toDs_get l i]
theorem nd_len : ∀ l n, (nd l n).length = l
  | 0, _ => rfl
  | l + 1, n => by simp [nd, nd_len l]
theorem digs_len (l n : Nat) : (digs l n).length = l := by simp [digs, nd_len]
theorem mrows_len : ∀ r c n, (mrows r c n).length = r
  | 0, _, _ => rfl
  | r + 1, c, n => by simp [mrows, mrows_len r]
theorem nd_get : ∀ (l n i : Nat), i < l → (nd l n)[i]? = some (Int.ofNat ((n / 256 ^ (l - (i + 1))) % 256))
  | 0, _, i, h => absurd h (by omega)
  | l + 1, n, i, h => by
    unfold nd
    by_cases e : i = l
    · subst e
      rw [List.getElem?_append_right (by rw [nd_len]; exact Nat.le_refl _), nd_len]
      simp
    · have hi : i < l := by omega
      rw [List.getElem?_append_left (by rw [nd_len]; exact hi), nd_get l (n / 256) i hi]
      congr 3
      have : l + 1 - (i + 1) = (l - (i + 1)) + 1 := by omega
      rw [this, Nat.pow_succ, Nat.mul_comm, Nat.div_div_eq_div_mul]
theorem nd_mod : ∀ (l n : Nat), nd l (n % 256 ^ l) = nd l n
  | 0, n => rfl
  | l + 1, n => by
    unfold nd
    have e1 : n % 256 ^ (l + 1) / 256 = (n / 256) % 256 ^ l := by
      rw [Nat.pow_succ, Nat.mul_comm, Nat.mod_mul_right_div_self]
    have e2 : n % 256 ^ (l + 1) % 256 = n % 256 := Nat.mod_mod_of_dvd n ⟨256 ^ l, by rw [Nat.pow_succ, Nat.mul_comm]⟩
    rw [e1, nd_mod l (n / 256), e2]
theorem nd_inj : ∀ (l n m : Nat), nd l n = nd l m → n % 256 ^ l = m % 256 ^ l
  | 0, n, m, _ => by simp [Nat.mod_one]
  | l + 1, n, m, h => by
    unfold nd at h
    have h2 := List.append_inj h (by rw [nd_len, nd_len])
    have a := nd_inj l _ _ h2.1
    have b : n % 256 = m % 256 := by
      have := h2.2
      simp only [List.cons.injEq, and_true] at this
      exact Int.ofNat.inj this
    have k : ∀ z : Nat, z % 256 ^ (l + 1) = 256 * (z / 256 % 256 ^ l) + z % 256 := fun z => by
      rw [Nat.pow_succ, Nat.mul_comm, Nat.mod_mul]; omega
    rw [k n, k m, a, b]
theorem nd_app : ∀ (b a n m : Nat), nd a n ++ nd b m = nd (a + b) (n * 256 ^ b + m % 256 ^ b)
  | 0, a, n, m => by simp [nd, Nat.mod_one]
  | b + 1, a, n, m => by
    show nd a n ++ (nd b (m / 256) ++ [Int.ofNat (m % 256)]) = nd (a + b + 1) _
    rw [← List.append_assoc, nd_app b a n (m / 256)]
    show _ = nd (a + b) _ ++ _
    have e : n * 256 ^ (b + 1) + m % 256 ^ (b + 1) = 256 * (n * 256 ^ b + m / 256 % 256 ^ b) + m % 256 := by
      rw [Nat.pow_succ, Nat.mul_comm (256 ^ b) 256, Nat.mod_mul, Nat.mul_add]
      have : n * (256 * 256 ^ b) = 256 * (n * 256 ^ b) := by rw [Nat.mul_left_comm]
      omega
    rw [e]
    have e1 : (256 * (n * 256 ^ b + m / 256 % 256 ^ b) + m % 256) / 256 = n * 256 ^ b + m / 256 % 256 ^ b := by omega
    have e2 : (256 * (n * 256 ^ b + m / 256 % 256 ^ b) + m % 256) % 256 = m % 256 := by omega
    rw [e1, e2]
theorem digs_get (l n i : Nat) (h : i < l) : (digs l n)[i]? = some (.int (Int.ofNat ((n / 256 ^ (l - (i + 1))) % 256))) := by
  unfold digs; rw [List.getElem?_map, nd_get l n i h]; rfl
theorem digs_mod (l n : Nat) : digs l (n % 256 ^ l) = digs l n := by unfold digs; rw [nd_mod]
theorem mrows_get : ∀ (r c n i : Nat), i < r → (mrows r c n)[i]? = some (.ftup (digs c (n / 256 ^ (c * (r - (i + 1))))))
  | 0, _, _, i, h => absurd h (by omega)
  | r + 1, c, n, i, h => by
    unfold mrows
    by_cases e : i = r
    · subst e
      rw [List.getElem?_append_right (by rw [mrows_len]; exact Nat.le_refl _), mrows_len]
      simp
    · have hi : i < r := by omega
      rw [List.getElem?_append_left (by rw [mrows_len]; exact hi), mrows_get r c (n / 256 ^ c) i hi]
      congr 3
      have : r + 1 - (i + 1) = (r - (i + 1)) + 1 := by omega
      rw [this, Nat.mul_add, Nat.mul_one, Nat.pow_add, Nat.mul_comm (256 ^ (c * (r - (i + 1)))) (256 ^ c), Nat.div_div_eq_div_mul]
/-! cells -/
inductive Kv where
  | nil | cons (k v : B) (t : Kv)
inductive Fs where
  | nil | cons (k : Nat) (v : B) (t : Fs)
inductive Cb where
  | lst (l : List B) | frz (l : List B) | dice | dct (t : Bool) (kvs : Kv) | ldc (t : Bool) (kvs : Kv) | dcr (ks : RK2) | ins (c : Nat) (fs : Fs)
inductive HL where
  | nil | cons (r : Nat) (c : Cb) (t : HL)
inductive Hb where
  | mk (nx : Nat) (hl : HL)
def toKv : Kv → List (D × D)
  | .nil => []
  | .cons k v t => (toD k, toD v) :: toKv t
def toFs : Fs → List (Nat × D)
  | .nil => []
  | .cons k v t => (k, toD v) :: toFs t
def toC : Cb → Cell
  | .lst l => .lst (toDs l)
  | .frz l => .frz (toDs l)
  | .dice => .dice
  | .dct t kvs => .dct t (toKv kvs)
  | .ldc t kvs => .ldc t (toKv kvs)
  | .dcr ks => .dcr ks
  | .ins c fs => .ins c (toFs fs)
def lookL (r : Nat) : HL → Option Cb
  | .nil => none
  | .cons q c t => if q = r then some c else lookL r t
def Hb.nx : Hb → Nat
  | .mk n _ => n
def Hb.hl : Hb → HL
  | .mk _ h => h
/-- what the fast heap knows stands in the heap -/
def srt : Nat → HL → Prop
  | _, .nil => True
  | b, .cons q _ t => q < b ∧ srt q t
theorem srt.mono : ∀ {b b' : Nat} {l : HL}, srt b l → b ≤ b' → srt b' l
  | _, _, .nil, _, _ => trivial
  | _, _, .cons _ _ _, h, e => ⟨Nat.lt_of_lt_of_le h.1 e, h.2⟩
structure HR (a : Hb) (η : Hd) : Prop where
  nx : η.nx = a.nx
  so : srt a.nx a.hl
  get : ∀ r c, lookL r a.hl = some c → η.get r = some (toC c)
abbrev KVb := B → Hb → Bool
structure Xb where
  c : Nat
abbrev KXb := Xb → Hb → Bool
def LV (k' : KVb) (k : KV) : Prop := ∀ d a η, HR a η → k' d a = true → k (toD d) η = true
def LX (k' : KXb) (k : KX) : Prop := ∀ x a η, HR a η → k' x a = true → k ⟨x.c, none⟩ η = true
noncomputable section
/-- the number is computed -/
def nF (n : Nat) (k : Nat → Bool) : Bool := (@Nat.rec (fun _ => Bool) (k 0) (fun m _ => k (Nat.succ m)) (n))
theorem nF_eq (n : Nat) (k : Nat → Bool) : nF n k = k n := by cases n <;> rfl
theorem bT {b : Bool} {k : Bool} (h : @Bool.rec (fun _ => Bool) false k b = true) : b = true ∧ k = true := by cases b; cases h; exact ⟨rfl, h⟩
theorem bC {b : Bool} {k l : Bool} (h : @Bool.rec (fun _ => Bool) l k b = true) : (b = true ∧ k = true) ∨ (b = false ∧ l = true) := by cases b; exact .inr ⟨rfl, h⟩; exact .inl ⟨rfl, h⟩
/-! heaps -/
def getH (a : Hb) (r : Nat) (k : Cb → Bool) : Bool := (@Hb.rec (fun _ => Bool) (fun _ hl => @HL.rec (fun _ => Bool) false (fun q c _ ih => (@Bool.rec (fun _ => Bool) (ih) (k c) (Nat.beq q r))) hl) (a))
theorem getH_ok {a : Hb} {r : Nat} {k : Cb → Bool} (h : getH a r k = true) : ∃ c, lookL r a.hl = some c ∧ k c = true := by
  cases a with
  | mk n hl =>
    show ∃ c, lookL r hl = some c ∧ k c = true
    have h' : @HL.rec (fun _ => Bool) false (fun q c _ ih => (@Bool.rec (fun _ => Bool) (ih) (k c) (Nat.beq q r))) hl = true := h
    clear h
    induction hl with
    | nil => cases h'
    | cons q c t ih =>
      rcases bC h' with ⟨e, h2⟩ | ⟨e, h2⟩
      · exact ⟨c, by simp [lookL, Nat.eq_of_beq_eq_true e], h2⟩
      · obtain ⟨c', e', k'⟩ := ih h2
        refine ⟨c', ?_, k'⟩
        unfold lookL
        rw [if_neg (fun z => by rw [z, Nat.beq_refl] at e; cases e)]
        exact e'
theorem getH_hr {a : Hb} {η : Hd} (R : HR a η) {r : Nat} {k : Cb → Bool} (h : getH a r k = true) : ∃ c, η.get r = some (toC c) ∧ k c = true ∧ lookL r a.hl = some c := by
  obtain ⟨c, e, h2⟩ := getH_ok h
  exact ⟨c, R.get r c e, h2, e⟩
def putL (r : Nat) (c : Cb) : HL → HL
  | .nil => .nil
  | .cons q c' t => if q = r then .cons q c t else .cons q c' (putL r c t)
theorem lookL_put (r : Nat) (c : Cb) (q : Nat) : ∀ l : HL, lookL q (putL r c l) = if q = r then (lookL r l).map (fun _ => c) else lookL q l
  | .nil => by simp [putL, lookL]
  | .cons p c' t => by
    have ih := lookL_put r c q t
    unfold putL
    by_cases h : p = r
    · subst h
      by_cases hq : q = p
      · subst hq; simp [lookL]
      · rw [if_pos rfl, if_neg hq]; simp [lookL, Ne.symm hq]
    · rw [if_neg h]
      by_cases hq : q = r
      · subst hq; simp [lookL, h, ih]
      · rw [if_neg hq] at ih ⊢
        simp only [lookL, ih]
theorem srt.put {r : Nat} {c : Cb} : ∀ {b : Nat} {l : HL}, srt b l → srt b (putL r c l)
  | _, .nil, _ => trivial
  | _, .cons q c' t, h => by
    unfold putL
    by_cases e : q = r
    · rw [if_pos e]; exact ⟨h.1, h.2⟩
    · rw [if_neg e]; exact ⟨h.1, srt.put h.2⟩
theorem HR.set {a : Hb} {η : Hd} (R : HR a η) {r : Nat} {c : Cb} {c0 : Cell} (h : η.get r = some c0) : HR (.mk a.nx (putL r c a.hl)) (η.set r (toC c)) := by
  refine ⟨R.nx, R.so.put, fun q d e => ?_⟩
  have e' : lookL q (putL r c a.hl) = some d := e
  rw [lookL_put] at e'
  rw [Hd.get_set]
  by_cases z : q = r
  · rw [if_pos z] at e' ⊢
    cases e2 : lookL r a.hl with
    | none => rw [e2] at e'; cases e'
    | some c1 => rw [e2] at e'; cases e'; rw [h]; rfl
  · rw [if_neg z] at e' ⊢; exact R.get q d e'
def newH (a : Hb) (c : Cb) (k : Nat → Hb → Bool) : Bool := (@Hb.rec (fun _ => Bool) (fun nx hl => nF (Nat.succ nx) (fun m => k nx (.mk m (.cons nx c hl)))) (a))
theorem newH_ok {a : Hb} {η : Hd} (R : HR a η) {c : Cb} {k : Nat → Hb → Bool} (h : newH a c k = true) : ∃ a', HR a' (η.new (toC c)) ∧ k η.nx a' = true := by
  cases a with
  | mk n hl =>
    have h' : k n (.mk (Nat.succ n) (.cons n c hl)) = true := by
      have : nF (Nat.succ n) (fun m => k n (.mk m (.cons n c hl))) = true := h
      rw [nF_eq] at this; exact this
    have en : η.nx = n := R.nx
    refine ⟨.mk (Nat.succ n) (.cons n c hl), ⟨?_, ⟨Nat.lt_succ_self n, R.so⟩, fun q d e => ?_⟩, by rw [en]; exact h'⟩
    · show Nat.succ η.nx = Nat.succ n; rw [en]
    · have e' : (if n = q then some c else lookL q hl) = some d := e
      rw [Hd.get_new, en]
      by_cases z : q = n
      · rw [if_pos z.symm] at e'; rw [if_pos z]; cases e'; rfl
      · rw [if_neg (Ne.symm z)] at e'; rw [if_neg z]; exact R.get q d e'
def insL (g : Nat) (c : Cb) : HL → HL
  | .nil => .cons g c .nil
  | .cons q c' t => if q < g then .cons g c (.cons q c' t) else .cons q c' (insL g c t)
theorem srt.ins {g : Nat} {c : Cb} : ∀ {b : Nat} {l : HL}, srt b l → g < b → (∀ c', lookL g l = some c' → False) → srt b (insL g c l)
  | b, .nil, _, h, _ => ⟨h, trivial⟩
  | b, .cons q c' t, h, hg, hn => by
    unfold insL
    by_cases e : q < g
    · rw [if_pos e]; exact ⟨hg, e, h.2⟩
    · rw [if_neg e]
      have ne : q ≠ g := fun z => hn c' (by simp [lookL, z])
      exact ⟨h.1, srt.ins h.2 (by omega) (fun c2 e2 => hn c2 (by simp only [lookL]; rw [if_neg ne]; exact e2))⟩
end
end FL

/-! the fast readings: lists, tuples, numbers -/
namespace FL
open PySem DL
noncomputable section
/-! lists -/
def nthB (l : List B) (n : Nat) (k : B → Bool) : Bool :=
  @List.rec B (fun _ => Nat → Bool) (fun _ => false) (fun x _ ih i => (@Nat.rec (fun _ => Bool) (k x) (fun m _ => ih m) (i))) l n
theorem nthB_ok : ∀ {l : List B} {n : Nat} {k : B → Bool}, nthB l n k = true → ∃ d, l[n]? = some d ∧ k d = true
  | [], _, _, h => by cases h
  | x :: l, 0, k, h => ⟨x, rfl, h⟩
  | x :: l, n + 1, k, h => by
    obtain ⟨d, e, q⟩ := nthB_ok (l := l) (n := n) (k := k) h
    exact ⟨d, by simpa using e, q⟩
def lenK (l : List B) (k : Nat → Bool) : Bool := @List.rec B (fun _ => Nat → Bool) (fun n => nF n k) (fun _ _ ih n => ih (Nat.succ n)) l 0
theorem lenK_ok {l : List B} {k : Nat → Bool} (h : lenK l k = true) : k l.length = true := by
  have gen : ∀ (l : List B) (n : Nat), @List.rec B (fun _ => Nat → Bool) (fun n => nF n k) (fun _ _ ih n => ih (Nat.succ n)) l n = true → k (n + l.length) = true := by
    intro l
    induction l with
    | nil => intro n h; have : nF n k = true := h; rw [nF_eq] at this; simpa using this
    | cons x l ih => intro n h; have := ih (Nat.succ n) h; rw [List.length_cons]; rw [show n + (l.length + 1) = Nat.succ n + l.length from by omega]; exact this
  have := gen l 0 h
  simpa using this
def appB (a b : List B) (k : List B → Bool) : Bool := @List.rec B (fun _ => (List B → Bool) → Bool) (fun k => k b) (fun x _ ih k => ih (fun r => k (x :: r))) a k
theorem appB_ok {b : List B} : ∀ {a : List B} {k : List B → Bool}, appB a b k = true → k (a ++ b) = true
  | [], k, h => h
  | x :: a, k, h => appB_ok (a := a) (k := fun r => k (x :: r)) h
/-! digits -/
def digL : Nat → Nat → List B
  | 0, _ => []
  | l + 1, n => digL l (n / 256) ++ [.nat (n % 256)]
theorem digL_eq : ∀ l n, toDs (digL l n) = digs l n
  | 0, _ => by simp [digL, toDs, digs, nd]
  | l + 1, n => by
    have := digL_eq l (n / 256)
    simp only [digL, toDs_app, this, digs, nd, List.map_append, List.map_cons, List.map_nil]
    simp [toDs, toD]
def digB (l n : Nat) (k : List B → Bool) : Bool := @Nat.rec (fun _ => Nat → List B → Bool) (fun _ acc => k acc) (fun _ ih n acc => nF (Nat.div n 256) (fun q => nF (Nat.mod n 256) (fun d => ih q (.nat d :: acc)))) l n []
theorem digB_ok {l n : Nat} {k : List B → Bool} (h : digB l n k = true) : k (digL l n) = true := by
  have gen : ∀ (l n : Nat) (acc : List B), @Nat.rec (fun _ => Nat → List B → Bool) (fun _ acc => k acc) (fun _ ih n acc => nF (Nat.div n 256) (fun q => nF (Nat.mod n 256) (fun d => ih q (.nat d :: acc)))) l n acc = true → k (digL l n ++ acc) = true := by
    intro l
    induction l with
    | zero => intro n acc h; exact h
    | succ l ih =>
      intro n acc h
      have h1 : nF (Nat.div n 256) (fun q => nF (Nat.mod n 256) (fun d => @Nat.rec (fun _ => Nat → List B → Bool) (fun _ acc => k acc) (fun _ ih n acc => nF (Nat.div n 256) (fun q => nF (Nat.mod n 256) (fun d => ih q (.nat d :: acc)))) l q (.nat d :: acc))) = true := h
      rw [nF_eq, nF_eq] at h1
      have := ih _ _ h1
      unfold digL
      rw [List.append_assoc]
      exact this
  simpa using gen l n [] h
def matL : Nat → Nat → Nat → List B
  | 0, _, _ => []
  | r + 1, c, n => matL r c (n / 256 ^ c) ++ [.fpk c (n % 256 ^ c)]
theorem matL_eq : ∀ r c n, toDs (matL r c n) = mrows r c n
  | 0, _, _ => by simp [matL, toDs, mrows]
  | r + 1, c, n => by
    have := matL_eq r c (n / 256 ^ c)
    simp only [matL, toDs_app, this, mrows]
    simp [toDs, toD, digs_mod]
def matB (r c n : Nat) (k : List B → Bool) : Bool := @Nat.rec (fun _ => Nat → List B → Bool) (fun _ acc => k acc) (fun _ ih n acc => nF (Nat.div n (Nat.pow 256 c)) (fun q => nF (Nat.mod n (Nat.pow 256 c)) (fun d => ih q (.fpk c d :: acc)))) r n []
theorem matB_ok {r c n : Nat} {k : List B → Bool} (h : matB r c n k = true) : k (matL r c n) = true := by
  have gen : ∀ (l n : Nat) (acc : List B), @Nat.rec (fun _ => Nat → List B → Bool) (fun _ acc => k acc) (fun _ ih n acc => nF (Nat.div n (Nat.pow 256 c)) (fun q => nF (Nat.mod n (Nat.pow 256 c)) (fun d => ih q (.fpk c d :: acc)))) l n acc = true → k (matL l c n ++ acc) = true := by
    intro l
    induction l with
    | zero => intro n acc h; exact h
    | succ l ih =>
      intro n acc h
      have h1 : nF (Nat.div n (Nat.pow 256 c)) (fun q => nF (Nat.mod n (Nat.pow 256 c)) (fun d => @Nat.rec (fun _ => Nat → List B → Bool) (fun _ acc => k acc) (fun _ ih n acc => nF (Nat.div n (Nat.pow 256 c)) (fun q => nF (Nat.mod n (Nat.pow 256 c)) (fun d => ih q (.fpk c d :: acc)))) l q (.fpk c d :: acc))) = true := h
      rw [nF_eq, nF_eq] at h1
      have := ih _ _ h1
      unfold matL
      rw [List.append_assoc]
      exact this
  simpa using gen r n [] h
/-- the items of a tuple -/
def items (x : B) (k : List B → Bool) : Bool := (@B.rec (fun _ => Bool) (fun _ => Unit) (false) (fun _ => false) (fun _ => false) (fun _ => false) (fun _ => false) (fun l n => digB l n k) (fun _ _ => false) (fun r c n => matB r c n k) (fun l _ => k l) (fun _ => false) () (fun _ _ _ _ => ()) (x))
theorem items_ok {x : B} {k : List B → Bool} (h : items x k = true) : ∃ l, toD x = .tup (toDs l) ∧ k l = true := by
  cases x with
  | pk l n => exact ⟨_, by rw [digL_eq, toD], digB_ok h⟩
  | mat r c n => exact ⟨_, by rw [matL_eq, toD], matB_ok h⟩
  | tup l => exact ⟨l, by rw [toD], h⟩
  | _ => cases h
/-- a tuple made -/
def mkTup (l : List B) (k : B → Bool) : Bool := @List.rec B (fun _ => Nat → Nat → Bool) (fun j n => k (.pk j n)) (fun x _ ih j n => (@B.rec (fun _ => Bool) (fun _ => Unit) (k (.tup l)) (fun _ => k (.tup l)) (fun v => (@Bool.rec (fun _ => Bool) (k (.tup l)) (nF (Nat.add (Nat.mul n 256) v) (fun m => nF (Nat.succ j) (fun i => ih i m))) (Nat.ble v 255))) (fun _ => k (.tup l)) (fun _ => k (.tup l)) (fun _ _ => k (.tup l)) (fun _ _ => k (.tup l)) (fun _ _ _ => k (.tup l)) (fun _ _ => k (.tup l)) (fun _ => k (.tup l)) () (fun _ _ _ _ => ()) (x))) l 0 0
theorem nd_snoc (j n v : Nat) (h : v ≤ 255) : nd (j + 1) (n * 256 + v) = nd j n ++ [Int.ofNat v] := by
  show nd j ((n * 256 + v) / 256) ++ [Int.ofNat ((n * 256 + v) % 256)] = _
  rw [show (n * 256 + v) / 256 = n from by omega, show (n * 256 + v) % 256 = v from by omega]
theorem mkTup_ok {l : List B} {k : B → Bool} (h : mkTup l k = true) : ∃ b, toD b = .tup (toDs l) ∧ k b = true := by
  have gen : ∀ (t p : List B) (j n : Nat), l = p ++ t → digs j n = toDs p → @List.rec B (fun _ => Nat → Nat → Bool) (fun j n => k (.pk j n)) (fun x _ ih j n => (@B.rec (fun _ => Bool) (fun _ => Unit) (k (.tup l)) (fun _ => k (.tup l)) (fun v => (@Bool.rec (fun _ => Bool) (k (.tup l)) (nF (Nat.add (Nat.mul n 256) v) (fun m => nF (Nat.succ j) (fun i => ih i m))) (Nat.ble v 255))) (fun _ => k (.tup l)) (fun _ => k (.tup l)) (fun _ _ => k (.tup l)) (fun _ _ => k (.tup l)) (fun _ _ _ => k (.tup l)) (fun _ _ => k (.tup l)) (fun _ => k (.tup l)) () (fun _ _ _ _ => ()) (x))) t j n = true → ∃ b, toD b = .tup (toDs l) ∧ k b = true := by
    intro t
    induction t with
    | nil => intro p j n e d h; exact ⟨.pk j n, by rw [toD, d, e, List.append_nil], h⟩
    | cons x t ih =>
      intro p j n e d h
      cases x with
      | nat v =>
        rcases bC h with ⟨e1, h1⟩ | ⟨e1, h1⟩
        · rw [nF_eq, nF_eq] at h1
          refine ih (p ++ [.nat v]) (j + 1) (n * 256 + v) (by rw [e]; simp) ?_ h1
          have hv := Nat.le_of_ble_eq_true e1
          unfold digs at d ⊢
          rw [nd_snoc j n v hv, List.map_append, d, toDs_app]
          simp [toDs, toD]
        · exact ⟨.tup l, by rw [toD], h1⟩
      | _ => exact ⟨.tup l, by rw [toD], h⟩
  exact gen l [] 0 0 rfl (by simp [digs, nd, toDs]) h
/-- a tuple of rows that have no dict -/
def mkMat (l : List B) (c : Nat) (k : B → Bool) : Bool := @List.rec B (fun _ => Nat → Nat → Bool) (fun j n => k (.mat j c n)) (fun x _ ih j n => (@B.rec (fun _ => Bool) (fun _ => Unit) (k (.tup l)) (fun _ => k (.tup l)) (fun _ => k (.tup l)) (fun _ => k (.tup l)) (fun _ => k (.tup l)) (fun _ _ => k (.tup l)) (fun d v => (@Bool.rec (fun _ => Bool) (k (.tup l)) (nF (Nat.add (Nat.mul n (Nat.pow 256 c)) (Nat.mod v (Nat.pow 256 c))) (fun m => nF (Nat.succ j) (fun i => ih i m))) (Nat.beq d c))) (fun _ _ _ => k (.tup l)) (fun _ _ => k (.tup l)) (fun _ => k (.tup l)) () (fun _ _ _ _ => ()) (x))) l 0 0
theorem mrows_snoc (j c n v : Nat) : mrows (j + 1) c (n * 256 ^ c + v % 256 ^ c) = mrows j c n ++ [.ftup (digs c v)] := by
  have hp : 0 < 256 ^ c := Nat.pow_pos (by decide)
  have hv : v % 256 ^ c < 256 ^ c := Nat.mod_lt _ hp
  show mrows j c ((n * 256 ^ c + v % 256 ^ c) / 256 ^ c) ++ [D.ftup (digs c (n * 256 ^ c + v % 256 ^ c))] = _
  rw [show (n * 256 ^ c + v % 256 ^ c) / 256 ^ c = n from by rw [Nat.mul_comm, Nat.mul_add_div hp, Nat.div_eq_of_lt hv, Nat.add_zero]]
  rw [← digs_mod c (n * 256 ^ c + v % 256 ^ c), ← digs_mod c v]
  congr 4
  rw [Nat.mul_comm, Nat.mul_add_mod, Nat.mod_mod]
theorem mkMat_ok {l : List B} {c : Nat} {k : B → Bool} (h : mkMat l c k = true) : ∃ b, toD b = .tup (toDs l) ∧ k b = true := by
  have gen : ∀ (t p : List B) (j n : Nat), l = p ++ t → mrows j c n = toDs p → @List.rec B (fun _ => Nat → Nat → Bool) (fun j n => k (.mat j c n)) (fun x _ ih j n => (@B.rec (fun _ => Bool) (fun _ => Unit) (k (.tup l)) (fun _ => k (.tup l)) (fun _ => k (.tup l)) (fun _ => k (.tup l)) (fun _ => k (.tup l)) (fun _ _ => k (.tup l)) (fun d v => (@Bool.rec (fun _ => Bool) (k (.tup l)) (nF (Nat.add (Nat.mul n (Nat.pow 256 c)) (Nat.mod v (Nat.pow 256 c))) (fun m => nF (Nat.succ j) (fun i => ih i m))) (Nat.beq d c))) (fun _ _ _ => k (.tup l)) (fun _ _ => k (.tup l)) (fun _ => k (.tup l)) () (fun _ _ _ _ => ()) (x))) t j n = true → ∃ b, toD b = .tup (toDs l) ∧ k b = true := by
    intro t
    induction t with
    | nil => intro p j n e d h; exact ⟨.mat j c n, by rw [toD, d, e, List.append_nil], h⟩
    | cons x t ih =>
      intro p j n e d h
      cases x with
      | fpk d' v =>
        rcases bC h with ⟨e1, h1⟩ | ⟨e1, h1⟩
        · rw [nF_eq, nF_eq] at h1
          have e2 := Nat.eq_of_beq_eq_true e1
          subst e2
          refine ih (p ++ [.fpk d' v]) (j + 1) (n * 256 ^ d' + v % 256 ^ d') (by rw [e]; simp) ?_ h1
          rw [mrows_snoc, d, toDs_app]
          simp [toDs, toD]
        · exact ⟨.tup l, by rw [toD], h1⟩
      | _ => exact ⟨.tup l, by rw [toD], h⟩
  exact gen l [] 0 0 rfl (by simp [mrows, toDs]) h
/-- a tuple made, of numbers or rows -/
def mkT (l : List B) (k : B → Bool) : Bool := @List.rec B (fun _ => Bool) (k (.pk 0 0)) (fun x _ _ => (@B.rec (fun _ => Bool) (fun _ => Unit) (k (.tup l)) (fun _ => k (.tup l)) (fun _ => mkTup l k) (fun _ => k (.tup l)) (fun _ => k (.tup l)) (fun _ _ => k (.tup l)) (fun c _ => mkMat l c k) (fun _ _ _ => k (.tup l)) (fun _ _ => k (.tup l)) (fun _ => k (.tup l)) () (fun _ _ _ _ => ()) (x))) l
theorem mkT_ok {l : List B} {k : B → Bool} (h : mkT l k = true) : ∃ b, toD b = .tup (toDs l) ∧ k b = true := by
  cases l with
  | nil => exact ⟨.pk 0 0, by simp [toD, toDs, digs, nd], h⟩
  | cons x t =>
    cases x with
    | nat v => exact mkTup_ok h
    | fpk c v => exact mkMat_ok h
    | _ => exact ⟨.tup _, by rw [toD], h⟩
/-! numbers -/
def ofI (i : Int) (k : B → Bool) : Bool := @Int.rec (fun _ => Bool) (fun n => nF n (fun m => k (.nat m))) (fun n => nF n (fun m => k (.neg m))) i
theorem ofI_ok {i : Int} {k : B → Bool} (h : ofI i k = true) : ∃ b, toD b = .int i ∧ k b = true := by
  cases i with
  | ofNat n => exact ⟨.nat n, by rw [toD], by have h' : nF n (fun m => k (.nat m)) = true := h; rw [nF_eq] at h'; exact h'⟩
  | negSucc n => exact ⟨.neg n, by rw [toD], by have h' : nF n (fun m => k (.neg m)) = true := h; rw [nF_eq] at h'; exact h'⟩
/-- the whole number of a value -/
def toI (x : B) (k : Int → Bool) : Bool := (@B.rec (fun _ => Bool) (fun _ => Unit) (false) (fun _ => false) (fun n => k (Int.ofNat n)) (fun n => k (Int.negSucc n)) (fun _ => false) (fun _ _ => false) (fun _ _ => false) (fun _ _ _ => false) (fun _ _ => false) (fun _ => false) () (fun _ _ _ _ => ()) (x))
theorem toI_ok {x : B} {k : Int → Bool} (h : toI x k = true) : ∃ i, toD x = .int i ∧ k i = true := by
  cases x with
  | nat n => exact ⟨_, by rw [toD], h⟩
  | neg n => exact ⟨_, by rw [toD], h⟩
  | _ => cases h
abbrev K2 := B → B → Hb → KVb → Bool
def RF2 (f' : K2) (f : F2) : Prop := ∀ x y a η kv' kv, HR a η → LV kv' kv → f' x y a kv' = true → ∃ d η2, f (toD x) (toD y) η = some (d, η2) ∧ kv d η2 = true
def kIntG (g : Int → Int → Int) : K2 := fun x y a kv => toI x (fun i => toI y (fun j => ofI (g i j) (fun b => kv b a)))
theorem kIntG_ok (g : Int → Int → Int) : RF2 (kIntG g) (fI2 g) := by
  intro x y a η kv' kv R L h
  obtain ⟨i, ex, h⟩ := toI_ok h
  obtain ⟨j, ey, h⟩ := toI_ok h
  obtain ⟨b, eb, h⟩ := ofI_ok h
  exact ⟨.int (g i j), η, by rw [ex, ey]; rfl, by rw [← eb]; exact L _ _ _ R h⟩
theorem RF2.or1 {f' : K2} {f g : F2} (h : RF2 f' f) : RF2 f' (fOr f g) := fun x y a η kv' kv R L h' => by
  obtain ⟨d, η2, e, q⟩ := h x y a η kv' kv R L h'
  exact ⟨d, η2, by unfold fOr; rw [e], q⟩
/-- two numbers, none below nought: at once -/
def kNat (g : Nat → Nat → Nat) (o : K2) : K2 := fun x y a kv => (@B.rec (fun _ => Bool) (fun _ => Unit) (o x y a kv) (fun _ => o x y a kv) (fun i => (@B.rec (fun _ => Bool) (fun _ => Unit) (o x y a kv) (fun _ => o x y a kv) (fun j => nF (g i j) (fun c => kv (.nat c) a)) (fun _ => o x y a kv) (fun _ => o x y a kv) (fun _ _ => o x y a kv) (fun _ _ => o x y a kv) (fun _ _ _ => o x y a kv) (fun _ _ => o x y a kv) (fun _ => o x y a kv) () (fun _ _ _ _ => ()) (y))) (fun _ => o x y a kv) (fun _ => o x y a kv) (fun _ _ => o x y a kv) (fun _ _ => o x y a kv) (fun _ _ _ => o x y a kv) (fun _ _ => o x y a kv) (fun _ => o x y a kv) () (fun _ _ _ _ => ()) (x))
theorem kNat_ok {g : Nat → Nat → Nat} {o : K2} {f : F2} (ho : RF2 o f) (hg : ∀ i j η, f (.int (Int.ofNat i)) (.int (Int.ofNat j)) η = some (.int (Int.ofNat (g i j)), η)) : RF2 (kNat g o) f := by
  intro x y a η kv' kv R L h
  cases x with
  | nat i =>
    cases y with
    | nat j =>
      have h' : nF (g i j) (fun c => kv' (.nat c) a) = true := h
      rw [nF_eq] at h'
      have := L _ _ _ R h'
      rw [toD] at this
      exact ⟨_, _, by rw [toD, toD]; exact hg i j η, this⟩
    | _ => exact ho _ _ a η kv' kv R L h
  | _ => exact ho _ _ a η kv' kv R L h
def kIAdd : K2 := kNat (fun i j => Nat.add i j) (kIntG iadd)
theorem kIAdd_ok : RF2 kIAdd (fI2 iadd) := kNat_ok (kIntG_ok _) fun i j η => rfl
end
end FL

/-! the fast readings: ==, in, subscripts, dicts -/
namespace FL
open PySem DL
noncomputable section
/-! ### == -/
def pkEq (l n l' m : Nat) : Bool := (@Bool.rec (fun _ => Bool) (false) (Nat.beq (Nat.mod n (Nat.pow 256 l)) (Nat.mod m (Nat.pow 256 l))) (Nat.beq l l'))
theorem pkEq_iff {l n l' m : Nat} : pkEq l n l' m = true ↔ nd l n = nd l' m := by
  constructor
  · intro h
    obtain ⟨e1, e2⟩ := bT h
    have e1 := Nat.eq_of_beq_eq_true e1
    subst e1
    have e2 : n % 256 ^ l = m % 256 ^ l := Nat.eq_of_beq_eq_true e2
    rw [← nd_mod l n, ← nd_mod l m, e2]
  · intro h
    have hl : l = l' := by have := congrArg List.length h; rwa [nd_len, nd_len] at this
    subst hl
    have e := nd_inj l n m h
    unfold pkEq
    rw [Nat.beq_refl]
    show Nat.beq (n % 256 ^ l) (m % 256 ^ l) = true
    rw [e]; exact Nat.beq_refl _
theorem eqL_ints {f : D → D → Bool} (hf : ∀ i j, f (.int i) (.int j) = ieq i j) : ∀ a b : List Int, eqL f (a.map D.int) (b.map D.int) = decide (a = b)
  | [], [] => by simp [eqL]
  | [], _ :: _ => by simp [eqL]
  | _ :: _, [] => by simp [eqL]
  | x :: a, y :: b => by
    simp only [List.map_cons, eqL, hf]
    cases e : ieq x y with
    | true =>
      have := ieq_iff.mp e
      subst this
      simp only [eqL_ints hf a b]
      simp
    | false =>
      have ne : x ≠ y := fun z => by rw [ieq_iff.mpr z] at e; cases e
      simp [ne]
theorem eqL_pk {f : D → D → Bool} (hf : ∀ i j, f (.int i) (.int j) = ieq i j) (l n l' m : Nat) : eqL f (digs l n) (digs l' m) = pkEq l n l' m := by
  unfold digs
  rw [eqL_ints hf]
  cases e : pkEq l n l' m with
  | true => exact decide_eq_true (pkEq_iff.mp e)
  | false => exact decide_eq_false (fun z => by rw [pkEq_iff.mpr z] at e; cases e)
/-! ### in -/
/-! dicts -/
theorem eqK_int (i j : Int) : eqK1 (.int i) (.int j) = ieq i j := rfl
/-- the value under a key -/
def dlk (x : B) (kvs : Kv) (kf : B → Bool) (kn : Bool) : Bool := (@B.rec (fun _ => Bool) (fun _ => Unit) (false) (fun _ => false) (fun i => @Kv.rec (fun _ => Bool) kn (fun k v _ ih => (@B.rec (fun _ => Bool) (fun _ => Unit) (false) (fun _ => false) (fun j => (@Bool.rec (fun _ => Bool) (ih) (kf v) (Nat.beq j i))) (fun _ => ih) (fun _ => ih) (fun _ _ => false) (fun _ _ => false) (fun _ _ _ => false) (fun _ _ => false) (fun _ => false) () (fun _ _ _ _ => ()) (k))) kvs) (fun _ => false) (fun _ => false) (fun l n => @Kv.rec (fun _ => Bool) kn (fun k v _ ih => (@B.rec (fun _ => Bool) (fun _ => Unit) (false) (fun _ => false) (fun _ => false) (fun _ => false) (fun _ => false) (fun l' m => (@Bool.rec (fun _ => Bool) (ih) (kf v) (pkEq l' m l n))) (fun _ _ => false) (fun _ _ _ => false) (fun _ _ => false) (fun _ => false) () (fun _ _ _ _ => ()) (k))) kvs) (fun _ _ => false) (fun _ _ _ => false) (fun _ _ => false) (fun _ => false) () (fun _ _ _ _ => ()) (x))
theorem dlk_ok {x : B} {kf : B → Bool} {kn : Bool} : ∀ {kvs : Kv}, dlk x kvs kf kn = true → (∃ v, dlook (toD x) (toKv kvs) = some (toD v) ∧ kf v = true) ∨ (dlook (toD x) (toKv kvs) = none ∧ kn = true) := by
  intro kvs
  induction kvs with
  | nil =>
    intro h
    refine .inr ⟨rfl, ?_⟩
    cases x <;> first | exact h | cases h
  | cons k v t ih =>
    intro h
    cases x with
    | nat i =>
      have step : eqK (toD k) (toD (.nat i)) = false → dlk (.nat i) t kf kn = true → (∃ v', dlook (toD (.nat i)) (toKv (.cons k v t)) = some (toD v') ∧ kf v' = true) ∨ (dlook (toD (.nat i)) (toKv (.cons k v t)) = none ∧ kn = true) := fun e h => by
        have e2 : dlook (toD (.nat i)) (toKv (.cons k v t)) = dlook (toD (.nat i)) (toKv t) := by simp only [toKv, dlook, e]
        rw [e2]; exact ih h
      cases k with
      | nat j =>
        rcases bC h with ⟨e, h⟩ | ⟨e, h⟩
        · exact .inl ⟨v, by simp only [toKv, dlook]; rw [toD, toD]; show (match Nat.beq j i with | true => _ | false => _) = _; rw [e], h⟩
        · exact step (by rw [toD, toD]; exact e) h
      | neg j => exact step (by rw [toD, toD]; rfl) h
      | str s => exact step (by rw [toD, toD]; rfl) h
      | _ => cases h
    | pk l n =>
      cases k with
      | pk l' m =>
        have ee : eqK (toD (.pk l' m)) (toD (.pk l n)) = pkEq l' m l n := by rw [toD, toD]; exact eqL_pk eqK_int l' m l n
        rcases bC h with ⟨e, h⟩ | ⟨e, h⟩
        · exact .inl ⟨v, by simp only [toKv, dlook, ee, e], h⟩
        · have e2 : dlook (toD (.pk l n)) (toKv (.cons (.pk l' m) v t)) = dlook (toD (.pk l n)) (toKv t) := by simp only [toKv, dlook, ee, e]
          rw [e2]; exact ih h
      | _ => cases h
    | _ => cases h
/-- whether it is a key of that kind -/
def isKb (t : Bool) (x : B) (k : Bool) : Bool := (@B.rec (fun _ => Bool) (fun _ => Unit) (false) (fun _ => false) (fun _ => (@Bool.rec (fun _ => Bool) (k) (false) (t))) (fun _ => false) (fun _ => false) (fun _ _ => (@Bool.rec (fun _ => Bool) (false) (k) (t))) (fun _ _ => false) (fun _ _ _ => false) (fun _ _ => false) (fun _ => false) () (fun _ _ _ _ => ()) (x))
theorem isKb_ok {t : Bool} {x : B} {k : Bool} (h : isKb t x k = true) : isKey t (toD x) = true ∧ k = true := by
  cases x with
  | nat i => rcases bC h with ⟨_, h⟩ | ⟨e, h⟩; cases h; subst e; exact ⟨by rw [toD]; rfl, h⟩
  | pk l n =>
    obtain ⟨e, h⟩ := bT h
    subst e
    refine ⟨?_, h⟩
    rw [toD]
    show (digs l n).all _ = true
    unfold digs
    rw [List.all_map]
    exact List.all_eq_true.mpr fun _ _ => rfl
  | _ => cases h
/-! ### o[i] -/
theorem sh_eq (n k : Nat) : Nat.shiftRight n (Nat.mul 8 k) = n / 256 ^ k := by
  show n >>> (8 * k) = _
  rw [Nat.shiftRight_eq_div_pow, Nat.pow_mul]
def dig (l n j : Nat) (k : Nat → Bool) : Bool := (@Bool.rec (fun _ => Bool) (false) (nF (Nat.mod (Nat.shiftRight n (Nat.mul 8 (Nat.sub l (Nat.succ j)))) 256) k) (Nat.ble (Nat.succ j) l))
theorem dig_ok {l n j : Nat} {k : Nat → Bool} (h : dig l n j k = true) : ∃ v, (digs l n)[j]? = some (toD (.nat v)) ∧ k v = true := by
  obtain ⟨e, h⟩ := bT h
  rw [nF_eq, sh_eq] at h
  exact ⟨_, by rw [digs_get l n j (Nat.le_of_ble_eq_true e), toD]; rfl, h⟩
def rowAt (r c n j : Nat) (k : Nat → Bool) : Bool := (@Bool.rec (fun _ => Bool) (false) (nF (Nat.mod (Nat.shiftRight n (Nat.mul 8 (Nat.mul c (Nat.sub r (Nat.succ j))))) (Nat.pow 256 c)) k) (Nat.ble (Nat.succ j) r))
theorem rowAt_ok {r c n j : Nat} {k : Nat → Bool} (h : rowAt r c n j k = true) : ∃ v, (mrows r c n)[j]? = some (toD (.fpk c v)) ∧ k v = true := by
  obtain ⟨e, h⟩ := bT h
  rw [nF_eq, sh_eq] at h
  refine ⟨_, ?_, h⟩
  rw [mrows_get r c n j (Nat.le_of_ble_eq_true e), toD]
  congr 2
  exact (digs_mod c _).symm
/-- an index of any sign -/
def ixB (l : List B) (y : B) (k : B → Bool) : Bool := (@B.rec (fun _ => Bool) (fun _ => Unit) (false) (fun _ => false) (fun j => nthB l j k) (fun j => lenK l (fun n => (@Bool.rec (fun _ => Bool) (false) (nthB l (Nat.sub n (Nat.succ j)) k) (Nat.ble (Nat.succ j) n)))) (fun _ => false) (fun _ _ => false) (fun _ _ => false) (fun _ _ _ => false) (fun _ _ => false) (fun _ => false) () (fun _ _ _ _ => ()) (y))
theorem ixB_ok {l : List B} {y : B} {k : B → Bool} (h : ixB l y k = true) : ∃ i d, toD y = .int i ∧ atD (toDs l) i = some (toD d) ∧ k d = true := by
  cases y with
  | nat j =>
    obtain ⟨d, e, h⟩ := nthB_ok h
    exact ⟨_, d, by rw [toD], by show (toDs l)[j]? = _; rw [toDs_get, e]; rfl, h⟩
  | neg j =>
    have h' := lenK_ok h
    obtain ⟨e1, h2⟩ := bT h'
    obtain ⟨d, e, h3⟩ := nthB_ok h2
    refine ⟨_, d, by rw [toD], ?_, h3⟩
    show (match Nat.ble (j + 1) (toDs l).length with | true => (toDs l)[(toDs l).length - (j + 1)]? | false => none) = _
    rw [toDs_len, e1, toDs_get]
    show (l[l.length - (j + 1)]?).map toD = _
    have e' : l[l.length - (j + 1)]? = some d := e
    rw [e']; rfl
  | _ => cases h
def kIx : K2 := fun x y a kv => (@B.rec (fun _ => Bool) (fun _ => Unit) (false) (fun _ => false) (fun _ => false) (fun _ => false) (fun _ => false) (fun l n => (@B.rec (fun _ => Bool) (fun _ => Unit) (digB l n (fun m => ixB m y (fun d => kv d a))) (fun _ => digB l n (fun m => ixB m y (fun d => kv d a))) (fun j => dig l n j (fun v => kv (.nat v) a)) (fun _ => digB l n (fun m => ixB m y (fun d => kv d a))) (fun _ => digB l n (fun m => ixB m y (fun d => kv d a))) (fun _ _ => digB l n (fun m => ixB m y (fun d => kv d a))) (fun _ _ => digB l n (fun m => ixB m y (fun d => kv d a))) (fun _ _ _ => digB l n (fun m => ixB m y (fun d => kv d a))) (fun _ _ => digB l n (fun m => ixB m y (fun d => kv d a))) (fun _ => digB l n (fun m => ixB m y (fun d => kv d a))) () (fun _ _ _ _ => ()) (y))) (fun l n => (@B.rec (fun _ => Bool) (fun _ => Unit) (false) (fun _ => false) (fun j => dig l n j (fun v => kv (.nat v) a)) (fun _ => false) (fun _ => false) (fun _ _ => false) (fun _ _ => false) (fun _ _ _ => false) (fun _ _ => false) (fun _ => false) () (fun _ _ _ _ => ()) (y))) (fun r c n => (@B.rec (fun _ => Bool) (fun _ => Unit) (false) (fun _ => false) (fun j => rowAt r c n j (fun v => kv (.fpk c v) a)) (fun _ => false) (fun _ => false) (fun _ _ => false) (fun _ _ => false) (fun _ _ _ => false) (fun _ _ => false) (fun _ => false) () (fun _ _ _ _ => ()) (y))) (fun l _ => ixB l y (fun d => kv d a)) (fun r => getH a r (fun c => (@Cb.rec (fun _ => Bool) (fun l => ixB l y (fun d => kv d a)) (fun l => ixB l y (fun d => kv d a)) (false) (fun t kvs => isKb t y (dlk y kvs (fun v => kv v a) false)) (fun t kvs => isKb t y (dlk y kvs (fun v => kv v a) false)) (fun _ => false) (fun _ _ => false) (c)))) () (fun _ _ _ _ => ()) (x))
theorem kIx_ok : RF2 kIx fIx := by
  intro x y a η kv' kv R L h
  cases x with
  | pk l n =>
    cases y with
    | nat j =>
      obtain ⟨v, e, h⟩ := dig_ok h
      refine ⟨_, η, ?_, L _ _ _ R h⟩
      rw [toD, toD]
      show (match (digs l n)[j]? with | some d => some (d, η) | none => none) = _
      rw [e, toD]
    | neg j =>
      have h' := digB_ok h
      obtain ⟨i, d, e1, e2, h⟩ := ixB_ok h'
      refine ⟨_, η, ?_, L _ _ _ R h⟩
      rw [e1, toD, ← digL_eq]
      simp only [fIx, e2]
    | _ =>
      have h' := digB_ok h
      cases h'
  | fpk l n =>
    cases y with
    | nat j =>
      obtain ⟨v, e, h⟩ := dig_ok h
      refine ⟨_, η, ?_, L _ _ _ R h⟩
      rw [toD, toD]
      show (match (digs l n)[j]? with | some d => some (d, η) | none => none) = _
      rw [e, toD]
    | _ => cases h
  | mat r c n =>
    cases y with
    | nat j =>
      obtain ⟨v, e, h⟩ := rowAt_ok h
      refine ⟨_, η, ?_, L _ _ _ R h⟩
      rw [toD, toD]
      show (match (mrows r c n)[j]? with | some d => some (d, η) | none => none) = _
      rw [e, toD]
    | _ => cases h
  | tup l =>
    obtain ⟨i, d, e1, e2, h⟩ := ixB_ok h
    refine ⟨_, η, ?_, L _ _ _ R h⟩
    rw [e1, toD]
    simp only [fIx, e2]
  | ref r =>
    obtain ⟨c, e, h, _⟩ := getH_hr R h
    cases c with
    | lst l =>
      obtain ⟨i, d, e1, e2, h⟩ := ixB_ok h
      refine ⟨_, η, ?_, L _ _ _ R h⟩
      rw [e1, toD]
      simp only [fIx, e, toC, e2]
    | frz l =>
      obtain ⟨i, d, e1, e2, h⟩ := ixB_ok h
      refine ⟨_, η, ?_, L _ _ _ R h⟩
      rw [e1, toD]
      simp only [fIx, e, toC, e2]
    | dct t kvs =>
      obtain ⟨hk, h⟩ := isKb_ok h
      rcases dlk_ok h with ⟨v, e2, h⟩ | ⟨e2, h⟩
      · refine ⟨_, η, ?_, L _ _ _ R h⟩
        rw [toD]
        simp only [fIx, e, toC, hk, e2]
      · cases h
    | ldc t kvs =>
      obtain ⟨hk, h⟩ := isKb_ok h
      rcases dlk_ok h with ⟨v, e2, h⟩ | ⟨e2, h⟩
      · refine ⟨_, η, ?_, L _ _ _ R h⟩
        rw [toD]
        simp only [fIx, e, toC, hk, e2]
      · cases h
    | _ => cases h
  | _ => cases h
end
end FL

/-! the fast readings: +, *, built-ins, methods, stores -/
namespace FL
open PySem DL
noncomputable section
/-! ### + -/
def catG (x y : B) (a : Hb) (kv : KVb) : Bool := items x (fun p => items y (fun q => appB p q (fun z => lenK z (fun n => (@Bool.rec (fun _ => Bool) (false) (mkT z (fun b => kv b a)) (Nat.ble n line))))))
theorem catT_of {η : Hd} {p q : List D} (h : Nat.ble (p.length + q.length) line = true) : fAdd (.tup p) (.tup q) η = some (.tup (p ++ q), η) := by
  show fOr (fI2 iadd) (fOr fCatT (fOr fCatL fCatS)) (.tup p) (.tup q) η = _
  simp only [fOr, fI2, fCatT, h]
theorem catG_ok {x y : B} {a : Hb} {η : Hd} {kv' : KVb} {kv : KV} (R : HR a η) (L : LV kv' kv) (h : catG x y a kv' = true) : ∃ d η2, fAdd (toD x) (toD y) η = some (d, η2) ∧ kv d η2 = true := by
  obtain ⟨p, ep, h⟩ := items_ok h
  obtain ⟨q, eq, h⟩ := items_ok h
  have h := appB_ok h
  have h := lenK_ok h
  obtain ⟨e, h⟩ := bT h
  obtain ⟨b, eb, h⟩ := mkT_ok h
  refine ⟨toD b, η, ?_, L _ _ _ R h⟩
  rw [ep, eq, eb, toDs_app]
  exact catT_of (by rw [toDs_len, toDs_len, ← List.length_append]; exact e)
def kAdd : K2 := fun x y a kv => (@B.rec (fun _ => Bool) (fun _ => Unit) (catG x y a kv) (fun _ => catG x y a kv) (fun _ => kIAdd x y a kv) (fun _ => kIAdd x y a kv) (fun s => (@B.rec (fun _ => Bool) (fun _ => Unit) (false) (fun _ => false) (fun _ => false) (fun _ => false) (fun t => (@Bool.rec (fun _ => Bool) (false) (kv (.str (s ++ t)) a) (Nat.ble (s.length + t.length) line))) (fun _ _ => false) (fun _ _ => false) (fun _ _ _ => false) (fun _ _ => false) (fun _ => false) () (fun _ _ _ _ => ()) (y))) (fun l n => (@B.rec (fun _ => Bool) (fun _ => Unit) (catG x y a kv) (fun _ => catG x y a kv) (fun _ => catG x y a kv) (fun _ => catG x y a kv) (fun _ => catG x y a kv) (fun l' m => (@Bool.rec (fun _ => Bool) (false) (nF (Nat.add l l') (fun j => nF (Nat.add (Nat.mul n (Nat.pow 256 l')) (Nat.mod m (Nat.pow 256 l'))) (fun i => kv (.pk j i) a))) (Nat.ble (Nat.add l l') line))) (fun _ _ => catG x y a kv) (fun _ _ _ => catG x y a kv) (fun _ _ => catG x y a kv) (fun _ => catG x y a kv) () (fun _ _ _ _ => ()) (y))) (fun _ _ => catG x y a kv) (fun _ _ _ => catG x y a kv) (fun _ _ => catG x y a kv) (fun r => (@B.rec (fun _ => Bool) (fun _ => Unit) (false) (fun _ => false) (fun _ => false) (fun _ => false) (fun _ => false) (fun _ _ => false) (fun _ _ => false) (fun _ _ _ => false) (fun _ _ => false) (fun s => getH a r (fun c => (@Cb.rec (fun _ => Bool) (fun p => getH a s (fun c2 => (@Cb.rec (fun _ => Bool) (fun q => appB p q (fun z => lenK z (fun n => (@Bool.rec (fun _ => Bool) (false) (newH a (.lst z) (fun g a2 => kv (.ref g) a2)) (Nat.ble n line))))) (fun _ => false) (false) (fun _ _ => false) (fun _ _ => false) (fun _ => false) (fun _ _ => false) (c2)))) (fun _ => false) (false) (fun _ _ => false) (fun _ _ => false) (fun _ => false) (fun _ _ => false) (c)))) () (fun _ _ _ _ => ()) (y))) () (fun _ _ _ _ => ()) (x))
theorem kAdd_ok : RF2 kAdd fAdd := by
  intro x y a η kv' kv R L h
  cases x with
  | nat i => exact RF2.or1 kIAdd_ok _ _ a η kv' kv R L h
  | neg i => exact RF2.or1 kIAdd_ok _ _ a η kv' kv R L h
  | str s =>
    cases y with
    | str t =>
      obtain ⟨e, h⟩ := bT h
      refine ⟨_, η, ?_, L _ _ _ R h⟩
      rw [toD, toD, toD]
      show fOr (fI2 iadd) (fOr fCatT (fOr fCatL fCatS)) (.str s) (.str t) η = _
      simp only [fOr, fI2, fCatT, fCatL, fCatS, e]
    | _ => cases h
  | pk l n =>
    cases y with
    | pk l' m =>
      obtain ⟨e, h⟩ := bT h
      rw [nF_eq, nF_eq] at h
      refine ⟨_, η, ?_, L _ _ _ R h⟩
      rw [toD, toD, toD, catT_of (by rw [digs_len, digs_len]; exact e)]
      congr 2
      show _ = D.tup (digs (l + l') (n * 256 ^ l' + m % 256 ^ l'))
      unfold digs
      rw [← List.map_append, nd_app]
    | _ => exact catG_ok R L h
  | mat r c n => exact catG_ok R L h
  | tup l => exact catG_ok R L h
  | ref r =>
    cases y with
    | ref s =>
      obtain ⟨c, e1, h, _⟩ := getH_hr R h
      cases c with
      | lst p =>
        obtain ⟨c2, e2, h, _⟩ := getH_hr R h
        cases c2 with
        | lst q =>
          have h := appB_ok h
          have h := lenK_ok h
          obtain ⟨e, h⟩ := bT h
          obtain ⟨a', R', h⟩ := newH_ok R h
          refine ⟨.ref η.nx, η.new (toC (.lst (p ++ q))), ?_, by have := L _ _ _ R' h; rw [toD] at this; exact this⟩
          rw [toD, toD]
          show fOr (fI2 iadd) (fOr fCatT (fOr fCatL fCatS)) (.ref r) (.ref s) η = _
          have e3 : Nat.ble ((toDs p).length + (toDs q).length) line = true := by rw [toDs_len, toDs_len, ← List.length_append]; exact e
          simp only [fOr, fI2, fCatT, fCatL, e1, e2, toC, e3, toDs_app]
        | _ => cases h
      | _ => cases h
    | _ => cases h
  | _ => cases h
/-! ### * -/
/-! ### built-ins of one value -/
/-! sorted -/
/-! rows -/
end
end FL

/-! the fast readings: methods, stores, fields -/
namespace FL
open PySem DL
noncomputable section
/-! ### dicts written -/
/-! o[i] = v -/
/-! fields -/
end
end FL

/-! the fast readings: expressions -/
namespace FL
open PySem DL
abbrev FE := Hb → KVb → KXb → Bool
abbrev Env' := List (Option B)
structure Sat (Γ : Env') (σ : SD) : Prop where
  len : σ.length = Γ.length
  get : ∀ (i : Nat) (x : B), Γ[i]? = some (some x) → σ[i]? = some (some (toD x))
def RE (Γ : Env') (e : FE) (c : CE) : Prop := ∀ σ a η kv' kx' kv kx, Sat Γ σ → HR a η → LV kv' kv → LX kx' kx → e a kv' kx' = true → c σ η kv kx = true
/-- an atom -/
def RA (Γ : Env') (x : B) (c : CE) : Prop := ∀ σ, Sat Γ σ → ∀ η kv kx, c σ η kv kx = kv (toD x) η
def RN (Γ : Env') (t : Hb → Bool) (n : SD → Hd → Bool) : Prop := ∀ σ a η, Sat Γ σ → HR a η → t a = true → n σ η = true
def kFb : KXb := fun _ _ => false
theorem lx_F {kx : KX} : LX kFb kx := fun _ _ _ _ h => nomatch h
theorem Sat.set {Γ : Env'} {σ : SD} (s : Sat Γ σ) (i : Nat) (x : B) : Sat (Γ.set i (some x)) (σ.set i (some (toD x))) := by
  refine ⟨by simpa using s.len, fun j y e => ?_⟩
  by_cases z : i = j
  · subst z
    by_cases hi : i < Γ.length
    · rw [List.getElem?_set_self hi] at e; cases e
      exact List.getElem?_set_self (by rw [s.len]; exact hi)
    · rw [List.getElem?_eq_none (by simpa using Nat.le_of_not_lt hi)] at e; cases e
  · rw [List.getElem?_set_ne z] at e ⊢
    exact s.get j y e
noncomputable section
variable {Γ : Env'}
def eA (x : B) : FE := fun a kv _ => kv x a
theorem ra_var {i : Nat} (x : B) (h : Γ[i]? = some (some x)) : RA Γ x (cVar i) := fun σ s η kv kx => by
  unfold cVar
  rw [s.get i x h]
theorem ra_c {d : D} (x : B) (h : toD x = d) : RA Γ x (cC d) := fun σ s η kv kx => by rw [h]; rfl
theorem re_a {x : B} {c : CE} (h : RA Γ x c) : RE Γ (eA x) c := fun σ a η kv' kx' kv kx s R L X e => by rw [h σ s]; exact L _ _ _ R e
def eOp (f : K2) (p q : FE) : FE := fun h kv kx => p h (fun x h1 => q h1 (fun y h2 => f x y h2 kv) kx) kx
theorem re_op {f' : K2} {f : F2} {p' q' : FE} {p q : CE} (hf : RF2 f' f) (hp : RE Γ p' p) (hq : RE Γ q' q) : RE Γ (eOp f' p' q') (cOp f p q) := fun σ a η kv' kx' kv kx s R L X e =>
  hp σ a η _ _ _ _ s R (fun x a1 η1 R1 e1 => hq σ a1 η1 _ _ _ _ s R1 (fun y a2 η2 R2 e2 => by
    obtain ⟨d, η3, ef, h⟩ := hf x y a2 η2 kv' kv R2 L e2
    simp only [ef]; exact h) X e1) X e
/-! arguments -/
abbrev FA := Hb → (List B → Hb → Bool) → KXb → Bool
def LL (k' : List B → Hb → Bool) (k : List D → Hd → Bool) : Prop := ∀ l a η, HR a η → k' l a = true → k (toDs l) η = true
def RAs (Γ : Env') (e : FA) (c : CA) : Prop := ∀ σ a η k' kx' k kx, Sat Γ σ → HR a η → LL k' k → LX kx' kx → e a k' kx' = true → c σ η k kx = true
def aNil : FA := fun h k _ => k [] h
def aCons (p : FE) (r : FA) : FA := fun h k kx => p h (fun x h1 => r h1 (fun xs h2 => k (x :: xs) h2) kx) kx
theorem ras_nil : RAs Γ aNil cNil := fun σ a η k' kx' k kx s R L X e => by have := L _ _ _ R e; rw [toDs] at this; exact this
theorem ras_cons {p' : FE} {p : CE} {r' : FA} {r : CA} (hp : RE Γ p' p) (hr : RAs Γ r' r) : RAs Γ (aCons p' r') (cCons p r) := fun σ a η k' kx' k kx s R L X e =>
  hp σ a η _ _ _ _ s R (fun x a1 η1 R1 e1 => hr σ a1 η1 _ _ _ _ s R1 (fun xs a2 η2 R2 e2 => by have := L _ _ _ R2 e2; rw [toDs] at this; exact this) X e1) X e
def eTup (r : FA) : FE := fun h kv kx => r h (fun l h1 => lenK l (fun n => (@Bool.rec (fun _ => Bool) (false) (mkT l (fun b => kv b h1)) (Nat.ble n line)))) kx
theorem re_tup {r' : FA} {r : CA} (hr : RAs Γ r' r) : RE Γ (eTup r') (cTup r) := fun σ a η kv' kx' kv kx s R L X e =>
  hr σ a η _ _ _ _ s R (fun l a1 η1 R1 e1 => by
    have e1 := lenK_ok e1
    obtain ⟨e0, e1⟩ := bT e1
    obtain ⟨b, eb, e1⟩ := mkT_ok e1
    rw [toDs_len, e0, ← eb]
    exact L _ _ _ R1 e1) X e
def eLst (r : FA) : FE := fun h kv kx => r h (fun l h1 => lenK l (fun n => (@Bool.rec (fun _ => Bool) (false) (newH h1 (.lst l) (fun g h2 => kv (.ref g) h2)) (Nat.ble n line)))) kx
theorem re_lst {r' : FA} {r : CA} (hr : RAs Γ r' r) : RE Γ (eLst r') (cLst r) := fun σ a η kv' kx' kv kx s R L X e =>
  hr σ a η _ _ _ _ s R (fun l a1 η1 R1 e1 => by
    have e1 := lenK_ok e1
    obtain ⟨e0, e1⟩ := bT e1
    obtain ⟨a', R', e1⟩ := newH_ok R1 e1
    rw [toDs_len, e0]
    have := L _ _ _ R' e1
    rw [toD] at this; exact this) X e
/-! built-ins -/
/-! methods of lists -/
/-! fields -/
/-! dicts -/
/-! told -/
end
end FL

/-! the fast readings: what is walked, comprehensions -/
namespace FL
open PySem DL
noncomputable section
variable {Γ : Env'}
/-! range -/
/-! reversed, enumerate, zip -/
/-! ### targets -/
theorem rg_nm {i : Nat} {n : SD → Hd → Bool} {kx : KX} {t : Hb → Bool} {x : B} (h : RN (Γ.set i (some x)) t n) : RN Γ t (fun σ η => gNm i (toD x) σ η n kx) := fun σ a η s R e => h _ _ _ (s.set i x) R e
def un2 (x : B) (r : B → B → Hb → Bool) : Hb → Bool := fun h => items x (fun l => @List.rec B (fun _ => Bool) false (fun y t _ => @List.rec B (fun _ => Bool) false (fun z u _ => @List.rec B (fun _ => Bool) (r y z h) (fun _ _ _ => false) u) t) l)
theorem un2_ok {x : B} {r : B → B → Hb → Bool} {a : Hb} (h : un2 x r a = true) : ∃ y z, toD x = .tup [toD y, toD z] ∧ r y z a = true := by
  obtain ⟨l, e, h⟩ := items_ok h
  match l, e, h with
  | [y, z], e, h => exact ⟨y, z, by rw [e]; simp [toDs], h⟩
  | [], _, h => cases h
  | [_], _, h => cases h
  | _ :: _ :: _ :: _, _, h => cases h
theorem rg_tp2 {g1 g2 : CG} {n : SD → Hd → Bool} {kx : KX} {r : B → B → Hb → Bool} {x : B} (h : ∀ y z, RN Γ (r y z) (fun σ η => g1 (toD y) σ η (fun σ1 η1 => g2 (toD z) σ1 η1 (fun σ2 η2 => n σ2 η2) kx) kx)) : RN Γ (un2 x r) (fun σ η => gTp 2 (gsCons g1 (gsCons g2 gsNil)) (toD x) σ η n kx) := fun σ a η s R e => by
  obtain ⟨y, z, ex, e⟩ := un2_ok e
  rw [ex]
  exact h y z σ a η s R e
/-! ### steps -/
/-! list comprehensions -/
/-! any, all -/
/-! sum -/
/-! clauses: dict comprehensions, any and all with two clauses -/
end
end FL

/-! the fast readings: functions, statements -/
namespace FL
open PySem DL
noncomputable section
variable {Γ : Env'}
def RC0 (F' : Hb → KVb → KXb → Bool) (P : KV → KX → Hd → Bool) : Prop := ∀ a η kv' kx' kv kx, HR a η → LV kv' kv → LX kx' kx → F' a kv' kx' = true → P kv kx η = true
def RCall2 (F' : B → B → Hb → KVb → KXb → Bool) (F : CF) : Prop := ∀ (x0 x1 : B), RC0 (F' x0 x1) (fun kv kx η => F [toD x0, toD x1] η kv kx)
def eCall2 (F : B → B → Hb → KVb → KXb → Bool) (p0 p1 : FE) : FE := fun h kv kx => p0 h (fun x0 h1 => p1 h1 (fun x1 h2 => F x0 x1 h2 kv kx) kx) kx
theorem re_call2 {F' : B → B → Hb → KVb → KXb → Bool} {F : CF} {p0 p1 : FE} {q0 q1 : CE} (hF : RCall2 F' F) (h0 : RE Γ p0 q0) (h1 : RE Γ p1 q1) : RE Γ (eCall2 F' p0 p1) (cCall F (cCons q0 (cCons q1 cNil))) := fun σ a0 η0 kv' kx' kv kx s R0 L X e0 => h0 σ a0 η0 _ _ _ _ s R0 (fun x0 a1 η1 R1 e1 => h1 σ a1 η1 _ _ _ _ s R1 (fun x1 a2 η2 R2 e2 => hF x0 x1 a2 η2 _ _ _ _ R2 L X e2) X e1) X e0
/-! ### statements -/
/-- a target of another kind -/
theorem rn_asgT {e' : FE} {e : CE} {g : CG} {nx : SD → Hd → Bool} {rt : KV} {bk ct : SD → Hd → Bool} {xc : KX} {kx' : KXb} {r : B → Hb → Bool} (he : RE Γ e' e) (X : LX kx' xc) (h : ∀ x, RN Γ (r x) (fun σ η => g (toD x) σ η nx xc)) : RN Γ (fun a => e' a r kx') (fun σ η => sAsg e g σ η ⟨nx, rt, bk, ct, xc⟩) := fun σ a η s R q =>
  he σ a η _ _ _ _ s R (fun x a1 η1 R1 e1 => h x _ _ _ s R1 e1) X q
open Classical in
open Classical in
/-! loops -/
/-! the dice -/
def allB (n : Nat) (f : Nat → Bool) : Bool := @Nat.rec (fun _ => Bool) true (fun m ih => (@Bool.rec (fun _ => Bool) (false) (ih) (f m))) n
theorem allB_eq : ∀ (n : Nat) (f : Nat → Bool), allB n f = allN n f
  | 0, _ => rfl
  | n + 1, f => by
    show @Bool.rec (fun _ => Bool) false (allB n f) (f n) = (match f n with | true => allN n f | false => false)
    rw [allB_eq n f]
    cases f n <;> rfl
def rollB (d m : B) : FE := fun h kv _ => (@B.rec (fun _ => Bool) (fun _ => Unit) (false) (fun _ => false) (fun _ => false) (fun _ => false) (fun _ => false) (fun _ _ => false) (fun _ _ => false) (fun _ _ _ => false) (fun _ _ => false) (fun g => getH h g (fun c => (@Cb.rec (fun _ => Bool) (fun _ => false) (fun _ => false) ((@B.rec (fun _ => Bool) (fun _ => Unit) (false) (fun _ => false) (fun n => (@Nat.rec (fun _ => Bool) (false) (fun j _ => (@Bool.rec (fun _ => Bool) (false) (allB (Nat.succ j) (fun v => kv (.nat v) h)) (Nat.ble j 1000000000))) (n))) (fun _ => false) (fun _ => false) (fun _ _ => false) (fun _ _ => false) (fun _ _ _ => false) (fun _ _ => false) (fun _ => false) () (fun _ _ _ _ => ()) (m))) (fun _ _ => false) (fun _ _ => false) (fun _ => false) (fun _ _ => false) (c)))) () (fun _ _ _ _ => ()) (d))
theorem allN_mono : ∀ {n : Nat} {f g : Nat → Bool}, (∀ i, f i = true → g i = true) → allN n f = true → allN n g = true
  | 0, _, _, _, _ => rfl
  | n + 1, f, g, h, e => by
    simp only [allN] at e ⊢
    cases ef : f n with
    | false => rw [ef] at e; cases e
    | true => rw [ef] at e; rw [h n ef]; exact allN_mono h e
theorem rcall_roll : RCall2 rollB fRoll := fun d m a η kv' kx' kv kx R L X e => by
  cases d with
  | ref g =>
    obtain ⟨c, ec, e, _⟩ := getH_hr R e
    cases c with
    | dice =>
      cases m with
      | nat n =>
        cases n with
        | zero => cases e
        | succ j =>
          obtain ⟨e1, e⟩ := bT e
          rw [allB_eq] at e
          rw [toD, toD]
          show (match η.get g with | some .dice => (match Nat.ble j 1000000000 with | true => allN (j + 1) fun v => kv (.int (Int.ofNat v)) η | false => false) | _ => false) = true
          rw [ec]
          simp only [toC, e1]
          exact allN_mono (fun i h => by have := L _ _ _ R h; rw [toD] at this; exact this) e
      | _ => cases e
    | _ => cases e
  | _ => cases e
end
end FL

/-! the fast readings: what is carried, joins -/
namespace FL
open PySem DL
noncomputable section
variable {Γ : Env'}
theorem at_ {Γ : Env'} {t : Hb → Bool} {n : SD → Hd → Bool} (h : RN Γ t n) : RN Γ t n := h
theorem ra_nat (n : Nat) : RA Γ (.nat n) (cC (.int (Int.ofNat n))) := ra_c _ (by rw [toD])
/-! lists taken apart -/
/-! two fors -/
end
end FL

/-! the fast readings: count, sum, slices -/
namespace FL
open PySem DL
noncomputable section
variable {Γ : Env'}
/-! slices -/
end
end FL

/-! the fast readings: cells that are no longer wanted -/
namespace FL
open PySem DL
noncomputable section
variable {Γ : Env'}
/-! comprehensions whose steps' cells are dropped -/
end
end FL

/-! the fast readings: cuts of the law's body -/
namespace FL
open PySem DL
/-- the same value -/
noncomputable def eqK : B → B → Bool := @B.rec (fun _ => B → Bool) (fun _ => List B → Bool)
  (fun y => (@B.rec (fun _ => Bool) (fun _ => Unit) (true) (fun _ => false) (fun _ => false) (fun _ => false) (fun _ => false) (fun _ _ => false) (fun _ _ => false) (fun _ _ _ => false) (fun _ _ => false) (fun _ => false) () (fun _ _ _ _ => ()) (y)))
  (fun b y => (@B.rec (fun _ => Bool) (fun _ => Unit) (false) (fun c => (@Bool.rec (fun _ => Bool) ((@Bool.rec (fun _ => Bool) (true) (false) (c))) (c) (b))) (fun _ => false) (fun _ => false) (fun _ => false) (fun _ _ => false) (fun _ _ => false) (fun _ _ _ => false) (fun _ _ => false) (fun _ => false) () (fun _ _ _ _ => ()) (y)))
  (fun n y => (@B.rec (fun _ => Bool) (fun _ => Unit) (false) (fun _ => false) (fun m => Nat.beq n m) (fun _ => false) (fun _ => false) (fun _ _ => false) (fun _ _ => false) (fun _ _ _ => false) (fun _ _ => false) (fun _ => false) () (fun _ _ _ _ => ()) (y)))
  (fun n y => (@B.rec (fun _ => Bool) (fun _ => Unit) (false) (fun _ => false) (fun _ => false) (fun m => Nat.beq n m) (fun _ => false) (fun _ _ => false) (fun _ _ => false) (fun _ _ _ => false) (fun _ _ => false) (fun _ => false) () (fun _ _ _ _ => ()) (y)))
  (fun _ _ => false)
  (fun l n y => (@B.rec (fun _ => Bool) (fun _ => Unit) (false) (fun _ => false) (fun _ => false) (fun _ => false) (fun _ => false) (fun l' n' => (@Bool.rec (fun _ => Bool) (false) (Nat.beq l l') (Nat.beq n n'))) (fun _ _ => false) (fun _ _ _ => false) (fun _ _ => false) (fun _ => false) () (fun _ _ _ _ => ()) (y)))
  (fun l n y => (@B.rec (fun _ => Bool) (fun _ => Unit) (false) (fun _ => false) (fun _ => false) (fun _ => false) (fun _ => false) (fun _ _ => false) (fun l' n' => (@Bool.rec (fun _ => Bool) (false) (Nat.beq l l') (Nat.beq n n'))) (fun _ _ _ => false) (fun _ _ => false) (fun _ => false) () (fun _ _ _ _ => ()) (y)))
  (fun r c n y => (@B.rec (fun _ => Bool) (fun _ => Unit) (false) (fun _ => false) (fun _ => false) (fun _ => false) (fun _ => false) (fun _ _ => false) (fun _ _ => false) (fun r' c' n' => (@Bool.rec (fun _ => Bool) (false) ((@Bool.rec (fun _ => Bool) (false) (Nat.beq c c') (Nat.beq r r'))) (Nat.beq n n'))) (fun _ _ => false) (fun _ => false) () (fun _ _ _ _ => ()) (y)))
  (fun _ ih y => (@B.rec (fun _ => Bool) (fun _ => Unit) (false) (fun _ => false) (fun _ => false) (fun _ => false) (fun _ => false) (fun _ _ => false) (fun _ _ => false) (fun _ _ _ => false) (fun l' _ => ih l') (fun _ => false) () (fun _ _ _ _ => ()) (y)))
  (fun r y => (@B.rec (fun _ => Bool) (fun _ => Unit) (false) (fun _ => false) (fun _ => false) (fun _ => false) (fun _ => false) (fun _ _ => false) (fun _ _ => false) (fun _ _ _ => false) (fun _ _ => false) (fun r' => Nat.beq r r') () (fun _ _ _ _ => ()) (y)))
  (fun l' => @List.rec B (fun _ => Bool) true (fun _ _ _ => false) l')
  (fun _ _ ihx iht l' => @List.rec B (fun _ => Bool) false (fun y t _ => (@Bool.rec (fun _ => Bool) (false) (iht t) (ihx y))) l')
noncomputable def eqXL (a b : List B) : Bool := eqK (.tup a) (.tup b)
theorem eqK_cons (x y : B) (a b : List B) : eqK (.tup (x :: a)) (.tup (y :: b)) = @Bool.rec (fun _ => Bool) false (eqK (.tup a) (.tup b)) (eqK x y) := rfl
mutual
theorem eqK_eq : ∀ (x y : B), eqK x y = true → x = y
  | .non, y, h => by cases y <;> first | rfl | cases h
  | .bl b, y, h => by
    cases y with
    | bl c => cases b <;> cases c <;> first | rfl | cases h
    | _ => cases h
  | .nat n, y, h => by
    cases y with
    | nat m => rw [Nat.eq_of_beq_eq_true (show Nat.beq n m = true from h)]
    | _ => cases h
  | .neg n, y, h => by
    cases y with
    | neg m => rw [Nat.eq_of_beq_eq_true (show Nat.beq n m = true from h)]
    | _ => cases h
  | .str _, y, h => by cases h
  | .pk l n, y, h => by
    cases y with
    | pk l' n' =>
      obtain ⟨e1, e2⟩ := bT (show @Bool.rec (fun _ => Bool) false (Nat.beq l l') (Nat.beq n n') = true from h)
      rw [Nat.eq_of_beq_eq_true e1, Nat.eq_of_beq_eq_true e2]
    | _ => cases h
  | .fpk l n, y, h => by
    cases y with
    | fpk l' n' =>
      obtain ⟨e1, e2⟩ := bT (show @Bool.rec (fun _ => Bool) false (Nat.beq l l') (Nat.beq n n') = true from h)
      rw [Nat.eq_of_beq_eq_true e1, Nat.eq_of_beq_eq_true e2]
    | _ => cases h
  | .mat r c n, y, h => by
    cases y with
    | mat r' c' n' =>
      obtain ⟨e1, h⟩ := bT (show @Bool.rec (fun _ => Bool) false (@Bool.rec (fun _ => Bool) false (Nat.beq c c') (Nat.beq r r')) (Nat.beq n n') = true from h)
      obtain ⟨e2, e3⟩ := bT h
      rw [Nat.eq_of_beq_eq_true e1, Nat.eq_of_beq_eq_true e2, Nat.eq_of_beq_eq_true e3]
    | _ => cases h
  | .tup l, y, h => by
    cases y with
    | tup l' => rw [eqXL_eq l l' h]
    | _ => cases h
  | .ref r, y, h => by
    cases y with
    | ref m => rw [Nat.eq_of_beq_eq_true (show Nat.beq r m = true from h)]
    | _ => cases h
theorem eqXL_eq : ∀ (a b : List B), eqK (.tup a) (.tup b) = true → a = b
  | [], [], _ => rfl
  | [], _ :: _, h => by cases h
  | _ :: _, [], h => by cases h
  | x :: a, y :: b, h => by
    rw [eqK_cons] at h
    obtain ⟨e, h⟩ := bT h
    rw [eqK_eq x y e, eqXL_eq a b h]
end
noncomputable def eqX (_ : Nat) (x y : B) : Bool := eqK x y
theorem eqX_eq (n : Nat) (x y : B) (h : eqX n x y = true) : x = y := eqK_eq x y h
noncomputable def eqFsB : Fs → Fs → Bool
  | .nil, .nil => true
  | .cons k v t, .cons k' v' t' => match Nat.beq k k' with
    | true => match eqX 8 v v' with
      | true => eqFsB t t'
      | false => false
    | false => false
  | _, _ => false
theorem eqFsB_eq : ∀ {a b : Fs}, eqFsB a b = true → a = b
  | .nil, .nil, _ => rfl
  | .nil, .cons _ _ _, h => by cases h
  | .cons _ _ _, .nil, h => by cases h
  | .cons k v t, .cons k' v' t', h => by
    simp only [eqFsB] at h
    split at h
    · rename_i e
      split at h
      · rename_i e2
        rw [Nat.eq_of_beq_eq_true e, eqX_eq 8 _ _ e2, eqFsB_eq h]
      · cases h
    · cases h
noncomputable def eqC : Cb → Cb → Bool
  | .lst a, .lst b => eqXL a b
  | .dice, .dice => true
  | .ins c f, .ins c' f' => match Nat.beq c c' with
    | true => eqFsB f f'
    | false => false
  | _, _ => false
theorem eqC_eq {a b : Cb} (h : eqC a b = true) : a = b := by
  cases a <;> cases b <;> first
    | (simp only [eqC] at h; cases h; done)
    | rfl
    | (simp only [eqC] at h; rw [eqXL_eq _ _ h]; done)
    | (simp only [eqC] at h
       split at h
       · rename_i e; rw [Nat.eq_of_beq_eq_true e, eqFsB_eq h]
       · cases h)
/-! states -/
abbrev St' := Env' × Hb
def toCs : HL → List (Nat × Cell)
  | .nil => []
  | .cons r c t => (r, toC c) :: toCs t
def toSD : Env' → SD
  | [] => []
  | none :: t => none :: toSD t
  | some x :: t => some (toD x) :: toSD t
def toSt (c : St') : SD × Hd := (toSD c.1, ⟨c.2.nx, toCs c.2.hl⟩)
theorem toSD_get : ∀ (l : Env') (i : Nat) (x : B), l[i]? = some (some x) → (toSD l)[i]? = some (some (toD x))
  | [], i, x, h => by simp at h
  | none :: t, 0, x, h => by simp at h
  | some y :: t, 0, x, h => by simp at h; subst h; simp [toSD]
  | none :: t, i + 1, x, h => by simp at h; simpa [toSD] using toSD_get t i x h
  | some y :: t, i + 1, x, h => by simp at h; simpa [toSD] using toSD_get t i x h
theorem toSD_len : ∀ l : Env', (toSD l).length = l.length
  | [] => rfl
  | none :: t => by simp [toSD, toSD_len t]
  | some _ :: t => by simp [toSD, toSD_len t]
theorem sat_of (l : Env') : Sat l (toSD l) := ⟨toSD_len l, toSD_get l⟩
def srtB' : Nat → HL → Bool
  | _, .nil => true
  | b, .cons q _ t => match Nat.ble (Nat.succ q) b with
    | true => srtB' q t
    | false => false
theorem srtB'_ok : ∀ {b : Nat} {l : HL}, srtB' b l = true → srt b l
  | _, .nil, _ => trivial
  | b, .cons q _ t, h => by
    simp only [srtB'] at h
    split at h
    · rename_i e; exact ⟨Nat.le_of_ble_eq_true e, srtB'_ok h⟩
    · cases h
theorem look_toCs : ∀ (l : HL) (r : Nat) (c : Cb), lookL r l = some c → look r (toCs l) = some (toC c)
  | .nil, _, _, h => by cases h
  | .cons q c' t, r, c, h => by
    unfold lookL at h
    simp only [toCs, look]
    by_cases z : q = r
    · rw [if_pos z] at h; cases h
      rw [z, Nat.beq_refl]
    · rw [if_neg z] at h
      have : Nat.beq q r = false := by
        cases e : Nat.beq q r with
        | false => rfl
        | true => exact absurd (Nat.eq_of_beq_eq_true e) z
      rw [this]; exact look_toCs t r c h
theorem hr_of {a : Hb} (h : srtB' a.nx a.hl = true) : HR a ⟨a.nx, toCs a.hl⟩ := ⟨rfl, srtB'_ok h, fun r c e => look_toCs a.hl r c e⟩
/-- the state is fit to be cut to -/
def okE (n : Nat) : Env' → Bool
  | [] => true
  | none :: t => okE n t
  | some x :: t => same 8 (toD x) (toD x) && below 8 n (toD x) && okE n t
def okH (n : Nat) : HL → Bool
  | .nil => true
  | .cons r c t => Nat.ble (Nat.succ r) n && cle n (toC c) (toC c) && okH n t
def okC (c : St') : Bool := Nat.ble 1 c.2.nx && srtB' c.2.nx c.2.hl && okE c.2.nx c.1 && okH c.2.nx c.2.hl
def getO (r : Nat) : HL → Option Cb
  | .nil => none
  | .cons q c t => match Nat.beq q r with
    | true => some c
    | false => getO r t
theorem getO_look : ∀ {l : HL} {r : Nat} {c : Cb}, getO r l = some c → lookL r l = some c
  | .nil, _, _, h => by cases h
  | .cons q c' t, r, c, h => by
    simp only [getO] at h
    unfold lookL
    split at h
    · rename_i e; rw [if_pos (Nat.eq_of_beq_eq_true e)]; exact h
    · rename_i e; rw [if_neg (fun z => by rw [z, Nat.beq_refl] at e; cases e)]; exact getO_look h
theorem hS_mk {c : St'} {t : Hb → Bool} {K : CK} (hk : RN c.1 t K) (ok : okC c = true) (hf : t c.2 = true) : (Nat.ble 1 (toSt c).2.nx && K (toSt c).1 (toSt c).2) = true := by
  simp only [okC, Bool.and_eq_true] at ok
  have h1 : K (toSt c).1 (toSt c).2 = true := hk _ _ _ (sat_of c.1) (hr_of ok.1.1.2) hf
  rw [h1, Bool.and_true]
  exact ok.1.1.1
theorem all_mk {cs : List St'} {S : List (SD × Hd)} {K : CK} (hS : S = cs.map toSt) (h : ∀ c ∈ cs, (Nat.ble 1 (toSt c).2.nx && K (toSt c).1 (toSt c).2) = true) : (S.all fun st => Nat.ble 1 st.2.nx && K st.1 st.2) = true := by
  subst hS
  rw [List.all_map]
  exact List.all_eq_true.mpr fun c hc => h c hc
end FL
namespace FL
open PySem DL
theorem XkFb {kx : KX} : LX kFb kx := lx_F
end FL

/-! the fast readings: cuts to templates -/
namespace FL
open PySem DL
def lkp (i : Nat) : List (Nat × Nat) → Option Nat
  | [] => none
  | p :: t => match Nat.beq p.1 i with
    | true => some p.2
    | false => lkp i t
/-- no two alike, all below n -/
def dst (n : Nat) : List (Nat × Nat) → Bool
  | [] => true
  | p :: t => Nat.ble (Nat.succ p.2) n && (t.all fun q => !Nat.beq q.1 p.1 && !Nat.beq q.2 p.2) && dst n t
def cov (ρ : List (Nat × Nat)) : Nat → Bool
  | 0 => true
  | n + 1 => (lkp n ρ).isSome && cov ρ n
def ρf (ρ : List (Nat × Nat)) (i : Nat) : Nat := (lkp i ρ).getD 0
theorem lkp_mem : ∀ {ρ : List (Nat × Nat)} {i r : Nat}, lkp i ρ = some r → (i, r) ∈ ρ
  | [], _, _, h => by cases h
  | p :: t, i, r, h => by
    simp only [lkp] at h
    split at h
    · rename_i e
      have := Nat.eq_of_beq_eq_true e
      cases h
      rw [← this]
      exact List.mem_cons_self
    · exact List.mem_cons_of_mem _ (lkp_mem h)
theorem dst_lt {n : Nat} : ∀ {ρ : List (Nat × Nat)} {i r : Nat}, dst n ρ = true → (i, r) ∈ ρ → r < n
  | p :: t, i, r, h, hm => by
    simp only [dst, Bool.and_eq_true] at h
    rcases List.mem_cons.mp hm with e | hm
    · rw [← e] at h; exact Nat.le_of_ble_eq_true h.1.1
    · exact dst_lt h.2 hm
theorem dst_inj {n : Nat} : ∀ {ρ : List (Nat × Nat)} {i j r : Nat}, dst n ρ = true → (i, r) ∈ ρ → (j, r) ∈ ρ → i = j
  | p :: t, i, j, r, h, hi, hj => by
    simp only [dst, Bool.and_eq_true] at h
    have no : ∀ q ∈ t, q.2 ≠ p.2 := fun q hq z => by
      have := List.all_eq_true.mp h.1.2 q hq
      simp only [Bool.and_eq_true, Bool.not_eq_true'] at this
      rw [z, Nat.beq_refl] at this; cases this.2
    rcases List.mem_cons.mp hi with e1 | hi <;> rcases List.mem_cons.mp hj with e2 | hj
    · rw [← e1] at e2; injection e2 with a b; exact a.symm
    · exact absurd (by rw [← e1]) (no _ hj)
    · exact absurd (by rw [← e2]) (no _ hi)
    · exact dst_inj h.2 hi hj
theorem dst_fun {n : Nat} : ∀ {ρ : List (Nat × Nat)} {i r : Nat}, dst n ρ = true → (i, r) ∈ ρ → lkp i ρ = some r
  | p :: t, i, r, h, hi => by
    simp only [dst, Bool.and_eq_true] at h
    simp only [lkp]
    rcases List.mem_cons.mp hi with e1 | hi
    · rw [← e1, Nat.beq_refl]
    · have := List.all_eq_true.mp h.1.2 _ hi
      simp only [Bool.and_eq_true, Bool.not_eq_true'] at this
      cases e : Nat.beq p.1 i with
      | true => rw [Nat.eq_of_beq_eq_true e, Nat.beq_refl] at this; cases this.1
      | false => exact dst_fun h.2 hi
theorem cov_ok {ρ : List (Nat × Nat)} : ∀ {n : Nat}, cov ρ n = true → ∀ i, i < n → ∃ r, lkp i ρ = some r
  | 0, _, i, h => absurd h (Nat.not_lt_zero i)
  | n + 1, h, i, hi => by
    simp only [cov, Bool.and_eq_true] at h
    by_cases z : i = n
    · subst z; exact Option.isSome_iff_exists.mp h.1
    · exact cov_ok h.2 i (by omega)
theorem toSD_inv : ∀ {l : Env'} {i : Nat} {d : D}, (toSD l)[i]? = some (some d) → ∃ b, l[i]? = some (some b) ∧ d = toD b
  | [], i, d, h => by simp [toSD] at h
  | none :: t, 0, d, h => by simp [toSD] at h
  | some x :: t, 0, d, h => by simp [toSD] at h; exact ⟨x, by simp, h.symm⟩
  | none :: t, i + 1, d, h => by simp [toSD] at h; simpa using toSD_inv h
  | some x :: t, i + 1, d, h => by simp [toSD] at h; simpa using toSD_inv h
theorem look_inv : ∀ {l : HL} {r : Nat} {c : Cell}, look r (toCs l) = some c → ∃ b, lookL r l = some b ∧ c = toC b
  | .nil, _, _, h => by cases h
  | .cons q b t, r, c, h => by
    simp only [toCs, look] at h
    unfold lookL
    split at h
    · rename_i e; cases h; exact ⟨b, by rw [if_pos (Nat.eq_of_beq_eq_true e)], rfl⟩
    · rename_i e
      obtain ⟨b', e1, e2⟩ := look_inv h
      exact ⟨b', by rw [if_neg (fun z => by rw [z, Nat.beq_refl] at e; cases e)]; exact e1, e2⟩
end FL

/-! the fast readings: is None, get, setdefault, two fors -/
namespace FL
open PySem DL
noncomputable section
variable {Γ : Env'}
/-! two fors -/
end
end FL

/-! the fast readings: cuts to patterns, cells may hold cells and numbers that nobody knows -/
namespace FL
open PySem DL
inductive Pv where
  | fx (b : B) | rf (i : Nat) | vr (j : Nat)
inductive PC where
  | raw (c : Cb) | lst (l : List Pv) | ins (c : Nat) (fs : List (Nat × Pv)) | dct (t : Bool) (kvs : List (B × Pv))
structure Tp where
  sl : List (Option Pv)
  bd : List Nat
  nx : Nat
  hl : List (Nat × PC)
def nthN : List Nat → Nat → Nat
  | [], _ => 0
  | v :: _, 0 => v
  | _ :: t, j + 1 => nthN t j
def Pv.at (vs : List Nat) : Pv → B
  | .fx b => b
  | .rf i => .ref i
  | .vr j => .nat (nthN vs j)
def instE (vs : List Nat) : List (Option Pv) → Env'
  | [] => []
  | none :: t => none :: instE vs t
  | some p :: t => some (p.at vs) :: instE vs t
def atL (vs : List Nat) : List Pv → List B
  | [] => []
  | p :: t => p.at vs :: atL vs t
def atF (vs : List Nat) : List (Nat × Pv) → Fs
  | [] => .nil
  | (k, p) :: t => .cons k (p.at vs) (atF vs t)
def atK (vs : List Nat) : List (B × Pv) → Kv
  | [] => .nil
  | (k, p) :: t => .cons k (p.at vs) (atK vs t)
def PC.at (vs : List Nat) : PC → Cb
  | .raw c => c
  | .lst l => .lst (atL vs l)
  | .ins c fs => .ins c (atF vs fs)
  | .dct t kvs => .dct t (atK vs kvs)
def instH (vs : List Nat) : List (Nat × PC) → HL
  | [] => .nil
  | (r, c) :: t => .cons r (c.at vs) (instH vs t)
def RngV : List Nat → List Nat → Prop
  | [], [] => True
  | n :: t, v :: vs => v < n ∧ RngV t vs
  | _, _ => False
def TSP (T : List Tp) : SD × Hd → Prop := fun st => ∃ c ∈ T, ∃ vs, RngV c.bd vs ∧ st = toSt (instE vs c.sl, .mk c.nx (instH vs c.hl))
abbrev As := List (Nat × Nat)
noncomputable def mtv (p : Pv) (y : B) (ρ ν : As) (k : As → As → Bool) : Bool := match p with
  | .fx b => match eqX 8 b y with
    | true => k ρ ν
    | false => false
  | .rf i => match y with
    | .ref r => match lkp i ρ with
      | none => k ((i, r) :: ρ) ν
      | some r' => match Nat.beq r' r with
        | true => k ρ ν
        | false => false
    | _ => false
  | .vr j => match y with
    | .nat v => match lkp j ν with
      | none => k ρ ((j, v) :: ν)
      | some v' => match Nat.beq v' v with
        | true => k ρ ν
        | false => false
    | _ => false
noncomputable def mtE : List (Option Pv) → Env' → As → As → (As → As → Bool) → Bool
  | [], [], ρ, ν, k => k ρ ν
  | none :: s, _ :: t, ρ, ν, k => mtE s t ρ ν k
  | some p :: s, some y :: t, ρ, ν, k => mtv p y ρ ν (fun ρ ν => mtE s t ρ ν k)
  | _, _, _, _, _ => false
noncomputable def mtL : List Pv → List B → As → As → (As → As → Bool) → Bool
  | [], [], ρ, ν, k => k ρ ν
  | p :: s, y :: t, ρ, ν, k => mtv p y ρ ν (fun ρ ν => mtL s t ρ ν k)
  | _, _, _, _, _ => false
noncomputable def mtF : List (Nat × Pv) → Fs → As → As → (As → As → Bool) → Bool
  | [], .nil, ρ, ν, k => k ρ ν
  | (i, p) :: s, .cons j y t, ρ, ν, k => match Nat.beq i j with
    | true => mtv p y ρ ν (fun ρ ν => mtF s t ρ ν k)
    | false => false
  | _, _, _, _, _ => false
noncomputable def mtK : List (B × Pv) → Kv → As → As → (As → As → Bool) → Bool
  | [], .nil, ρ, ν, k => k ρ ν
  | (i, p) :: s, .cons j y t, ρ, ν, k => match eqX 8 i j with
    | true => mtv p y ρ ν (fun ρ ν => mtK s t ρ ν k)
    | false => false
  | _, _, _, _, _ => false
noncomputable def mtC (p : PC) (c : Cb) (ρ ν : As) (k : As → As → Bool) : Bool := match p with
  | .raw c' => match eqC c c' with
    | true => k ρ ν
    | false => false
  | .lst l => match c with
    | .lst l' => mtL l l' ρ ν k
    | _ => false
  | .ins i fs => match c with
    | .ins j fs' => match Nat.beq i j with
      | true => mtF fs fs' ρ ν k
      | false => false
    | _ => false
  | .dct t kvs => match c with
    | .dct t' kvs' => match t == t' with
      | true => mtK kvs kvs' ρ ν k
      | false => false
    | _ => false
noncomputable def mtH (h : HL) : List (Nat × PC) → As → As → (As → As → Bool) → Bool
  | [], ρ, ν, k => k ρ ν
  | (i, c) :: t, ρ, ν, k => match lkp i ρ with
    | some r => match getO r h with
      | some c0 => mtC c c0 ρ ν (fun ρ ν => mtH h t ρ ν k)
      | none => false
    | none => false
def uni (ν : As) : As → Bool
  | [] => true
  | p :: t => match lkp p.1 ν with
    | some v => match Nat.beq v p.2 with
      | true => uni ν t
      | false => false
    | none => false
def chk (ν : As) : List Nat → Nat → Bool
  | [], _ => true
  | n :: t, j => match lkp j ν with
    | some v => match Nat.ble (Nat.succ v) n with
      | true => chk ν t (Nat.succ j)
      | false => false
    | none => false
def vals (ν : As) : List Nat → Nat → List Nat
  | [], _ => []
  | _ :: t, j => (lkp j ν).getD 0 :: vals ν t (Nat.succ j)
noncomputable def leP (c : Tp) (Γ : Env') (h : Hb) : Bool := mtE c.sl Γ [] [] fun ρ ν => mtH h.hl c.hl ρ ν fun ρ ν => dst h.nx ρ && (cov ρ c.nx && (uni ν ν && (chk ν c.bd 0 && (match lkp 0 ρ with | some r => Nat.beq r 0 | none => false))))
/-! fit to be cut to -/
def okPv (n m : Nat) : Pv → Bool
  | .fx b => below 8 0 (toD b)
  | .rf i => Nat.ble (Nat.succ i) n
  | .vr j => Nat.ble (Nat.succ j) m
def okSE (n m : Nat) : List (Option Pv) → Bool
  | [] => true
  | none :: t => okSE n m t
  | some p :: t => okPv n m p && okSE n m t
def okPC (n m : Nat) : PC → Bool
  | .raw c => cle 0 (toC c) (toC c)
  | .lst l => l.all (okPv n m)
  | .ins _ fs => fs.all fun p => okPv n m p.2
  | .dct _ kvs => kvs.all fun p => okPv n m p.2
def okPH (n m : Nat) : Nat → List (Nat × PC) → Bool
  | _, [] => true
  | b, (r, c) :: t => Nat.ble (Nat.succ r) b && Nat.ble (Nat.succ r) n && okPC n m c && okPH n m r t
def okTp (c : Tp) : Bool := Nat.ble 1 c.nx && okSE c.nx c.bd.length c.sl && okPH c.nx c.bd.length c.nx c.hl
/-! what a match says -/
def GV (ρ ν : As) : Pv → B → Prop
  | .fx b, y => y = b
  | .rf i, y => ∃ r, y = .ref r ∧ (i, r) ∈ ρ
  | .vr j, y => ∃ v, y = .nat v ∧ (j, v) ∈ ν
def GL (ρ ν : As) : List Pv → List B → Prop
  | [], l => l = []
  | p :: s, l => ∃ y t, l = y :: t ∧ GV ρ ν p y ∧ GL ρ ν s t
def GF (ρ ν : As) : List (Nat × Pv) → Fs → Prop
  | [], l => l = .nil
  | (i, p) :: s, l => ∃ y t, l = .cons i y t ∧ GV ρ ν p y ∧ GF ρ ν s t
def GK (ρ ν : As) : List (B × Pv) → Kv → Prop
  | [], l => l = .nil
  | (i, p) :: s, l => ∃ y t, l = .cons i y t ∧ GV ρ ν p y ∧ GK ρ ν s t
def GC (ρ ν : As) : PC → Cb → Prop
  | .raw c, y => y = c
  | .lst l, y => ∃ l', y = .lst l' ∧ GL ρ ν l l'
  | .ins i l, y => ∃ l', y = .ins i l' ∧ GF ρ ν l l'
  | .dct i l, y => ∃ l', y = .dct i l' ∧ GK ρ ν l l'
def GE (ρ ν : As) : List (Option Pv) → Env' → Prop
  | [], l => l = []
  | none :: s, l => ∃ y t, l = y :: t ∧ GE ρ ν s t
  | some p :: s, l => ∃ y t, l = some y :: t ∧ GV ρ ν p y ∧ GE ρ ν s t
def GH (ρ ν : As) (h : HL) : List (Nat × PC) → Prop
  | [] => True
  | (i, c) :: t => (∃ r c0, (i, r) ∈ ρ ∧ getO r h = some c0 ∧ GC ρ ν c c0) ∧ GH ρ ν h t
def Sb (ρ ν ρ' ν' : As) : Prop := (∀ p ∈ ρ, p ∈ ρ') ∧ ∀ p ∈ ν, p ∈ ν'
theorem Sb.tr {a b c d e f : As} (h : Sb a b c d) (k : Sb c d e f) : Sb a b e f := ⟨fun p hp => k.1 p (h.1 p hp), fun p hp => k.2 p (h.2 p hp)⟩
theorem Sb.rf (a b : As) : Sb a b a b := ⟨fun _ h => h, fun _ h => h⟩
section
variable {ρ ν ρ' ν' : As}
theorem GV.mono (s : Sb ρ ν ρ' ν') : ∀ {p : Pv} {y : B}, GV ρ ν p y → GV ρ' ν' p y
  | .fx _, _, h => h
  | .rf _, _, ⟨r, e, h⟩ => ⟨r, e, s.1 _ h⟩
  | .vr _, _, ⟨r, e, h⟩ => ⟨r, e, s.2 _ h⟩
theorem GL.mono (s : Sb ρ ν ρ' ν') : ∀ {p : List Pv} {y : List B}, GL ρ ν p y → GL ρ' ν' p y
  | [], _, h => h
  | _ :: _, _, ⟨y, t, e, h, h2⟩ => ⟨y, t, e, h.mono s, GL.mono s h2⟩
theorem GF.mono (s : Sb ρ ν ρ' ν') : ∀ {p : List (Nat × Pv)} {y : Fs}, GF ρ ν p y → GF ρ' ν' p y
  | [], _, h => h
  | _ :: _, _, ⟨y, t, e, h, h2⟩ => ⟨y, t, e, h.mono s, GF.mono s h2⟩
theorem GK.mono (s : Sb ρ ν ρ' ν') : ∀ {p : List (B × Pv)} {y : Kv}, GK ρ ν p y → GK ρ' ν' p y
  | [], _, h => h
  | _ :: _, _, ⟨y, t, e, h, h2⟩ => ⟨y, t, e, h.mono s, GK.mono s h2⟩
theorem GC.mono (s : Sb ρ ν ρ' ν') : ∀ {p : PC} {y : Cb}, GC ρ ν p y → GC ρ' ν' p y
  | .raw _, _, h => h
  | .lst _, _, ⟨l, e, h⟩ => ⟨l, e, h.mono s⟩
  | .ins _ _, _, ⟨l, e, h⟩ => ⟨l, e, h.mono s⟩
  | .dct _ _, _, ⟨l, e, h⟩ => ⟨l, e, h.mono s⟩
theorem GE.mono (s : Sb ρ ν ρ' ν') : ∀ {p : List (Option Pv)} {y : Env'}, GE ρ ν p y → GE ρ' ν' p y
  | [], _, h => h
  | none :: _, _, ⟨y, t, e, h2⟩ => ⟨y, t, e, GE.mono s h2⟩
  | some _ :: _, _, ⟨y, t, e, h, h2⟩ => ⟨y, t, e, h.mono s, GE.mono s h2⟩
end
theorem mtv_ok {p : Pv} {y : B} {ρ ν : As} {k : As → As → Bool} (h : mtv p y ρ ν k = true) : ∃ ρ' ν', k ρ' ν' = true ∧ Sb ρ ν ρ' ν' ∧ GV ρ' ν' p y := by
  cases p with
  | fx b =>
    simp only [mtv] at h
    split at h
    · rename_i e; exact ⟨ρ, ν, h, Sb.rf _ _, (eqX_eq 8 b y e).symm⟩
    · cases h
  | rf i =>
    cases y with
    | ref r =>
      simp only [mtv] at h
      split at h
      · exact ⟨_, _, h, ⟨fun _ hp => List.mem_cons_of_mem _ hp, fun _ hp => hp⟩, r, rfl, List.mem_cons_self⟩
      · rename_i r' e
        split at h
        · rename_i e2
          have := Nat.eq_of_beq_eq_true e2
          subst this
          exact ⟨_, _, h, Sb.rf _ _, r', rfl, lkp_mem e⟩
        · cases h
    | _ => cases h
  | vr j =>
    cases y with
    | nat r =>
      simp only [mtv] at h
      split at h
      · exact ⟨_, _, h, ⟨fun _ hp => hp, fun _ hp => List.mem_cons_of_mem _ hp⟩, r, rfl, List.mem_cons_self⟩
      · rename_i r' e
        split at h
        · rename_i e2
          have := Nat.eq_of_beq_eq_true e2
          subst this
          exact ⟨_, _, h, Sb.rf _ _, r', rfl, lkp_mem e⟩
        · cases h
    | _ => cases h
theorem mtE_ok : ∀ {s : List (Option Pv)} {Γ : Env'} {ρ ν : As} {k : As → As → Bool}, mtE s Γ ρ ν k = true → ∃ ρ' ν', k ρ' ν' = true ∧ Sb ρ ν ρ' ν' ∧ GE ρ' ν' s Γ
  | [], [], ρ, ν, k, h => ⟨ρ, ν, h, Sb.rf _ _, rfl⟩
  | [], _ :: _, _, _, _, h => by cases h
  | none :: s, [], _, _, _, h => by cases h
  | none :: s, y :: t, ρ, ν, k, h => by
    obtain ⟨a, b, h1, h2, h3⟩ := mtE_ok (s := s) (Γ := t) h
    exact ⟨a, b, h1, h2, y, t, rfl, h3⟩
  | some p :: s, [], _, _, _, h => by cases h
  | some p :: s, none :: t, _, _, _, h => by cases h
  | some p :: s, some y :: t, ρ, ν, k, h => by
    obtain ⟨a, b, h1, h2, h3⟩ := mtv_ok (p := p) (y := y) h
    obtain ⟨a', b', h4, h5, h6⟩ := mtE_ok (s := s) (Γ := t) h1
    exact ⟨a', b', h4, h2.tr h5, y, t, rfl, h3.mono h5, h6⟩
theorem mtL_ok : ∀ {s : List Pv} {Γ : List B} {ρ ν : As} {k : As → As → Bool}, mtL s Γ ρ ν k = true → ∃ ρ' ν', k ρ' ν' = true ∧ Sb ρ ν ρ' ν' ∧ GL ρ' ν' s Γ
  | [], [], ρ, ν, k, h => ⟨ρ, ν, h, Sb.rf _ _, rfl⟩
  | [], _ :: _, _, _, _, h => by cases h
  | _ :: s, [], _, _, _, h => by cases h
  | p :: s, y :: t, ρ, ν, k, h => by
    obtain ⟨a, b, h1, h2, h3⟩ := mtv_ok (p := p) (y := y) h
    obtain ⟨a', b', h4, h5, h6⟩ := mtL_ok (s := s) (Γ := t) h1
    exact ⟨a', b', h4, h2.tr h5, y, t, rfl, h3.mono h5, h6⟩
theorem mtF_ok : ∀ {s : List (Nat × Pv)} {Γ : Fs} {ρ ν : As} {k : As → As → Bool}, mtF s Γ ρ ν k = true → ∃ ρ' ν', k ρ' ν' = true ∧ Sb ρ ν ρ' ν' ∧ GF ρ' ν' s Γ
  | [], .nil, ρ, ν, k, h => ⟨ρ, ν, h, Sb.rf _ _, rfl⟩
  | [], .cons _ _ _, _, _, _, h => by cases h
  | _ :: s, .nil, _, _, _, h => by cases h
  | (i, p) :: s, .cons j y t, ρ, ν, k, h => by
    simp only [mtF] at h
    split at h
    · rename_i e
      have := Nat.eq_of_beq_eq_true e
      subst this
      obtain ⟨a, b, h1, h2, h3⟩ := mtv_ok (p := p) (y := y) h
      obtain ⟨a', b', h4, h5, h6⟩ := mtF_ok (s := s) (Γ := t) h1
      exact ⟨a', b', h4, h2.tr h5, y, t, rfl, h3.mono h5, h6⟩
    · cases h
theorem mtK_ok : ∀ {s : List (B × Pv)} {Γ : Kv} {ρ ν : As} {k : As → As → Bool}, mtK s Γ ρ ν k = true → ∃ ρ' ν', k ρ' ν' = true ∧ Sb ρ ν ρ' ν' ∧ GK ρ' ν' s Γ
  | [], .nil, ρ, ν, k, h => ⟨ρ, ν, h, Sb.rf _ _, rfl⟩
  | [], .cons _ _ _, _, _, _, h => by cases h
  | _ :: s, .nil, _, _, _, h => by cases h
  | (i, p) :: s, .cons j y t, ρ, ν, k, h => by
    simp only [mtK] at h
    split at h
    · rename_i e
      have := eqX_eq 8 _ _ e
      subst this
      obtain ⟨a, b, h1, h2, h3⟩ := mtv_ok (p := p) (y := y) h
      obtain ⟨a', b', h4, h5, h6⟩ := mtK_ok (s := s) (Γ := t) h1
      exact ⟨a', b', h4, h2.tr h5, y, t, rfl, h3.mono h5, h6⟩
    · cases h
theorem mtC_ok {p : PC} {c : Cb} {ρ ν : As} {k : As → As → Bool} (h : mtC p c ρ ν k = true) : ∃ ρ' ν', k ρ' ν' = true ∧ Sb ρ ν ρ' ν' ∧ GC ρ' ν' p c := by
  cases p with
  | raw c' =>
    simp only [mtC] at h
    split at h
    · rename_i e; exact ⟨ρ, ν, h, Sb.rf _ _, eqC_eq e⟩
    · cases h
  | lst l =>
    cases c with
    | lst l' =>
      obtain ⟨a, b, h1, h2, h3⟩ := mtL_ok h
      exact ⟨a, b, h1, h2, l', rfl, h3⟩
    | _ => cases h
  | ins i l =>
    cases c with
    | ins j l' =>
      simp only [mtC] at h
      split at h
      · rename_i e
        have := Nat.eq_of_beq_eq_true e
        subst this
        obtain ⟨a, b, h1, h2, h3⟩ := mtF_ok h
        exact ⟨a, b, h1, h2, l', rfl, h3⟩
      · cases h
    | _ => cases h
  | dct i l =>
    cases c with
    | dct j l' =>
      simp only [mtC] at h
      split at h
      · rename_i e
        have := eq_of_beq e
        subst this
        obtain ⟨a, b, h1, h2, h3⟩ := mtK_ok h
        exact ⟨a, b, h1, h2, l', rfl, h3⟩
      · cases h
    | _ => cases h
theorem GH.mono {ρ ν ρ' ν' : As} {hh : HL} (s : Sb ρ ν ρ' ν') : ∀ {l : List (Nat × PC)}, GH ρ ν hh l → GH ρ' ν' hh l
  | [], _ => trivial
  | (_, _) :: _, ⟨⟨r, c0, h1, h2, h3⟩, h⟩ => ⟨⟨r, c0, s.1 _ h1, h2, h3.mono s⟩, GH.mono s h⟩
theorem mtH_ok {hh : HL} : ∀ {l : List (Nat × PC)} {ρ ν : As} {k : As → As → Bool}, mtH hh l ρ ν k = true → ∃ ρ' ν', k ρ' ν' = true ∧ Sb ρ ν ρ' ν' ∧ GH ρ' ν' hh l
  | [], ρ, ν, k, h => ⟨ρ, ν, h, Sb.rf _ _, trivial⟩
  | (i, c) :: t, ρ, ν, k, h => by
    simp only [mtH] at h
    split at h
    · rename_i r e
      split at h
      · rename_i c0 e2
        obtain ⟨a, b, h1, h2, h3⟩ := mtC_ok h
        obtain ⟨a', b', h4, h5, h6⟩ := mtH_ok (l := t) h1
        exact ⟨a', b', h4, h2.tr h5, ⟨r, c0, (h2.tr h5).1 _ (lkp_mem e), e2, h3.mono h5⟩, h6⟩
      · cases h
    · cases h
theorem uni_ok {ν : As} : ∀ {l : As} {j v : Nat}, uni ν l = true → (j, v) ∈ l → lkp j ν = some v
  | p :: t, j, v, h, hm => by
    simp only [uni] at h
    split at h
    · rename_i v' e
      split at h
      · rename_i e2
        rcases List.mem_cons.mp hm with q | hm
        · subst q; rw [e, Nat.eq_of_beq_eq_true e2]
        · exact uni_ok h hm
      · cases h
    · cases h
theorem chk_ok {ν : As} : ∀ {bd : List Nat} {j : Nat}, chk ν bd j = true → RngV bd (vals ν bd j)
  | [], _, _ => trivial
  | n :: t, j, h => by
    simp only [chk] at h
    split at h
    · rename_i v e
      split at h
      · rename_i e2
        refine ⟨?_, chk_ok h⟩
        rw [e]; exact Nat.le_of_ble_eq_true e2
      · cases h
    · cases h
theorem vals_at {ν : As} : ∀ {bd : List Nat} {i j : Nat}, j < bd.length → nthN (vals ν bd i) j = (lkp (i + j) ν).getD 0
  | [], _, _, h => absurd h (Nat.not_lt_zero _)
  | n :: t, i, 0, _ => rfl
  | n :: t, i, j + 1, h => by
    show nthN (vals ν t (Nat.succ i)) j = _
    rw [vals_at (bd := t) (Nat.lt_of_succ_lt_succ h)]
    have e : Nat.succ i + j = i + (j + 1) := by omega
    rw [e]
section
variable {n m : Nat} {ρ ν : As} {vs : List Nat} (hρ : ∀ i r, (i, r) ∈ ρ → ρf ρ i = r) (hv : ∀ j v, j < m → (j, v) ∈ ν → nthN vs j = v)
include hρ hv
theorem gv_ren {p : Pv} {y : B} (o : okPv n m p = true) (h : GV ρ ν p y) : RenD n (ρf ρ) (toD (p.at vs)) (toD y) := by
  cases p with
  | fx b => cases h; exact .inr ⟨rfl, o⟩
  | rf i =>
    obtain ⟨r, rfl, hm⟩ := h
    refine .inl ⟨i, Nat.le_of_ble_eq_true o, by rw [Pv.at, toD], ?_⟩
    rw [toD, hρ i r hm]
  | vr j =>
    obtain ⟨v, rfl, hm⟩ := h
    have := hv j v (Nat.le_of_ble_eq_true o) hm
    rw [Pv.at, this]
    exact .inr ⟨rfl, by rw [toD]; rfl⟩
theorem gl_ren : ∀ {p : List Pv} {y : List B}, p.all (okPv n m) = true → GL ρ ν p y → RenDs n (ρf ρ) (toDs (atL vs p)) (toDs y)
  | [], y, _, h => by rw [GL] at h; subst h; rw [atL, toDs, RenDs]
  | p :: s, y, o, h => by
    simp only [List.all_cons, Bool.and_eq_true] at o
    obtain ⟨z, t, rfl, h1, h2⟩ := h
    simp only [atL, toDs, RenDs]
    exact ⟨_, _, rfl, gv_ren hρ hv o.1 h1, gl_ren o.2 h2⟩
theorem gf_ren : ∀ {p : List (Nat × Pv)} {y : Fs}, (p.all fun q => okPv n m q.2) = true → GF ρ ν p y → RenFs n (ρf ρ) (toFs (atF vs p)) (toFs y)
  | [], y, _, h => by rw [GF] at h; subst h; rw [atF, toFs, RenFs]
  | (i, p) :: s, y, o, h => by
    simp only [List.all_cons, Bool.and_eq_true] at o
    obtain ⟨z, t, rfl, h1, h2⟩ := h
    simp only [atF, toFs, RenFs]
    exact ⟨_, _, rfl, gv_ren hρ hv o.1 h1, gf_ren o.2 h2⟩
theorem gk_ren : ∀ {p : List (B × Pv)} {y : Kv}, (p.all fun q => okPv n m q.2) = true → GK ρ ν p y → RenKv n (ρf ρ) (toKv (atK vs p)) (toKv y)
  | [], y, _, h => by rw [GK] at h; subst h; rw [atK, toKv, RenKv]
  | (i, p) :: s, y, o, h => by
    simp only [List.all_cons, Bool.and_eq_true] at o
    obtain ⟨z, t, rfl, h1, h2⟩ := h
    simp only [atK, toKv, RenKv]
    exact ⟨_, _, rfl, gv_ren hρ hv o.1 h1, gk_ren o.2 h2⟩
theorem gc_ren {p : PC} {y : Cb} (o : okPC n m p = true) (h : GC ρ ν p y) : RenC n (ρf ρ) (toC (p.at vs)) (toC y) := by
  cases p with
  | raw c => cases h; exact .inl o
  | lst l => obtain ⟨l', rfl, h⟩ := h; exact .inr (.inl ⟨_, _, rfl, rfl, gl_ren hρ hv o h⟩)
  | ins k l => obtain ⟨l', rfl, h⟩ := h; exact .inr (.inr (.inl ⟨k, _, _, rfl, rfl, gf_ren hρ hv o h⟩))
  | dct k l => obtain ⟨l', rfl, h⟩ := h; exact .inr (.inr (.inr ⟨k, _, _, rfl, rfl, gk_ren hρ hv o h⟩))
theorem ge_ren : ∀ {p : List (Option Pv)} {Γ : Env'}, okSE n m p = true → GE ρ ν p Γ → (instE vs p).length = Γ.length ∧ ∀ (i : Nat) (b : B), (instE vs p)[i]? = some (some b) → ∃ y, Γ[i]? = some (some y) ∧ RenD n (ρf ρ) (toD b) (toD y)
  | [], Γ, _, h => by rw [GE] at h; subst h; exact ⟨rfl, fun i b e => by simp [instE] at e⟩
  | none :: s, Γ, o, h => by
    obtain ⟨y, t, rfl, h2⟩ := h
    obtain ⟨q1, q2⟩ := ge_ren (p := s) (Γ := t) o h2
    refine ⟨by simp [instE, q1], fun i b e => ?_⟩
    cases i with
    | zero => simp [instE] at e
    | succ i => simp [instE] at e; simpa using q2 i b e
  | some p :: s, Γ, o, h => by
    simp only [okSE, Bool.and_eq_true] at o
    obtain ⟨y, t, rfl, h1, h2⟩ := h
    obtain ⟨q1, q2⟩ := ge_ren (p := s) (Γ := t) o.2 h2
    refine ⟨by simp [instE, q1], fun i b e => ?_⟩
    cases i with
    | zero =>
      simp [instE] at e
      subst e
      exact ⟨y, by simp, gv_ren hρ hv o.1 h1⟩
    | succ i => simp [instE] at e; simpa using q2 i b e
theorem gh_ren {hh : HL} : ∀ {l : List (Nat × PC)} {b r : Nat} {c : Cb}, okPH n m b l = true → GH ρ ν hh l → lookL r (instH vs l) = some c → r < n ∧ ∃ c0, lookL (ρf ρ r) hh = some c0 ∧ RenC n (ρf ρ) (toC c) (toC c0)
  | [], _, _, _, _, _, e => by cases e
  | (i, p) :: t, b, r, c, o, h, e => by
    simp only [okPH, Bool.and_eq_true] at o
    obtain ⟨⟨q, c0, h1, h2, h3⟩, h⟩ := h
    simp only [instH] at e
    unfold lookL at e
    by_cases z : i = r
    · rw [if_pos z] at e; cases e
      subst z
      exact ⟨Nat.le_of_ble_eq_true o.1.1.2, c0, by rw [hρ _ _ h1]; exact getO_look h2, gc_ren hρ hv o.1.2 h3⟩
    · rw [if_neg z] at e; exact gh_ren o.2 h e
end
theorem leP_ok {c : Tp} {Γ : Env'} {a : Hb} {σ : SD} {η : Hd} (o : okTp c = true) (s : Sat Γ σ) (R : HR a η) (h : leP c Γ a = true) : ∃ vs ρ, RngV c.bd vs ∧ Ren2 (toSt (instE vs c.sl, .mk c.nx (instH vs c.hl))) σ η ρ := by
  simp only [okTp, Bool.and_eq_true] at o
  obtain ⟨ρ1, ν1, h1, s1, h2⟩ := mtE_ok h
  obtain ⟨ρ, ν, h3, s2, h4⟩ := mtH_ok h1
  replace h2 := h2.mono s2
  simp only [Bool.and_eq_true] at h3
  obtain ⟨k1, k2, k3, k4, k5⟩ := h3
  have hρ : ∀ i r, (i, r) ∈ ρ → ρf ρ i = r := fun i r hm => by unfold ρf; rw [dst_fun k1 hm]; rfl
  have hv : ∀ j v, j < c.bd.length → (j, v) ∈ ν → nthN (vals ν c.bd 0) j = v := fun j v hj hm => by
    rw [vals_at hj, Nat.zero_add, uni_ok k3 hm]; rfl
  have lk : ∀ i, i < c.nx → ∃ r, lkp i ρ = some r ∧ ρf ρ i = r ∧ (i, r) ∈ ρ := fun i hi => by
    obtain ⟨r, e⟩ := cov_ok k2 i hi
    exact ⟨r, e, by unfold ρf; rw [e]; rfl, lkp_mem e⟩
  obtain ⟨e1, e2⟩ := ge_ren hρ hv o.1.2 h2
  refine ⟨vals ν c.bd 0, ρf ρ, chk_ok k4, Nat.le_of_ble_eq_true o.1.1, ?_, fun i j hi hj e => ?_, fun i hi => ?_, ?_, fun i d e => ?_, fun r cc e => ?_⟩
  · unfold ρf
    split at k5
    · rename_i r e; rw [e]; exact Nat.eq_of_beq_eq_true k5
    · cases k5
  · obtain ⟨r, _, e1, m1⟩ := lk i hi
    obtain ⟨r', _, e2, m2⟩ := lk j hj
    rw [e1, e2] at e
    subst e
    exact dst_inj k1 m1 m2
  · obtain ⟨r, _, e1, m1⟩ := lk i hi
    rw [e1, R.nx]
    exact dst_lt k1 m1
  · show (toSD (instE _ c.sl)).length = σ.length
    rw [toSD_len, e1, s.len]
  · obtain ⟨b, eb, rfl⟩ := toSD_inv e
    obtain ⟨y, ey, hy⟩ := e2 i b eb
    exact ⟨toD y, s.get i y ey, hy⟩
  · obtain ⟨b, eb, rfl⟩ := look_inv e
    obtain ⟨hr, c0, el, hc⟩ := gh_ren hρ hv o.2 h4 eb
    exact ⟨hr, toC c0, R.get _ c0 el, hc⟩
noncomputable def anyP (T : List Tp) (Γ : Env') (h : Hb) : Bool := match T with
  | [] => false
  | c :: t => match leP c Γ h with
    | true => true
    | false => anyP t Γ h
theorem anyP_ok : ∀ {T : List Tp} {Γ : Env'} {h : Hb}, anyP T Γ h = true → ∃ c ∈ T, leP c Γ h = true
  | [], _, _, h => by cases h
  | c :: t, Γ, a, h => by
    simp only [anyP] at h
    split at h
    · rename_i e; exact ⟨c, List.mem_cons_self, e⟩
    · obtain ⟨c', h1, h2⟩ := anyP_ok h; exact ⟨c', List.mem_cons_of_mem _ h1, h2⟩
theorem rn_cutP {Γ : Env'} {T : List Tp} (o : T.all okTp = true) : RN Γ (fun h => anyP T Γ h) (KcP2 (TSP T)) := fun σ a η s R e => by
  obtain ⟨c, hc, e⟩ := anyP_ok e
  obtain ⟨vs, ρ, h1, h2⟩ := leP_ok (List.all_eq_true.mp o c hc) s R e
  exact @decide_eq_true _ (Classical.propDecidable _) ⟨_, ρ, ⟨c, hc, vs, h1, rfl⟩, h2⟩
end FL

/-! the fast readings: sorted(d.items()), sorted(d, key = by length) -/
namespace FL
open PySem DL
noncomputable section
variable {Γ : Env'}
/-! by length, then by rows -/
end
end FL

/-! the fast readings: a def of the dice that makes one of few cells -/
namespace FL
open PySem DL
noncomputable section
end
end FL

/-! the fast readings: a def whose results are known for some arguments -/
namespace FL
open PySem DL
noncomputable section
/-! the rows are looked at -/
end
end FL

/-! the fast readings: four names at once; patterns and rows by lists -/
namespace FL
open PySem DL
noncomputable section
variable {Γ : Env'}
/-! patterns by lists -/
/-! rows by lists -/
end
end FL

/-! the fast readings: a dict is walked, locked meanwhile -/
namespace FL
open PySem DL
noncomputable section
variable {Γ : Env'}
end
end FL

/-! the fast readings: a dict with rows of rows of ints as keys -/
namespace FL
open PySem DL
noncomputable section
variable {Γ : Env'}
end
end FL

/-! summaries: closures in a group's table, by numbers alone -/
namespace FL
open PySem DL
noncomputable section
abbrev iN (n : Nat) : D := .int (Int.ofNat n)
/-! the fields of a group -/
/-! dicts with numbers as keys -/
theorem ieq_iN (a b : Nat) : DL.eqK (iN a) (iN b) = Nat.beq a b := rfl
/-- what a dict holds under numbers -/
def KvR (kvs : List (D × D)) (f : Nat → Option D) : Prop := ∀ k, dlook (iN k) kvs = f k
/-! names -/
structure AgS (S : List Nat) (σ σ' : SD) : Prop where
  len : σ'.length = σ.length
  get : ∀ i, i ∉ S → σ'[i]? = σ[i]?
theorem AgS.trans {S : List Nat} {σ σ1 σ2 : SD} (a : AgS S σ σ1) (b : AgS S σ1 σ2) : AgS S σ σ2 := ⟨b.len.trans a.len, fun i h => (b.get i h).trans (a.get i h)⟩
theorem AgS.set {S : List Nat} {σ σ' : SD} (a : AgS S σ σ') {i : Nat} (h : i ∈ S) (x : Option D) : AgS S σ (σ'.set i x) := ⟨by rw [List.length_set]; exact a.len, fun j hj => by
  rw [List.getElem?_set_ne (fun z => hj (by rw [← z]; exact h))]; exact a.get j hj⟩
theorem AgS.at {S : List Nat} {σ σ' : SD} (a : AgS S σ σ') {i : Nat} {x : Option (Option D)} (h : σ[i]? = x) (hi : i ∉ S) : σ'[i]? = x := (a.get i hi).trans h
/-! heaps -/
structure Fr (a l : Nat) (η η' : Hd) : Prop where
  nx : η.nx ≤ η'.nx
  get : ∀ q, q < η.nx → q ≠ a → q ≠ l → η'.get q = η.get q
theorem Fr.trans {a l : Nat} {η η1 η2 : Hd} (x : Fr a l η η1) (y : Fr a l η1 η2) : Fr a l η η2 := ⟨Nat.le_trans x.nx y.nx, fun q h h1 h2 => (y.get q (Nat.lt_of_lt_of_le h x.nx) h1 h2).trans (x.get q h h1 h2)⟩
/-! ### the closure's inner walk -/
def fM (mask : Nat) : Nat → Option D := fun k => match mask.testBit k with
  | true => some (.bl true)
  | false => none
/-- the keys: each once, the mask's bits -/
def KvN (m : Nat) (kvs : List (D × D)) (mask : Nat) : Prop := ∃ Ns : List Nat, kvs = Ns.map (fun x => (iN x, D.bl true)) ∧ Ns.Nodup ∧ (∀ x, x ∈ Ns ↔ mask.testBit x = true) ∧ ∀ x ∈ Ns, x < m
theorem KvN.one {m t : Nat} (ht : t < m) : KvN m [(iN t, .bl true)] (Nat.shiftLeft 1 t) := by
  refine ⟨[t], rfl, by simp, fun x => ?_, fun x hx => by rw [List.mem_singleton.mp hx]; exact ht⟩
  have : (Nat.shiftLeft 1 t).testBit x = decide (t = x) := by
    show (1 <<< t).testBit x = _
    rw [Nat.one_shiftLeft, Nat.testBit_two_pow]
  rw [this, List.mem_singleton, decide_eq_true_iff]
  exact ⟨Eq.symm, Eq.symm⟩
end
end FL

/-! summaries: the closure's loop; few -/
namespace FL
open PySem DL
noncomputable section
/-! ### what is walked -/
/-! ### the loop -/
end
end FL

/-! summaries: few -/
namespace FL
open PySem DL
noncomputable section
theorem KvR.one {t : Nat} : KvR [(iN t, .bl true)] (fM (Nat.shiftLeft 1 t)) := fun k => by
  have : (Nat.shiftLeft 1 t).testBit k = decide (t = k) := by
    show (1 <<< t).testBit k = _
    rw [Nat.one_shiftLeft, Nat.testBit_two_pow]
  unfold fM
  rw [this]
  unfold dlook
  rw [ieq_iN]
  by_cases e : t = k
  · subst e; rw [Nat.beq_refl, decide_eq_true rfl]
  · have : Nat.beq t k = false := by
      cases z : Nat.beq t k with
      | false => rfl
      | true => exact absurd (Nat.eq_of_beq_eq_true z) e
    rw [this, decide_eq_false e]
    rfl
/-! ### rows of results -/
/-! ### the fast side -/
end
end FL

/-! summaries: times, spread -/
namespace FL
open PySem DL
noncomputable section
/-! ### pairs -/
inductive PL where
  | nil | cons (a b : Nat) (t : PL)
def PL.all (m1 m2 : Nat) : PL → Prop
  | .nil => True
  | .cons a b t => a < m1 ∧ b < m2 ∧ PL.all m1 m2 t
/-! ### spread -/
section
variable {c m1 n1 o1 m2 n2 o2 r1 r2 : Nat}
end
end
end FL

/-! summaries: spread, the loops -/
namespace FL
open PySem DL
noncomputable section
section
variable {c m1 n1 o1 m2 n2 o2 r1 r2 : Nat}
/-! ### the loop -/
end
end
end FL

/-! summaries: spread, whole -/
namespace FL
open PySem DL
noncomputable section
section
variable {c m1 n1 o1 m2 n2 o2 : Nat}
end
end
end FL

/-! summaries: spread, the fast side -/
namespace FL
open PySem DL
noncomputable section
end
end FL

/-! summaries: is_map -/
namespace FL
open PySem DL
noncomputable section
section
variable {c m1 n1 o1 m2 n2 o2 g : Nat}
end
end
end FL

/-! summaries: brackets don't matter -/
namespace FL
open PySem DL
noncomputable section
section
variable {c m n one q : Nat}
end
end
end FL

/-! summaries: made_by -/
namespace FL
open PySem DL
noncomputable section
/-! sorted numbers -/
end
end FL

/-! known results, found by the first argument's table -/
namespace FL
open PySem DL
noncomputable section
end
end FL

/-! cuts passed by numbers that are not looked at -/
namespace FL
open PySem DL
end FL

/-! summaries: a turn after a turn -/
namespace FL
open PySem DL
noncomputable section
end
end FL

/-! sorted of rows of rows -/
namespace FL
open PySem DL
noncomputable section
end
end FL

/-! isinstance(x, int), isinstance(x, tuple) -/
namespace FL
open PySem DL
noncomputable section
variable {Γ : Env'}
end
end FL

/-! the fast readings: range going down to nought -/
namespace FL
open PySem DL
noncomputable section
variable {Γ : Env'}
end
end FL

/-! cuts shown by hand; marks: what is known of a group -/
namespace FL
open PySem DL
noncomputable section
theorem tsp_fix {T : List Tp} {K : CK} (h : ∀ c ∈ T, c.bd = [] ∧ K (toSD (instE [] c.sl)) ⟨c.nx, toCs (instH [] c.hl)⟩ = true) : ∀ st, TSP T st → K st.1 st.2 = true := by
  rintro st ⟨c, hc, vs, hv, rfl⟩
  obtain ⟨hb, hk⟩ := h c hc
  rw [hb] at hv
  cases vs with
  | nil => exact hk
  | cons v vs => exact hv.elim
/-! marks -/
end
end FL

/-! the fast readings: a tuple once, or many times -/
namespace FL
open PySem DL
noncomputable section
end
end FL

/-! sums by lengths: what is known of a group, looked at -/
namespace FL
open PySem DL
noncomputable section
end
end FL


set_option Elab.async false
set_option linter.all false
set_option maxRecDepth 100000
set_option maxHeartbeats 4000000
namespace L30
open PySem DL FL
def c30 (n p : Nat) : Tp := ⟨[none, some (.rf 0), some (.fx (.nat n)), none, none, none, none, none, none, none, none, none, none, none, none, some (.fx (.nat p)), none, none, none, none], [], 1, [(0, .raw .dice)]⟩
end L30
namespace L30
open PySem PySem.Spec L2 DL
def topS (i : Nat) : Stmt := PySem.Challenge.pw_grouphall_k30_grids_by_adding_steps.main.body.getD i (.Pass ⟨0, 0, 0, 0⟩)
abbrev s_law : Stmt := topS 21
theorem sc_law : FnScope ["script", "dice", "many", "j", "k", "clear", "rank", "whole", "steps_there", "numbers", "product_there", "number", "much", "one", "there", "prime", "rows", "row", "n", "i"] ["script"] (defScope s_law) := ⟨rfl, rfl, rfl, by decide +kernel, rfl, by decide +kernel, by decide +kernel⟩
abbrev s__law_rounds : Stmt := topS 19
theorem sc__law_rounds : FnScope ["script", "most", "cells", "cell"] ["script", "most"] (defScope s__law_rounds) := ⟨rfl, rfl, rfl, by decide +kernel, rfl, by decide +kernel, by decide +kernel⟩
abbrev s__law_dice : Stmt := topS 17
theorem sc__law_dice : FnScope ["cell"] ["cell"] (defScope s__law_dice) := ⟨rfl, rfl, rfl, by decide +kernel, rfl, by decide +kernel, by decide +kernel⟩
abbrev s__law_roll : Stmt := topS 18
theorem sc__law_roll : FnScope ["dice", "many", "found"] ["dice", "many"] (defScope s__law_roll) := ⟨rfl, rfl, rfl, by decide +kernel, rfl, by decide +kernel, by decide +kernel⟩
abbrev s__law_told : Stmt := topS 20
theorem sc__law_told : FnScope ["what"] ["what"] (defScope s__law_told) := ⟨rfl, rfl, rfl, by decide +kernel, rfl, by decide +kernel, by decide +kernel⟩
abbrev s_adding : Stmt := topS 12
theorem sc_adding : FnScope ["many", "k", "j", "number", "rows", "row"] ["many", "k", "j", "number"] (defScope s_adding) := ⟨rfl, rfl, rfl, by decide +kernel, rfl, by decide +kernel, by decide +kernel⟩
abbrev s_by_adding : Stmt := topS 13
theorem sc_by_adding : FnScope ["grid", "prime", "rows", "many", "steps", "j", "k", "hit", "much", "undone", "row"] ["grid", "prime"] (defScope s_by_adding) := ⟨rfl, rfl, rfl, by decide +kernel, rfl, by decide +kernel, by decide +kernel⟩
abbrev s_cleared : Stmt := topS 10
theorem sc_cleared : FnScope ["rows", "prime", "done", "whole", "wide", "j", "k", "hit", "back", "much", "row", "number", "a", "b"] ["rows", "prime"] (defScope s_cleared) := ⟨rfl, rfl, rfl, by decide +kernel, rfl, by decide +kernel, by decide +kernel⟩
abbrev s_corner : Stmt := topS 11
theorem sc_corner : FnScope ["rows", "prime", "found", "rank", "whole"] ["rows", "prime"] (defScope s_corner) := ⟨rfl, rfl, rfl, by decide +kernel, rfl, by decide +kernel, by decide +kernel⟩
abbrev s_of_adding : Stmt := topS 15
theorem sc_of_adding : FnScope ["steps", "numbers", "prime", "many", "found", "k", "j", "much"] ["steps", "numbers", "prime"] (defScope s_of_adding) := ⟨rfl, rfl, rfl, by decide +kernel, rfl, by decide +kernel, by decide +kernel⟩
abbrev s_times : Stmt := topS 8
theorem sc_times : FnScope ["one", "other", "prime", "many", "row", "j", "k"] ["one", "other", "prime"] (defScope s_times) := ⟨rfl, rfl, rfl, by decide +kernel, rfl, by decide +kernel, by decide +kernel⟩
abbrev s_unit : Stmt := topS 7
theorem sc_unit : FnScope ["many", "k", "j"] ["many"] (defScope s_unit) := ⟨rfl, rfl, rfl, by decide +kernel, rfl, by decide +kernel, by decide +kernel⟩
abbrev s_step : Stmt := topS 14
theorem sc_step : FnScope ["rows", "k", "j", "much", "prime", "a", "b"] ["rows", "k", "j", "much", "prime"] (defScope s_step) := ⟨rfl, rfl, rfl, by decide +kernel, rfl, by decide +kernel, by decide +kernel⟩
abbrev s_turned : Stmt := topS 9
theorem sc_turned : FnScope ["number", "prime", "found", "k"] ["number", "prime"] (defScope s_turned) := ⟨rfl, rfl, rfl, by decide +kernel, rfl, by decide +kernel, by decide +kernel⟩
def FL : List Str := []
def lp_law : Nat → Nat → Bool := fun l c => (Nat.beq l 114 && Nat.beq c 25)
def lp_times : Nat → Nat → Bool := fun l c => Bool.and false (Nat.beq l c)
structure Hy (K : PySem.W.Frag) (mg : Str → Option Value) where
  c_BadTable : Addr
  g_BadTable : mg "BadTable" = some (.ref c_BadTable)
  c_BadTurn : Addr
  g_BadTurn : mg "BadTurn" = some (.ref c_BadTurn)
  c_NoWay : Addr
  g_NoWay : mg "NoWay" = some (.ref c_NoWay)
  x_NoWay : PySem.W.excIn K c_NoWay [.type "ValueError", .type "Exception", .type "BaseException", .type "object"] "ValueError.__new__" = true
  k_NoWay : PySem.W.keepIn K (.ref c_NoWay) = true
  s_NoWay : PySem.W.subIn K (.ref c_NoWay) (.type "BaseException") = some true
  t_NoWay : PySem.W.typeIn K (.ref c_NoWay) = some (.type "type")
  c_TooLarge : Addr
  g_TooLarge : mg "TooLarge" = some (.ref c_TooLarge)
  f__law_rounds : Addr
  fd__law_rounds : FuncData
  F__law_rounds : Fun K "_law_rounds" "_law_rounds" s__law_rounds f__law_rounds fd__law_rounds
  b__law_rounds : Binds K fd__law_rounds ["script", "most"] []
  m__law_rounds : mg "_law_rounds" = some (.ref f__law_rounds)
  f__law_dice : Addr
  fd__law_dice : FuncData
  F__law_dice : Fun K "_law_dice" "_law_dice" s__law_dice f__law_dice fd__law_dice
  b__law_dice : Binds K fd__law_dice ["cell"] []
  m__law_dice : mg "_law_dice" = some (.ref f__law_dice)
  f__law_roll : Addr
  fd__law_roll : FuncData
  F__law_roll : Fun K "_law_roll" "_law_roll" s__law_roll f__law_roll fd__law_roll
  b__law_roll : Binds K fd__law_roll ["dice", "many"] []
  m__law_roll : mg "_law_roll" = some (.ref f__law_roll)
  f__law_told : Addr
  fd__law_told : FuncData
  F__law_told : Fun K "_law_told" "_law_told" s__law_told f__law_told fd__law_told
  b__law_told : Binds K fd__law_told ["what"] []
  m__law_told : mg "_law_told" = some (.ref f__law_told)
  f_adding : Addr
  fd_adding : FuncData
  F_adding : Fun K "adding" "adding" s_adding f_adding fd_adding
  b_adding : Binds K fd_adding ["many", "k", "j", "number"] []
  m_adding : mg "adding" = some (.ref f_adding)
  f_by_adding : Addr
  fd_by_adding : FuncData
  F_by_adding : Fun K "by_adding" "by_adding" s_by_adding f_by_adding fd_by_adding
  b_by_adding : Binds K fd_by_adding ["grid", "prime"] []
  m_by_adding : mg "by_adding" = some (.ref f_by_adding)
  f_cleared : Addr
  fd_cleared : FuncData
  F_cleared : Fun K "cleared" "cleared" s_cleared f_cleared fd_cleared
  b_cleared : Binds K fd_cleared ["rows", "prime"] []
  m_cleared : mg "cleared" = some (.ref f_cleared)
  f_corner : Addr
  fd_corner : FuncData
  F_corner : Fun K "corner" "corner" s_corner f_corner fd_corner
  b_corner : Binds K fd_corner ["rows", "prime"] []
  m_corner : mg "corner" = some (.ref f_corner)
  f_of_adding : Addr
  fd_of_adding : FuncData
  F_of_adding : Fun K "of_adding" "of_adding" s_of_adding f_of_adding fd_of_adding
  b_of_adding : Binds K fd_of_adding ["steps", "numbers", "prime"] []
  m_of_adding : mg "of_adding" = some (.ref f_of_adding)
  f_times : Addr
  fd_times : FuncData
  F_times : Fun K "times" "times" s_times f_times fd_times
  b_times : Binds K fd_times ["one", "other", "prime"] []
  m_times : mg "times" = some (.ref f_times)
  f_unit : Addr
  fd_unit : FuncData
  F_unit : Fun K "unit" "unit" s_unit f_unit fd_unit
  b_unit : Binds K fd_unit ["many"] []
  m_unit : mg "unit" = some (.ref f_unit)
  f_step : Addr
  fd_step : FuncData
  F_step : Fun K "step" "step" s_step f_step fd_step
  b_step : Binds K fd_step ["rows", "k", "j", "much", "prime"] []
  m_step : mg "step" = some (.ref f_step)
  f_turned : Addr
  fd_turned : FuncData
  F_turned : Fun K "turned" "turned" s_turned f_turned fd_turned
  b_turned : Binds K fd_turned ["number", "prime"] []
  m_turned : mg "turned" = some (.ref f_turned)
  e_NoWay_BadTurn : PySem.W.exmOne K (.ref c_NoWay) (.ref c_BadTurn) = some false
  e_NoWay_BadTable : PySem.W.exmOne K (.ref c_NoWay) (.ref c_BadTable) = some false
  e_NoWay_NoWay : PySem.W.exmOne K (.ref c_NoWay) (.ref c_NoWay) = some true
  z_abs : mg "abs" = none
  z_int : mg "int" = none
  z_len : mg "len" = none
  z_list : mg "list" = none
  z_range : mg "range" = none
  z_sum : mg "sum" = none
  z_tuple : mg "tuple" = none
  z_zip : mg "zip" = none
  tc_law : Addr
  tP_law : Addr
  tc_times : Addr
  tP_times : Addr
  cd_times : fd_times.code = .ref tc_times
  nd : [tP_law, tP_times].Nodup
section
variable {P : Program} {w : World} {K : PySem.W.Frag} {mg : Str → Option Value} {base : Heap}
def nm (hy : Hy K mg) : Nm := { fld := fun j => FL.getD j "?", cls := fun j => match j with | 2 => hy.c_BadTable | 1 => hy.c_BadTurn | 3 => hy.c_NoWay | 4 => hy.c_TooLarge | _ => 0, tabs := [(hy.tP_law, "law.<locals>.<lambda>", lp_law), (hy.tP_times, "times.<locals>.<lambda>", lp_times)], xf := fun _ => "" }
theorem fi (hy : Hy K mg) (k : Nat) (h : k < FL.length) : ∀ j, (nm hy).fld j = FL.getD k "?" → j = k := fld_inj (by decide) (by decide) h
theorem fo (hy : Hy K mg) (m : Str) (h : m ∉ FL) (hq : m ≠ "?") : ∀ j, (nm hy).fld j ≠ m := fld_no h hq
structure Tbs (hy : Hy K mg) (base : Heap) : Prop where
  x_x : True
  t_law : LamX.TabB base mg hy.tc_law hy.tP_law
  t_times : LamX.TabB base mg hy.tc_times hy.tP_times
theorem Tbs.m_law {hy : Hy K mg} (tb : Tbs hy base) : (hy.tP_law, ("law.<locals>.<lambda>" : Str), lp_law) ∈ (nm hy).tabs := List.mem_cons_self
theorem Tbs.u_law {hy : Hy K mg} (tb : Tbs hy base) : ∀ p ∈ (nm hy).tabs, p.1 = hy.tP_law → p.2 = (("law.<locals>.<lambda>" : Str), lp_law) := tab_one (T := (nm hy).tabs) hy.nd tb.m_law
theorem Tbs.m_times {hy : Hy K mg} (tb : Tbs hy base) : (hy.tP_times, ("times.<locals>.<lambda>" : Str), lp_times) ∈ (nm hy).tabs := (List.mem_cons_of_mem _ List.mem_cons_self)
theorem Tbs.u_times {hy : Hy K mg} (tb : Tbs hy base) : ∀ p ∈ (nm hy).tabs, p.1 = hy.tP_times → p.2 = (("times.<locals>.<lambda>" : Str), lp_times) := tab_one (T := (nm hy).tabs) hy.nd tb.m_times
def hm__law_told : Nat → Option Str := fun c => match c with | 3 => some "no way" | _ => none
theorem hmOk (hy : Hy K mg) : HmOk K (nm hy) [(.ref hy.c_BadTurn, "turn"), (.ref hy.c_BadTable, "table"), (.ref hy.c_NoWay, "no way"), (.ref hy.c_TooLarge, "large")] hm__law_told := by
  intro c r e Pr hP
  unfold hm__law_told at e
  split at e
  · cases e; exact ⟨false, hy.e_NoWay_BadTurn, (fun z => by cases z), fun _ => ⟨false, hy.e_NoWay_BadTable, (fun z => by cases z), fun _ => ⟨true, hy.e_NoWay_NoWay, fun _ => hP, fun z => by cases z⟩⟩⟩
  · cases e
def b_times : CS := (sSeq (sAsg (cFn (f1 gLenA) (cCons (cVar 0) cNil)) (gNm 3)) (sRet (cFn (f1 gTuple) (cCons (cLc (ciSeq (cVar 0)) (gNm 4) ctYes (cFn (f1 gTuple) (cCons (cLc (ciR1 (cCons (cVar 3) cNil)) (gNm 5) ctYes (cOp fMod (cSumG (ciR1 (cCons (cVar 3) cNil)) (gNm 6) ctYes (cOp fMul (cOp fIx (cVar 4) (cVar 6)) (cOp fIx (cOp fIx (cVar 1) (cVar 6)) (cVar 5))) [6]) (cVar 2)) [5]) cNil)) [4]) cNil))))
theorem g0_times (hy : Hy K mg) (tb : Tbs hy base) : JF P w K mg base 2 hy.f_times hy.fd_times ["one", "other", "prime"] (nm hy) (cDef 3 7 b_times) :=
   jf_defc (k := 1) hy.F_times sc_times hy.cd_times fun A outer s H E hr => (jb_cons (js_set (i := 3) sc_times.nd rfl (by first | exact .inl rfl | exact .inr rfl) (je_blt blt_lenA (by rfl) hy.z_len (by rfl) (ja_cons (je_var 0 (pv 0)) ja_nil))) (jb_one (js_ret (je_ty ty_tuple (by rfl) hy.z_tuple (by rfl) (ja_cons (je_lc (E' := E0) (own := [("row", 4)]) rfl sc_times.nd (ji_seq (je_var 0 (pv 0))) (blkOk_by (N := ["one", "other", "prime", "many", "row", "j", "k"]) (sc := defScope s_times) (own := [("row", 4)]) (by decide +kernel)) (fun _ _ _ _ _ => (jgw_name (pg_name (i := 4) sc_times.nd rfl (by first | exact .inl rfl | exact .inr rfl)))) (fun _ _ _ _ _ => jts_nil) (fun _ _ _ _ _ => (je_ty ty_tuple (by rfl) hy.z_tuple (by rfl) (ja_cons (je_lc (E' := E0) (own := [("j", 5)]) rfl sc_times.nd (ji_range1 (by rfl) hy.z_range (ja_cons (je_var 3 (pv 3)) ja_nil)) (blkOk_by (N := ["one", "other", "prime", "many", "row", "j", "k"]) (sc := relS ({ kind := .function, names := [(".0", .local), ("row", .cell), ("tuple", .globalImplicit), ("range", .globalImplicit), ("many", .free), ("other", .free), ("prime", .free)], isGenerator := false, isCoroutine := false } : Scope) (defScope s_times)) (own := [("j", 5)]) (by decide +kernel)) (fun _ _ _ _ _ => (jgw_name (pg_name (i := 5) sc_times.nd rfl (by first | exact .inl rfl | exact .inr rfl)))) (fun _ _ _ _ _ => jts_nil) (fun _ _ _ _ _ => (je_op opd_mod (je_gsum (E' := E0) (k := 0) (own := [("k", 6)]) (by rfl) hy.z_sum (GxD.mk (k := 0) (hr.mono (by decide)) sc_times.nd ⟨_, _, tb.t_times, rfl, ⟨_, tb.m_times, rfl⟩, fun e he q => by first | (rw [tb.u_times e he q]; done) | (rw [tb.u_times e he q]; rfl)⟩ (by decide +kernel) (ji_range1 (by rfl) hy.z_range (ja_cons (je_var 3 (pv 3)) ja_nil)) (blkOk_by (N := ["one", "other", "prime", "many", "row", "j", "k"]) (sc := relS ({ kind := .function, names := [(".0", .local), ("j", .cell), ("sum", .globalImplicit), ("range", .globalImplicit), ("many", .free), ("other", .free), ("prime", .free), ("row", .free)], isGenerator := false, isCoroutine := false } : Scope) (relS ({ kind := .function, names := [(".0", .local), ("row", .cell), ("tuple", .globalImplicit), ("range", .globalImplicit), ("many", .free), ("other", .free), ("prime", .free)], isGenerator := false, isCoroutine := false } : Scope) (defScope s_times))) (own := [("k", 6)]) (by decide +kernel)) (fun _ _ _ _ _ _ hrG => (jgw_name (pg_name (i := 6) sc_times.nd rfl (by first | exact .inl rfl | exact .inr rfl)))) (fun _ _ _ _ _ _ hrG => jts_nil) (fun _ _ _ _ _ _ hrG => (je_op opd_mul (je_ix (hu_of hrG) (je_var 4 (pv 4)) (je_var 6 (pv 6)) (fun _ _ => rfl)) (je_ix (hu_of hrG) (je_ix (hu_of hrG) (je_var 1 (pv 1)) (je_var 6 (pv 6)) (fun _ _ => rfl)) (je_var 5 (pv 5)) (fun _ _ => rfl)))) (fun _ => rfl))) (je_var 2 (pv 2))))) ja_nil)))) ja_nil)))))
abbrev F_times : CF := (cDef 3 7 b_times)
theorem g_times (hy : Hy K mg) (tb : Tbs hy base) : JF P w K mg base 2 hy.f_times hy.fd_times ["one", "other", "prime"] (nm hy) F_times := g0_times hy tb
def b_unit : CS := (sRet (cFn (f1 gTuple) (cCons (cLc (ciR1 (cCons (cVar 0) cNil)) (gNm 1) ctYes (cFn (f1 gTuple) (cCons (cLc (ciR1 (cCons (cVar 0) cNil)) (gNm 2) ctYes (cFn (f1 gInt) (cCons (cOp fEq (cVar 1) (cVar 2)) cNil)) [2]) cNil)) [1]) cNil)))
theorem g0_unit (hy : Hy K mg) (tb : Tbs hy base) : JF P w K mg base 1 hy.f_unit hy.fd_unit ["many"] (nm hy) (cDef 1 3 b_unit) :=
   jf_def (k := 0) hy.F_unit sc_unit fun cdv A outer s H E hr => (jb_one (js_ret (je_ty ty_tuple (by rfl) hy.z_tuple (by rfl) (ja_cons (je_lc (E' := E0) (own := [("k", 1)]) rfl sc_unit.nd (ji_range1 (by rfl) hy.z_range (ja_cons (je_var 0 (pv 0)) ja_nil)) (blkOk_by (N := ["many", "k", "j"]) (sc := defScope s_unit) (own := [("k", 1)]) (by decide +kernel)) (fun _ _ _ _ _ => (jgw_name (pg_name (i := 1) sc_unit.nd rfl (by first | exact .inl rfl | exact .inr rfl)))) (fun _ _ _ _ _ => jts_nil) (fun _ _ _ _ _ => (je_ty ty_tuple (by rfl) hy.z_tuple (by rfl) (ja_cons (je_lc (E' := E0) (own := [("j", 2)]) rfl sc_unit.nd (ji_range1 (by rfl) hy.z_range (ja_cons (je_var 0 (pv 0)) ja_nil)) (blkOk_by (N := ["many", "k", "j"]) (sc := relS ({ kind := .function, names := [(".0", .local), ("k", .cell), ("tuple", .globalImplicit), ("range", .globalImplicit), ("many", .free)], isGenerator := false, isCoroutine := false } : Scope) (defScope s_unit)) (own := [("j", 2)]) (by decide +kernel)) (fun _ _ _ _ _ => (jgw_name (pg_name (i := 2) sc_unit.nd rfl (by first | exact .inl rfl | exact .inr rfl)))) (fun _ _ _ _ _ => jts_nil) (fun _ _ _ _ _ => (je_ty ty_int (by rfl) hy.z_int (by rfl) (ja_cons (je_cmp (opd_eq hr.units) (je_var 1 (pv 1)) (je_var 2 (pv 2)) (by rfl)) ja_nil)))) ja_nil)))) ja_nil))))
abbrev F_unit : CF := (cDef 1 3 b_unit)
theorem g_unit (hy : Hy K mg) (tb : Tbs hy base) : JF P w K mg base 1 hy.f_unit hy.fd_unit ["many"] (nm hy) F_unit := g0_unit hy tb
def b_adding : CS := (sSeq (sAsg (cLc (ciSeq (cCall F_unit (cCons (cVar 0) cNil))) (gNm 5) ctYes (cFn (f1 gList) (cCons (cVar 5) cNil)) [5]) (gNm 4)) (sSeq (sAsg (cVar 3) (gSb (cOp fIx (cVar 4) (cVar 1)) (cVar 2))) (sRet (cFn (f1 gTuple) (cCons (cLc (ciSeq (cVar 4)) (gNm 5) ctYes (cFn (f1 gTuple) (cCons (cVar 5) cNil)) [5]) cNil)))))
theorem g0_adding (hy : Hy K mg) (tb : Tbs hy base) : JF P w K mg base 2 hy.f_adding hy.fd_adding ["many", "k", "j", "number"] (nm hy) (cDef 4 6 b_adding) :=
  have g_unit := g_unit (P := P) (w := w) (base := base) hy tb; jf_def (k := 1) hy.F_adding sc_adding fun cdv A outer s H E hr => (jb_cons (by first | exact js_setLc (E' := E0) (own := [("row", 5)]) (i := 4) rfl sc_adding.nd rfl rfl (sw_true rfl rfl rfl (by decide +kernel)) (ji_seq (je_call g_unit (hr.mono (by decide)) (by rfl) hy.m_unit hy.F_unit.kp hy.b_unit (passes_call (takes_of rfl rfl rfl rfl) (fun _ _ _ _ h => h)) (ja_cons (je_var 0 (pv 0)) ja_nil))) (blkOk_by (N := ["many", "k", "j", "number", "rows", "row"]) (sc := defScope s_adding) (own := [("row", 5)]) (by decide +kernel)) (fun _ _ _ _ _ => (jgw_name (pg_name (i := 5) sc_adding.nd rfl (by first | exact .inl rfl | exact .inr rfl)))) (fun _ _ _ _ _ => jts_nil) (fun _ _ _ _ _ => (je_ty ty_list (by rfl) hy.z_list (by rfl) (ja_cons (je_var 5 (pv 5)) ja_nil))) | exact js_set (i := 4) sc_adding.nd rfl (by first | exact .inl rfl | exact .inr rfl) (je_lc (E' := E0) (own := [("row", 5)]) rfl sc_adding.nd (ji_seq (je_call g_unit (hr.mono (by decide)) (by rfl) hy.m_unit hy.F_unit.kp hy.b_unit (passes_call (takes_of rfl rfl rfl rfl) (fun _ _ _ _ h => h)) (ja_cons (je_var 0 (pv 0)) ja_nil))) (blkOk_by (N := ["many", "k", "j", "number", "rows", "row"]) (sc := defScope s_adding) (own := [("row", 5)]) (by decide +kernel)) (fun _ _ _ _ _ => (jgw_name (pg_name (i := 5) sc_adding.nd rfl (by first | exact .inl rfl | exact .inr rfl)))) (fun _ _ _ _ _ => jts_nil) (fun _ _ _ _ _ => (je_ty ty_list (by rfl) hy.z_list (by rfl) (ja_cons (je_var 5 (pv 5)) ja_nil))))) (jb_cons (js_asg (je_var 3 (pv 3)) (jg_sub (hu_of hr) (je_ix (hu_of hr) (je_var 4 (pv 4)) (je_var 1 (pv 1)) (fun _ _ => rfl)) (je_var 2 (pv 2)))) (jb_one (js_ret (je_ty ty_tuple (by rfl) hy.z_tuple (by rfl) (ja_cons (je_lc (E' := E0) (own := [("row", 5)]) rfl sc_adding.nd (ji_seq (je_var 4 (pv 4))) (blkOk_by (N := ["many", "k", "j", "number", "rows", "row"]) (sc := defScope s_adding) (own := [("row", 5)]) (by decide +kernel)) (fun _ _ _ _ _ => (jgw_name (pg_name (i := 5) sc_adding.nd rfl (by first | exact .inl rfl | exact .inr rfl)))) (fun _ _ _ _ _ => jts_nil) (fun _ _ _ _ _ => (je_ty ty_tuple (by rfl) hy.z_tuple (by rfl) (ja_cons (je_var 5 (pv 5)) ja_nil)))) ja_nil))))))
abbrev F_adding : CF := (cDef 4 6 b_adding)
theorem g_adding (hy : Hy K mg) (tb : Tbs hy base) : JF P w K mg base 2 hy.f_adding hy.fd_adding ["many", "k", "j", "number"] (nm hy) F_adding := g0_adding hy tb
theorem g0__law_dice (hy : Hy K mg) (tb : Tbs hy base) : JF P w K mg base 1 hy.f__law_dice hy.fd__law_dice ["cell"] (nm hy) (cDef 1 1 b_dice) :=
   jf_def (k := 0) hy.F__law_dice sc__law_dice fun cdv A outer s H E hr => (jb_cons (js_if (jt_chain opd_lt opd_lt (je_op opd_sub je_int je_int) (je_var 0 (pv 0)) je_int) (jb_one (js_ret (je_lst (ja_cons (je_blt blt_abs (by rfl) hy.z_abs (by rfl) (ja_cons (je_var 0 (pv 0)) ja_nil)) (ja_cons je_int (ja_cons je_int ja_nil)))))) jb_nil) (jb_one (js_ret (je_lst (ja_cons (je_var 0 (pv 0)) (ja_cons (je_op opd_add je_int (je_op opd_mod (je_ty ty_int (by rfl) hy.z_int (by rfl) (ja_cons (je_var 0 (pv 0)) ja_nil)) je_int)) (ja_cons (je_ty ty_int (by rfl) hy.z_int (by rfl) (ja_cons (je_cmp opd_ge (je_var 0 (pv 0)) (je_op opd_pow je_int je_int) (by rfl)) ja_nil)) ja_nil)))))))
abbrev F__law_dice : CF := fDice
theorem g__law_dice (hy : Hy K mg) (tb : Tbs hy base) : JF P w K mg base 1 hy.f__law_dice hy.fd__law_dice ["cell"] (nm hy) F__law_dice := jf_dice (g0__law_dice hy tb) dice_ok
theorem g__law_rounds (hy : Hy K mg) (tb : Tbs hy base) : FnOk P w K mg base (L2.CX P w) 2 hy.f__law_rounds hy.fd__law_rounds ["script", "most"] (spRnd K (nm hy)) :=
  have g__law_dice := g__law_dice (P := P) (w := w) (base := base) hy tb
  hy.F__law_rounds.okX sc__law_rounds (fun vs H Q E h => by obtain ⟨_, _, _, rfl, _⟩ := h; rfl) fun cdv A outer s H vs Q E hr h =>
    ⟨_, rnd_body (N := nm hy) (E := E) (c := b_rnd) sc__law_rounds.nd rfl (.inl rfl) (pv 0) (pv 1) (jb_cons (js_if (jt_cmp (opd_eq hr.units) (je_var 2 (pv 2)) (je_lst ja_nil) (by rfl)) (jb_one (js_set (i := 2) sc__law_rounds.nd rfl (by first | exact .inl rfl | exact .inr rfl) (je_lst (ja_cons je_int ja_nil)))) jb_nil) (jb_one (js_ret (je_lc (E' := E0) (own := [("cell", 3)]) rfl sc__law_rounds.nd (ji_seq (je_var 2 (pv 2))) (blkOk_by (N := ["script", "most", "cells", "cell"]) (sc := defScope s__law_rounds) (own := [("cell", 3)]) (by decide +kernel)) (fun _ _ _ _ _ => (jgw_name (pg_name (i := 3) sc__law_rounds.nd rfl (by first | exact .inl rfl | exact .inr rfl)))) (fun _ _ _ _ _ => jts_nil) (fun _ _ _ _ _ => (je_call g__law_dice (hr.mono (by decide)) (by rfl) hy.m__law_dice hy.F__law_dice.kp hy.b__law_dice passL (ja_cons (je_var 3 (pv 3)) ja_nil))))))) rnd_ok, tRnd_of h (by decide)⟩
def b_turned : CS := (sSeq (sIf (cTst (cOp fEq (cOp fMod (cVar 0) (cVar 1)) (cC (.int 0)))) (sRaise 3) sNil) (sSeq (sAsg (cC (.int 1)) (gNm 2)) (sSeq (sFor (ciR1 (cCons (cOp fSub (cVar 1) (cC (.int 2))) cNil)) (gNm 3) (sAsg (cOp fMod (cOp fMul (cVar 2) (cVar 0)) (cVar 1)) (gNm 2))) (sRet (cVar 2)))))
theorem g0_turned (hy : Hy K mg) (tb : Tbs hy base) : JF P w K mg base 1 hy.f_turned hy.fd_turned ["number", "prime"] (nm hy) (cDef 2 4 b_turned) :=
   jf_def (k := 0) hy.F_turned sc_turned fun cdv A outer s H E hr => (jb_cons (js_if (jt_cmp (opd_eq hr.units) (je_op opd_mod (je_var 0 (pv 0)) (je_var 1 (pv 1))) je_int (by rfl)) (jb_one (js_raise rfl (takes_of rfl rfl rfl rfl) (pmk_own PySem.F.excBase_ValueError hy.x_NoWay hy.g_NoWay hy.k_NoWay (raises_own hy.s_NoWay hy.t_NoWay) (by rfl)) rfl)) jb_nil) (jb_cons (js_set (i := 2) sc_turned.nd rfl (by first | exact .inl rfl | exact .inr rfl) je_int) (jb_cons (js_for (passes_of rfl) rfl (ji_range1 (by rfl) hy.z_range (ja_cons (je_op opd_sub (je_var 1 (pv 1)) je_int) ja_nil)) (jg_name (pg_name (i := 3) sc_turned.nd rfl (by first | exact .inl rfl | exact .inr rfl))) (jb_one (js_set (i := 2) sc_turned.nd rfl (by first | exact .inl rfl | exact .inr rfl) (je_op opd_mod (je_op opd_mul (je_var 2 (pv 2)) (je_var 0 (pv 0))) (je_var 1 (pv 1)))))) (jb_one (js_ret (je_var 2 (pv 2)))))))
abbrev F_turned : CF := (cDef 2 4 b_turned)
theorem g_turned (hy : Hy K mg) (tb : Tbs hy base) : JF P w K mg base 1 hy.f_turned hy.fd_turned ["number", "prime"] (nm hy) F_turned := g0_turned hy tb
def b_cleared : CS := (sSeq (sAsg (cLc (ciSeq (cVar 0)) (gNm 10) ctYes (cFn (f1 gList) (cCons (cVar 10) cNil)) [10]) (gNm 0)) (sSeq (sPar3 2 3 4 (cCons (cC (.int 0)) (cCons (cC (.int 1)) (cCons (cFn (f1 gLenA) (cCons (cOp fIx (cVar 0) (cC (.int 0))) cNil)) cNil)))) (sSeq (sFor (ciR1 (cCons (cVar 4) cNil)) (gNm 5) (sSeq (sAsg (cLc (ciR2 (cCons (cVar 2) (cCons (cFn (f1 gLenA) (cCons (cVar 0) cNil)) cNil))) (gNm 6) (cTst (cOp fNe (cOp fIx (cOp fIx (cVar 0) (cVar 6)) (cVar 5)) (cC (.int 0)))) (cVar 6) [6]) (gNm 7)) (sSeq (sIf (cTst (cOp fEq (cVar 7) (cLst cNil))) sCont sNil) (sSeq (sIf (cTst (cOp fNe (cOp fIx (cVar 7) (cC (.int 0))) (cVar 2))) (sSeq (sAsg (cTup (cCons (cOp fIx (cVar 0) (cOp fIx (cVar 7) (cC (.int 0)))) (cCons (cOp fIx (cVar 0) (cVar 2)) cNil))) (gTp 2 (gsCons (gSb (cVar 0) (cVar 2)) (gsCons (gSb (cVar 0) (cOp fIx (cVar 7) (cC (.int 0)))) gsNil)))) (sAsg (cNeg (cVar 3)) (gNm 3))) sNil) (sSeq (sAsg (cOp fMod (cOp fMul (cVar 3) (cOp fIx (cOp fIx (cVar 0) (cVar 2)) (cVar 5))) (cVar 1)) (gNm 3)) (sSeq (sAsg (cCall F_turned (cCons (cOp fIx (cOp fIx (cVar 0) (cVar 2)) (cVar 5)) (cCons (cVar 1) cNil))) (gNm 8)) (sSeq (sAsg (cLc (ciSeq (cOp fIx (cVar 0) (cVar 2))) (gNm 11) ctYes (cOp fMod (cOp fMul (cVar 11) (cVar 8)) (cVar 1)) [11]) (gSb (cVar 0) (cVar 2))) (sSeq (sFor (ciR1 (cCons (cFn (f1 gLenA) (cCons (cVar 0) cNil)) cNil)) (gNm 6) (sIf (ctAnd (cTst (cOp fNe (cVar 6) (cVar 2))) (cTst (cOp fNe (cOp fIx (cOp fIx (cVar 0) (cVar 6)) (cVar 5)) (cC (.int 0))))) (sSeq (sAsg (cOp fIx (cOp fIx (cVar 0) (cVar 6)) (cVar 5)) (gNm 9)) (sAsg (cLc (ciZip2 (cCons (cOp fIx (cVar 0) (cVar 6)) (cCons (cOp fIx (cVar 0) (cVar 2)) cNil))) (gTp 2 (gsCons (gNm 12) (gsCons (gNm 13) gsNil))) ctYes (cOp fMod (cOp fSub (cVar 12) (cOp fMul (cVar 9) (cVar 13))) (cVar 1)) [12, 13]) (gSb (cVar 0) (cVar 6)))) sNil)) (sAug 2 (fI2 iadd) (cC (.int 1))))))))))) (sRet (cTup (cCons (cFn (f1 gTuple) (cCons (cLc (ciSeq (cVar 0)) (gNm 10) ctYes (cFn (f1 gTuple) (cCons (cVar 10) cNil)) [10]) cNil)) (cCons (cVar 2) (cCons (cOp fMod (cVar 3) (cVar 1)) cNil))))))))
theorem g0_cleared (hy : Hy K mg) (tb : Tbs hy base) : JF P w K mg base 2 hy.f_cleared hy.fd_cleared ["rows", "prime"] (nm hy) (cDef 2 14 b_cleared) :=
  have g_turned := g_turned (P := P) (w := w) (base := base) hy tb; jf_def (k := 1) hy.F_cleared sc_cleared fun cdv A outer s H E hr => (jb_cons (by first | exact js_setLc (E' := E0) (own := [("row", 10)]) (i := 0) rfl sc_cleared.nd rfl rfl (sw_true rfl rfl rfl (by decide +kernel)) (ji_seq (je_var 0 (pv 0))) (blkOk_by (N := ["rows", "prime", "done", "whole", "wide", "j", "k", "hit", "back", "much", "row", "number", "a", "b"]) (sc := defScope s_cleared) (own := [("row", 10)]) (by decide +kernel)) (fun _ _ _ _ _ => (jgw_name (pg_name (i := 10) sc_cleared.nd rfl (by first | exact .inl rfl | exact .inr rfl)))) (fun _ _ _ _ _ => jts_nil) (fun _ _ _ _ _ => (je_ty ty_list (by rfl) hy.z_list (by rfl) (ja_cons (je_var 10 (pv 10)) ja_nil))) | exact js_set (i := 0) sc_cleared.nd rfl (by first | exact .inl rfl | exact .inr rfl) (je_lc (E' := E0) (own := [("row", 10)]) rfl sc_cleared.nd (ji_seq (je_var 0 (pv 0))) (blkOk_by (N := ["rows", "prime", "done", "whole", "wide", "j", "k", "hit", "back", "much", "row", "number", "a", "b"]) (sc := defScope s_cleared) (own := [("row", 10)]) (by decide +kernel)) (fun _ _ _ _ _ => (jgw_name (pg_name (i := 10) sc_cleared.nd rfl (by first | exact .inl rfl | exact .inr rfl)))) (fun _ _ _ _ _ => jts_nil) (fun _ _ _ _ _ => (je_ty ty_list (by rfl) hy.z_list (by rfl) (ja_cons (je_var 10 (pv 10)) ja_nil))))) (jb_cons (js_par3 (i := 2) (j := 3) (l := 4) rfl sc_cleared.nd rfl rfl rfl (by decide) (by decide) (by decide) rfl rfl rfl (ja_cons je_int (ja_cons je_int (ja_cons (je_blt blt_lenA (by rfl) hy.z_len (by rfl) (ja_cons (je_ix (hu_of hr) (je_var 0 (pv 0)) je_int (fun _ _ => rfl)) ja_nil)) ja_nil))) (by first | rfl | decide +kernel | with_unfolding_all rfl)) (jb_cons (js_for (passes_of rfl) rfl (ji_range1 (by rfl) hy.z_range (ja_cons (je_var 4 (pv 4)) ja_nil)) (jg_name (pg_name (i := 5) sc_cleared.nd rfl (by first | exact .inl rfl | exact .inr rfl))) (jb_cons (by first | exact js_setLc (E' := E0) (own := [("k", 6)]) (i := 7) rfl sc_cleared.nd rfl rfl (sw_true rfl rfl rfl (by decide +kernel)) (ji_range2 (by rfl) hy.z_range (ja_cons (je_var 2 (pv 2)) (ja_cons (je_blt blt_lenA (by rfl) hy.z_len (by rfl) (ja_cons (je_var 0 (pv 0)) ja_nil)) ja_nil))) (blkOk_by (N := ["rows", "prime", "done", "whole", "wide", "j", "k", "hit", "back", "much", "row", "number", "a", "b"]) (sc := defScope s_cleared) (own := [("k", 6)]) (by decide +kernel)) (fun _ _ _ _ _ => (jgw_name (pg_name (i := 6) sc_cleared.nd rfl (by first | exact .inl rfl | exact .inr rfl)))) (fun _ _ _ _ _ => (jts_one (jt_cmp (opd_ne hr.units) (je_ix (hu_of hr) (je_ix (hu_of hr) (je_var 0 (pv 0)) (je_var 6 (pv 6)) (fun _ _ => rfl)) (je_var 5 (pv 5)) (fun _ _ => rfl)) je_int (by rfl)))) (fun _ _ _ _ _ => (je_var 6 (pv 6))) | exact js_set (i := 7) sc_cleared.nd rfl (by first | exact .inl rfl | exact .inr rfl) (je_lc (E' := E0) (own := [("k", 6)]) rfl sc_cleared.nd (ji_range2 (by rfl) hy.z_range (ja_cons (je_var 2 (pv 2)) (ja_cons (je_blt blt_lenA (by rfl) hy.z_len (by rfl) (ja_cons (je_var 0 (pv 0)) ja_nil)) ja_nil))) (blkOk_by (N := ["rows", "prime", "done", "whole", "wide", "j", "k", "hit", "back", "much", "row", "number", "a", "b"]) (sc := defScope s_cleared) (own := [("k", 6)]) (by decide +kernel)) (fun _ _ _ _ _ => (jgw_name (pg_name (i := 6) sc_cleared.nd rfl (by first | exact .inl rfl | exact .inr rfl)))) (fun _ _ _ _ _ => (jts_one (jt_cmp (opd_ne hr.units) (je_ix (hu_of hr) (je_ix (hu_of hr) (je_var 0 (pv 0)) (je_var 6 (pv 6)) (fun _ _ => rfl)) (je_var 5 (pv 5)) (fun _ _ => rfl)) je_int (by rfl)))) (fun _ _ _ _ _ => (je_var 6 (pv 6))))) (jb_cons (js_if (jt_cmp (opd_eq hr.units) (je_var 7 (pv 7)) (je_lst ja_nil) (by rfl)) (jb_one js_cont) jb_nil) (jb_cons (js_if (jt_cmp (opd_ne hr.units) (je_ix (hu_of hr) (je_var 7 (pv 7)) je_int (fun _ _ => rfl)) (je_var 2 (pv 2)) (by rfl)) (jb_cons (js_asg (je_tup (ja_cons (je_ix (hu_of hr) (je_var 0 (pv 0)) (je_ix (hu_of hr) (je_var 7 (pv 7)) je_int (fun _ _ => rfl)) (fun _ _ => rfl)) (ja_cons (je_ix (hu_of hr) (je_var 0 (pv 0)) (je_var 2 (pv 2)) (fun _ _ => rfl)) ja_nil))) (jg_tup rfl (jgs_cons (jg_sub (hu_of hr) (je_var 0 (pv 0)) (je_var 2 (pv 2))) (jgs_cons (jg_sub (hu_of hr) (je_var 0 (pv 0)) (je_ix (hu_of hr) (je_var 7 (pv 7)) je_int (fun _ _ => rfl))) jgs_nil)))) (jb_one (js_set (i := 3) sc_cleared.nd rfl (by first | exact .inl rfl | exact .inr rfl) (je_neg (je_var 3 (pv 3)))))) jb_nil) (jb_cons (js_set (i := 3) sc_cleared.nd rfl (by first | exact .inl rfl | exact .inr rfl) (je_op opd_mod (je_op opd_mul (je_var 3 (pv 3)) (je_ix (hu_of hr) (je_ix (hu_of hr) (je_var 0 (pv 0)) (je_var 2 (pv 2)) (fun _ _ => rfl)) (je_var 5 (pv 5)) (fun _ _ => rfl))) (je_var 1 (pv 1)))) (jb_cons (js_set (i := 8) sc_cleared.nd rfl (by first | exact .inl rfl | exact .inr rfl) (je_call g_turned (hr.mono (by decide)) (by rfl) hy.m_turned hy.F_turned.kp hy.b_turned (passes_call (takes_of rfl rfl rfl rfl) (fun _ _ _ _ h => h)) (ja_cons (je_ix (hu_of hr) (je_ix (hu_of hr) (je_var 0 (pv 0)) (je_var 2 (pv 2)) (fun _ _ => rfl)) (je_var 5 (pv 5)) (fun _ _ => rfl)) (ja_cons (je_var 1 (pv 1)) ja_nil)))) (jb_cons (js_asg (je_lc (E' := E0) (own := [("number", 11)]) rfl sc_cleared.nd (ji_seq (je_ix (hu_of hr) (je_var 0 (pv 0)) (je_var 2 (pv 2)) (fun _ _ => rfl))) (blkOk_by (N := ["rows", "prime", "done", "whole", "wide", "j", "k", "hit", "back", "much", "row", "number", "a", "b"]) (sc := defScope s_cleared) (own := [("number", 11)]) (by decide +kernel)) (fun _ _ _ _ _ => (jgw_name (pg_name (i := 11) sc_cleared.nd rfl (by first | exact .inl rfl | exact .inr rfl)))) (fun _ _ _ _ _ => jts_nil) (fun _ _ _ _ _ => (je_op opd_mod (je_op opd_mul (je_var 11 (pv 11)) (je_var 8 (pv 8))) (je_var 1 (pv 1))))) (jg_sub (hu_of hr) (je_var 0 (pv 0)) (je_var 2 (pv 2)))) (jb_cons (js_for (passes_of rfl) rfl (ji_range1 (by rfl) hy.z_range (ja_cons (je_blt blt_lenA (by rfl) hy.z_len (by rfl) (ja_cons (je_var 0 (pv 0)) ja_nil)) ja_nil)) (jg_name (pg_name (i := 6) sc_cleared.nd rfl (by first | exact .inl rfl | exact .inr rfl))) (jb_one (js_if (jt_of (jw_and (jt_cmp (opd_ne hr.units) (je_var 6 (pv 6)) (je_var 2 (pv 2)) (by rfl)) (jw_and1 (jt_cmp (opd_ne hr.units) (je_ix (hu_of hr) (je_ix (hu_of hr) (je_var 0 (pv 0)) (je_var 6 (pv 6)) (fun _ _ => rfl)) (je_var 5 (pv 5)) (fun _ _ => rfl)) je_int (by rfl))))) (jb_cons (js_set (i := 9) sc_cleared.nd rfl (by first | exact .inl rfl | exact .inr rfl) (je_ix (hu_of hr) (je_ix (hu_of hr) (je_var 0 (pv 0)) (je_var 6 (pv 6)) (fun _ _ => rfl)) (je_var 5 (pv 5)) (fun _ _ => rfl))) (jb_one (js_asg (je_lc (E' := E0) (own := [("a", 12), ("b", 13)]) rfl sc_cleared.nd (ji_zip2 (by rfl) hy.z_zip (ja_cons (je_ix (hu_of hr) (je_var 0 (pv 0)) (je_var 6 (pv 6)) (fun _ _ => rfl)) (ja_cons (je_ix (hu_of hr) (je_var 0 (pv 0)) (je_var 2 (pv 2)) (fun _ _ => rfl)) ja_nil))) (blkOk_by (N := ["rows", "prime", "done", "whole", "wide", "j", "k", "hit", "back", "much", "row", "number", "a", "b"]) (sc := defScope s_cleared) (own := [("a", 12), ("b", 13)]) (by decide +kernel)) (fun _ _ _ _ _ => (jgw_tup rfl (jgsw_cons (jgw_name (pg_name (i := 12) sc_cleared.nd rfl (by first | exact .inl rfl | exact .inr rfl))) (jgsw_cons (jgw_name (pg_name (i := 13) sc_cleared.nd rfl (by first | exact .inl rfl | exact .inr rfl))) jgsw_nil)))) (fun _ _ _ _ _ => jts_nil) (fun _ _ _ _ _ => (je_op opd_mod (je_op opd_sub (je_var 12 (pv 12)) (je_op opd_mul (je_var 9 (pv 9)) (je_var 13 (pv 13)))) (je_var 1 (pv 1))))) (jg_sub (hu_of hr) (je_var 0 (pv 0)) (je_var 6 (pv 6)))))) jb_nil))) (jb_one (js_aug (i := 2) sc_cleared.nd rfl (by first | exact .inl rfl | exact .inr rfl) je_int opd_iadd)))))))))) (jb_one (js_ret (je_tup (ja_cons (je_ty ty_tuple (by rfl) hy.z_tuple (by rfl) (ja_cons (je_lc (E' := E0) (own := [("row", 10)]) rfl sc_cleared.nd (ji_seq (je_var 0 (pv 0))) (blkOk_by (N := ["rows", "prime", "done", "whole", "wide", "j", "k", "hit", "back", "much", "row", "number", "a", "b"]) (sc := defScope s_cleared) (own := [("row", 10)]) (by decide +kernel)) (fun _ _ _ _ _ => (jgw_name (pg_name (i := 10) sc_cleared.nd rfl (by first | exact .inl rfl | exact .inr rfl)))) (fun _ _ _ _ _ => jts_nil) (fun _ _ _ _ _ => (je_ty ty_tuple (by rfl) hy.z_tuple (by rfl) (ja_cons (je_var 10 (pv 10)) ja_nil)))) ja_nil)) (ja_cons (je_var 2 (pv 2)) (ja_cons (je_op opd_mod (je_var 3 (pv 3)) (je_var 1 (pv 1))) ja_nil)))))))))
abbrev F_cleared : CF := (cDef 2 14 b_cleared)
theorem g_cleared (hy : Hy K mg) (tb : Tbs hy base) : JF P w K mg base 2 hy.f_cleared hy.fd_cleared ["rows", "prime"] (nm hy) F_cleared := g0_cleared hy tb
def b_step : CS := (sAsg (cLc (ciZip2 (cCons (cOp fIx (cVar 0) (cVar 1)) (cCons (cOp fIx (cVar 0) (cVar 2)) cNil))) (gTp 2 (gsCons (gNm 5) (gsCons (gNm 6) gsNil))) ctYes (cOp fMod (cOp fAdd (cVar 5) (cOp fMul (cVar 3) (cVar 6))) (cVar 4)) [5, 6]) (gSb (cVar 0) (cVar 1)))
theorem g0_step (hy : Hy K mg) (tb : Tbs hy base) : JF P w K mg base 1 hy.f_step hy.fd_step ["rows", "k", "j", "much", "prime"] (nm hy) (cDef 5 7 b_step) :=
   jf_def (k := 0) hy.F_step sc_step fun cdv A outer s H E hr => (jb_one (js_asg (je_lc (E' := E0) (own := [("a", 5), ("b", 6)]) rfl sc_step.nd (ji_zip2 (by rfl) hy.z_zip (ja_cons (je_ix (hu_of hr) (je_var 0 (pv 0)) (je_var 1 (pv 1)) (fun _ _ => rfl)) (ja_cons (je_ix (hu_of hr) (je_var 0 (pv 0)) (je_var 2 (pv 2)) (fun _ _ => rfl)) ja_nil))) (blkOk_by (N := ["rows", "k", "j", "much", "prime", "a", "b"]) (sc := defScope s_step) (own := [("a", 5), ("b", 6)]) (by decide +kernel)) (fun _ _ _ _ _ => (jgw_tup rfl (jgsw_cons (jgw_name (pg_name (i := 5) sc_step.nd rfl (by first | exact .inl rfl | exact .inr rfl))) (jgsw_cons (jgw_name (pg_name (i := 6) sc_step.nd rfl (by first | exact .inl rfl | exact .inr rfl))) jgsw_nil)))) (fun _ _ _ _ _ => jts_nil) (fun _ _ _ _ _ => (je_op opd_mod (je_op opd_add (je_var 5 (pv 5)) (je_op opd_mul (je_var 3 (pv 3)) (je_var 6 (pv 6)))) (je_var 4 (pv 4))))) (jg_sub (hu_of hr) (je_var 0 (pv 0)) (je_var 1 (pv 1)))))
abbrev F_step : CF := (cDef 5 7 b_step)
theorem g_step (hy : Hy K mg) (tb : Tbs hy base) : JF P w K mg base 1 hy.f_step hy.fd_step ["rows", "k", "j", "much", "prime"] (nm hy) F_step := g0_step hy tb
def b_by_adding : CS := (sSeq (sAsg (cLc (ciSeq (cVar 0)) (gNm 10) ctYes (cFn (f1 gList) (cCons (cVar 10) cNil)) [10]) (gNm 2)) (sSeq (sPar 3 4 (cCons (cFn (f1 gLenA) (cCons (cVar 2) cNil)) (cCons (cLst cNil) cNil))) (sSeq (sFor (ciR1 (cCons (cVar 3) cNil)) (gNm 5) (sSeq (sIf (cTst (cOp fEq (cOp fIx (cOp fIx (cVar 2) (cVar 5)) (cVar 5)) (cC (.int 0)))) (sSeq (sAsg (cLc (ciR2 (cCons (cOp fAdd (cVar 5) (cC (.int 1))) (cCons (cVar 3) cNil))) (gNm 6) (cTst (cOp fNe (cOp fIx (cOp fIx (cVar 2) (cVar 6)) (cVar 5)) (cC (.int 0)))) (cVar 6) [6]) (gNm 7)) (sSeq (sIf (cTst (cOp fEq (cVar 7) (cLst cNil))) (sRaise 3) sNil) (sSeq (sExpr (cCall F_step (cCons (cVar 2) (cCons (cVar 5) (cCons (cOp fIx (cVar 7) (cC (.int 0))) (cCons (cC (.int 1)) (cCons (cVar 1) cNil))))))) (sExpr (cMt fAppend (cVar 4) (cCons (cTup (cCons (cVar 5) (cCons (cOp fIx (cVar 7) (cC (.int 0))) (cCons (cC (.int 1)) cNil)))) cNil)))))) sNil) (sFor (ciR1 (cCons (cVar 3) cNil)) (gNm 6) (sIf (ctAnd (cTst (cOp fNe (cVar 6) (cVar 5))) (cTst (cOp fNe (cOp fIx (cOp fIx (cVar 2) (cVar 6)) (cVar 5)) (cC (.int 0))))) (sSeq (sAsg (cOp fMod (cOp fMul (cNeg (cOp fIx (cOp fIx (cVar 2) (cVar 6)) (cVar 5))) (cCall F_turned (cCons (cOp fIx (cOp fIx (cVar 2) (cVar 5)) (cVar 5)) (cCons (cVar 1) cNil)))) (cVar 1)) (gNm 8)) (sSeq (sExpr (cCall F_step (cCons (cVar 2) (cCons (cVar 6) (cCons (cVar 5) (cCons (cVar 8) (cCons (cVar 1) cNil))))))) (sExpr (cMt fAppend (cVar 4) (cCons (cTup (cCons (cVar 6) (cCons (cVar 5) (cCons (cVar 8) cNil)))) cNil))))) sNil)))) (sSeq (sAsg (cLc (ciSeq (cVar 4)) (gTp 3 (gsCons (gNm 6) (gsCons (gNm 5) (gsCons (gNm 8) gsNil)))) ctYes (cTup (cCons (cVar 6) (cCons (cVar 5) (cCons (cOp fMod (cNeg (cVar 8)) (cVar 1)) cNil)))) [6, 5, 8]) (gNm 9)) (sRet (cTup (cCons (cFn (f1 gTuple) (cCons (cVar 9) cNil)) (cCons (cFn (f1 gTuple) (cCons (cLc (ciR1 (cCons (cVar 3) cNil)) (gNm 6) ctYes (cOp fIx (cOp fIx (cVar 2) (cVar 6)) (cVar 6)) [6]) cNil)) cNil))))))))
theorem g0_by_adding (hy : Hy K mg) (tb : Tbs hy base) : JF P w K mg base 2 hy.f_by_adding hy.fd_by_adding ["grid", "prime"] (nm hy) (cDef 2 11 b_by_adding) :=
  have g_step := g_step (P := P) (w := w) (base := base) hy tb; have g_turned := g_turned (P := P) (w := w) (base := base) hy tb; jf_def (k := 1) hy.F_by_adding sc_by_adding fun cdv A outer s H E hr => (jb_cons (by first | exact js_setLc (E' := E0) (own := [("row", 10)]) (i := 2) rfl sc_by_adding.nd rfl rfl (sw_true rfl rfl rfl (by decide +kernel)) (ji_seq (je_var 0 (pv 0))) (blkOk_by (N := ["grid", "prime", "rows", "many", "steps", "j", "k", "hit", "much", "undone", "row"]) (sc := defScope s_by_adding) (own := [("row", 10)]) (by decide +kernel)) (fun _ _ _ _ _ => (jgw_name (pg_name (i := 10) sc_by_adding.nd rfl (by first | exact .inl rfl | exact .inr rfl)))) (fun _ _ _ _ _ => jts_nil) (fun _ _ _ _ _ => (je_ty ty_list (by rfl) hy.z_list (by rfl) (ja_cons (je_var 10 (pv 10)) ja_nil))) | exact js_set (i := 2) sc_by_adding.nd rfl (by first | exact .inl rfl | exact .inr rfl) (je_lc (E' := E0) (own := [("row", 10)]) rfl sc_by_adding.nd (ji_seq (je_var 0 (pv 0))) (blkOk_by (N := ["grid", "prime", "rows", "many", "steps", "j", "k", "hit", "much", "undone", "row"]) (sc := defScope s_by_adding) (own := [("row", 10)]) (by decide +kernel)) (fun _ _ _ _ _ => (jgw_name (pg_name (i := 10) sc_by_adding.nd rfl (by first | exact .inl rfl | exact .inr rfl)))) (fun _ _ _ _ _ => jts_nil) (fun _ _ _ _ _ => (je_ty ty_list (by rfl) hy.z_list (by rfl) (ja_cons (je_var 10 (pv 10)) ja_nil))))) (jb_cons (js_par (i := 3) (j := 4) rfl sc_by_adding.nd rfl rfl (by decide) rfl rfl (ja_cons (je_blt blt_lenA (by rfl) hy.z_len (by rfl) (ja_cons (je_var 2 (pv 2)) ja_nil)) (ja_cons (je_lst ja_nil) ja_nil)) (by first | rfl | decide +kernel | with_unfolding_all rfl)) (jb_cons (js_for (passes_of rfl) rfl (ji_range1 (by rfl) hy.z_range (ja_cons (je_var 3 (pv 3)) ja_nil)) (jg_name (pg_name (i := 5) sc_by_adding.nd rfl (by first | exact .inl rfl | exact .inr rfl))) (jb_cons (js_if (jt_cmp (opd_eq hr.units) (je_ix (hu_of hr) (je_ix (hu_of hr) (je_var 2 (pv 2)) (je_var 5 (pv 5)) (fun _ _ => rfl)) (je_var 5 (pv 5)) (fun _ _ => rfl)) je_int (by rfl)) (jb_cons (by first | exact js_setLc (E' := E0) (own := [("k", 6)]) (i := 7) rfl sc_by_adding.nd rfl rfl (sw_true rfl rfl rfl (by decide +kernel)) (ji_range2 (by rfl) hy.z_range (ja_cons (je_op opd_add (je_var 5 (pv 5)) je_int) (ja_cons (je_var 3 (pv 3)) ja_nil))) (blkOk_by (N := ["grid", "prime", "rows", "many", "steps", "j", "k", "hit", "much", "undone", "row"]) (sc := defScope s_by_adding) (own := [("k", 6)]) (by decide +kernel)) (fun _ _ _ _ _ => (jgw_name (pg_name (i := 6) sc_by_adding.nd rfl (by first | exact .inl rfl | exact .inr rfl)))) (fun _ _ _ _ _ => (jts_one (jt_cmp (opd_ne hr.units) (je_ix (hu_of hr) (je_ix (hu_of hr) (je_var 2 (pv 2)) (je_var 6 (pv 6)) (fun _ _ => rfl)) (je_var 5 (pv 5)) (fun _ _ => rfl)) je_int (by rfl)))) (fun _ _ _ _ _ => (je_var 6 (pv 6))) | exact js_set (i := 7) sc_by_adding.nd rfl (by first | exact .inl rfl | exact .inr rfl) (je_lc (E' := E0) (own := [("k", 6)]) rfl sc_by_adding.nd (ji_range2 (by rfl) hy.z_range (ja_cons (je_op opd_add (je_var 5 (pv 5)) je_int) (ja_cons (je_var 3 (pv 3)) ja_nil))) (blkOk_by (N := ["grid", "prime", "rows", "many", "steps", "j", "k", "hit", "much", "undone", "row"]) (sc := defScope s_by_adding) (own := [("k", 6)]) (by decide +kernel)) (fun _ _ _ _ _ => (jgw_name (pg_name (i := 6) sc_by_adding.nd rfl (by first | exact .inl rfl | exact .inr rfl)))) (fun _ _ _ _ _ => (jts_one (jt_cmp (opd_ne hr.units) (je_ix (hu_of hr) (je_ix (hu_of hr) (je_var 2 (pv 2)) (je_var 6 (pv 6)) (fun _ _ => rfl)) (je_var 5 (pv 5)) (fun _ _ => rfl)) je_int (by rfl)))) (fun _ _ _ _ _ => (je_var 6 (pv 6))))) (jb_cons (js_if (jt_cmp (opd_eq hr.units) (je_var 7 (pv 7)) (je_lst ja_nil) (by rfl)) (jb_one (js_raise rfl (takes_of rfl rfl rfl rfl) (pmk_own PySem.F.excBase_ValueError hy.x_NoWay hy.g_NoWay hy.k_NoWay (raises_own hy.s_NoWay hy.t_NoWay) (by rfl)) rfl)) jb_nil) (jb_cons (js_expr (je_call g_step (hr.mono (by decide)) (by rfl) hy.m_step hy.F_step.kp hy.b_step (passes_call (takes_of rfl rfl rfl rfl) (fun _ _ _ _ h => h)) (ja_cons (je_var 2 (pv 2)) (ja_cons (je_var 5 (pv 5)) (ja_cons (je_ix (hu_of hr) (je_var 7 (pv 7)) je_int (fun _ _ => rfl)) (ja_cons je_int (ja_cons (je_var 1 (pv 1)) ja_nil))))))) (jb_one (js_expr (je_mt PySem.F.plainAttrs_list PySem.F.slot_list_append PySem.F.type_list_append mtd_append (je_var 4 (pv 4)) (ja_cons (je_tup (ja_cons (je_var 5 (pv 5)) (ja_cons (je_ix (hu_of hr) (je_var 7 (pv 7)) je_int (fun _ _ => rfl)) (ja_cons je_int ja_nil)))) ja_nil))))))) jb_nil) (jb_one (js_for (passes_of rfl) rfl (ji_range1 (by rfl) hy.z_range (ja_cons (je_var 3 (pv 3)) ja_nil)) (jg_name (pg_name (i := 6) sc_by_adding.nd rfl (by first | exact .inl rfl | exact .inr rfl))) (jb_one (js_if (jt_of (jw_and (jt_cmp (opd_ne hr.units) (je_var 6 (pv 6)) (je_var 5 (pv 5)) (by rfl)) (jw_and1 (jt_cmp (opd_ne hr.units) (je_ix (hu_of hr) (je_ix (hu_of hr) (je_var 2 (pv 2)) (je_var 6 (pv 6)) (fun _ _ => rfl)) (je_var 5 (pv 5)) (fun _ _ => rfl)) je_int (by rfl))))) (jb_cons (js_set (i := 8) sc_by_adding.nd rfl (by first | exact .inl rfl | exact .inr rfl) (je_op opd_mod (je_op opd_mul (je_neg (je_ix (hu_of hr) (je_ix (hu_of hr) (je_var 2 (pv 2)) (je_var 6 (pv 6)) (fun _ _ => rfl)) (je_var 5 (pv 5)) (fun _ _ => rfl))) (je_call g_turned (hr.mono (by decide)) (by rfl) hy.m_turned hy.F_turned.kp hy.b_turned (passes_call (takes_of rfl rfl rfl rfl) (fun _ _ _ _ h => h)) (ja_cons (je_ix (hu_of hr) (je_ix (hu_of hr) (je_var 2 (pv 2)) (je_var 5 (pv 5)) (fun _ _ => rfl)) (je_var 5 (pv 5)) (fun _ _ => rfl)) (ja_cons (je_var 1 (pv 1)) ja_nil)))) (je_var 1 (pv 1)))) (jb_cons (js_expr (je_call g_step (hr.mono (by decide)) (by rfl) hy.m_step hy.F_step.kp hy.b_step (passes_call (takes_of rfl rfl rfl rfl) (fun _ _ _ _ h => h)) (ja_cons (je_var 2 (pv 2)) (ja_cons (je_var 6 (pv 6)) (ja_cons (je_var 5 (pv 5)) (ja_cons (je_var 8 (pv 8)) (ja_cons (je_var 1 (pv 1)) ja_nil))))))) (jb_one (js_expr (je_mt PySem.F.plainAttrs_list PySem.F.slot_list_append PySem.F.type_list_append mtd_append (je_var 4 (pv 4)) (ja_cons (je_tup (ja_cons (je_var 6 (pv 6)) (ja_cons (je_var 5 (pv 5)) (ja_cons (je_var 8 (pv 8)) ja_nil)))) ja_nil)))))) jb_nil)))))) (jb_cons (by first | exact js_setLc (E' := E0) (own := [("k", 6), ("j", 5), ("much", 8)]) (i := 9) rfl sc_by_adding.nd rfl rfl (sw_true rfl rfl rfl (by decide +kernel)) (ji_seq (je_var 4 (pv 4))) (blkOk_by (N := ["grid", "prime", "rows", "many", "steps", "j", "k", "hit", "much", "undone", "row"]) (sc := defScope s_by_adding) (own := [("k", 6), ("j", 5), ("much", 8)]) (by decide +kernel)) (fun _ _ _ _ _ => (jgw_tup rfl (jgsw_cons (jgw_name (pg_name (i := 6) sc_by_adding.nd rfl (by first | exact .inl rfl | exact .inr rfl))) (jgsw_cons (jgw_name (pg_name (i := 5) sc_by_adding.nd rfl (by first | exact .inl rfl | exact .inr rfl))) (jgsw_cons (jgw_name (pg_name (i := 8) sc_by_adding.nd rfl (by first | exact .inl rfl | exact .inr rfl))) jgsw_nil))))) (fun _ _ _ _ _ => jts_nil) (fun _ _ _ _ _ => (je_tup (ja_cons (je_var 6 (pv 6)) (ja_cons (je_var 5 (pv 5)) (ja_cons (je_op opd_mod (je_neg (je_var 8 (pv 8))) (je_var 1 (pv 1))) ja_nil))))) | exact js_set (i := 9) sc_by_adding.nd rfl (by first | exact .inl rfl | exact .inr rfl) (je_lc (E' := E0) (own := [("k", 6), ("j", 5), ("much", 8)]) rfl sc_by_adding.nd (ji_seq (je_var 4 (pv 4))) (blkOk_by (N := ["grid", "prime", "rows", "many", "steps", "j", "k", "hit", "much", "undone", "row"]) (sc := defScope s_by_adding) (own := [("k", 6), ("j", 5), ("much", 8)]) (by decide +kernel)) (fun _ _ _ _ _ => (jgw_tup rfl (jgsw_cons (jgw_name (pg_name (i := 6) sc_by_adding.nd rfl (by first | exact .inl rfl | exact .inr rfl))) (jgsw_cons (jgw_name (pg_name (i := 5) sc_by_adding.nd rfl (by first | exact .inl rfl | exact .inr rfl))) (jgsw_cons (jgw_name (pg_name (i := 8) sc_by_adding.nd rfl (by first | exact .inl rfl | exact .inr rfl))) jgsw_nil))))) (fun _ _ _ _ _ => jts_nil) (fun _ _ _ _ _ => (je_tup (ja_cons (je_var 6 (pv 6)) (ja_cons (je_var 5 (pv 5)) (ja_cons (je_op opd_mod (je_neg (je_var 8 (pv 8))) (je_var 1 (pv 1))) ja_nil))))))) (jb_one (js_ret (je_tup (ja_cons (je_ty ty_tuple (by rfl) hy.z_tuple (by rfl) (ja_cons (je_var 9 (pv 9)) ja_nil)) (ja_cons (je_ty ty_tuple (by rfl) hy.z_tuple (by rfl) (ja_cons (je_lc (E' := E0) (own := [("k", 6)]) rfl sc_by_adding.nd (ji_range1 (by rfl) hy.z_range (ja_cons (je_var 3 (pv 3)) ja_nil)) (blkOk_by (N := ["grid", "prime", "rows", "many", "steps", "j", "k", "hit", "much", "undone", "row"]) (sc := defScope s_by_adding) (own := [("k", 6)]) (by decide +kernel)) (fun _ _ _ _ _ => (jgw_name (pg_name (i := 6) sc_by_adding.nd rfl (by first | exact .inl rfl | exact .inr rfl)))) (fun _ _ _ _ _ => jts_nil) (fun _ _ _ _ _ => (je_ix (hu_of hr) (je_ix (hu_of hr) (je_var 2 (pv 2)) (je_var 6 (pv 6)) (fun _ _ => rfl)) (je_var 6 (pv 6)) (fun _ _ => rfl)))) ja_nil)) ja_nil)))))))))
abbrev F_by_adding : CF := (cDef 2 11 b_by_adding)
theorem g_by_adding (hy : Hy K mg) (tb : Tbs hy base) : JF P w K mg base 2 hy.f_by_adding hy.fd_by_adding ["grid", "prime"] (nm hy) F_by_adding := g0_by_adding hy tb
theorem g0__law_roll (hy : Hy K mg) (tb : Tbs hy base) : JF P w K mg base 1 hy.f__law_roll hy.fd__law_roll ["dice", "many"] (nm hy) (cDef 2 3 b_roll) :=
   jf_def (k := 0) hy.F__law_roll sc__law_roll fun cdv A outer s H E hr => (jb_cons (js_if (jt_of (jw_or (jt_cmp (opd_eq hr.units) (je_ix (hu_of hr) (je_var 0 (pv 0)) je_int (fun _ _ => rfl)) je_int (by rfl)) (jw_or1 (jt_of (jw_and (jt_cmp (opd_eq hr.units) (je_ix (hu_of hr) (je_var 0 (pv 0)) je_int (fun _ _ => rfl)) je_int (by rfl)) (jw_and1 (jt_cmp opd_gt (je_ix (hu_of hr) (je_var 0 (pv 0)) je_int (fun _ _ => rfl)) je_int (by rfl)))))))) (jb_cons (js_set (i := 2) sc__law_roll.nd rfl (by first | exact .inl rfl | exact .inr rfl) (je_op opd_mod (je_ty ty_int (by rfl) hy.z_int (by rfl) (ja_cons (je_ix (hu_of hr) (je_var 0 (pv 0)) je_int (fun _ _ => rfl)) ja_nil)) (je_var 1 (pv 1)))) (jb_cons (js_asg (je_op opd_div (je_ix (hu_of hr) (je_var 0 (pv 0)) je_int (fun _ _ => rfl)) (je_var 1 (pv 1))) (jg_sub (hu_of hr) (je_var 0 (pv 0)) je_int)) (jb_one (js_ret (je_var 2 (pv 2)))))) jb_nil) (jb_cons (js_asg je_int (jg_sub (hu_of hr) (je_var 0 (pv 0)) je_int)) (jb_cons (js_asg (je_op opd_mod (je_ty ty_int (by rfl) hy.z_int (by rfl) (ja_cons (je_op opd_add (je_op opd_add (je_op opd_mul (je_ix (hu_of hr) (je_var 0 (pv 0)) je_int (fun _ _ => rfl)) je_int) (je_op opd_mul (je_ix (hu_of hr) (je_var 0 (pv 0)) je_int (fun _ _ => rfl)) je_int)) je_int) ja_nil)) je_int) (jg_sub (hu_of hr) (je_var 0 (pv 0)) je_int)) (jb_cons (js_asg (je_op opd_add (je_ix (hu_of hr) (je_var 0 (pv 0)) je_int (fun _ _ => rfl)) je_int) (jg_sub (hu_of hr) (je_var 0 (pv 0)) je_int)) (jb_one (js_ret (je_op opd_mod (je_ty ty_int (by rfl) hy.z_int (by rfl) (ja_cons (je_op opd_add (je_op opd_div (je_ix (hu_of hr) (je_var 0 (pv 0)) je_int (fun _ _ => rfl)) je_int) (je_ix (hu_of hr) (je_var 0 (pv 0)) je_int (fun _ _ => rfl))) ja_nil)) (je_var 1 (pv 1)))))))))
abbrev F__law_roll : CF := fRoll
theorem g__law_roll (hy : Hy K mg) (tb : Tbs hy base) : JF P w K mg base 1 hy.f__law_roll hy.fd__law_roll ["dice", "many"] (nm hy) F__law_roll := jf_roll (g0__law_roll hy tb) roll_ok
def b_of_adding : CS := (sSeq (sAsg (cFn (f1 gLenA) (cCons (cVar 1) cNil)) (gNm 3)) (sSeq (sAsg (cCall F_unit (cCons (cVar 3) cNil)) (gNm 4)) (sSeq (sFor (ciSeq (cVar 0)) (gTp 3 (gsCons (gNm 5) (gsCons (gNm 6) (gsCons (gNm 7) gsNil)))) (sAsg (cCall F_times (cCons (cVar 4) (cCons (cCall F_adding (cCons (cVar 3) (cCons (cVar 5) (cCons (cVar 6) (cCons (cVar 7) cNil))))) (cCons (cVar 2) cNil)))) (gNm 4))) (sRet (cCall F_times (cCons (cVar 4) (cCons (cFn (f1 gTuple) (cCons (cLc (ciR1 (cCons (cVar 3) cNil)) (gNm 5) ctYes (cFn (f1 gTuple) (cCons (cLc (ciR1 (cCons (cVar 3) cNil)) (gNm 6) ctYes (cIf (cTst (cOp fEq (cVar 5) (cVar 6))) (cOp fIx (cVar 1) (cVar 5)) (cC (.int 0))) [6]) cNil)) [5]) cNil)) (cCons (cVar 2) cNil))))))))
theorem g0_of_adding (hy : Hy K mg) (tb : Tbs hy base) : JF P w K mg base 3 hy.f_of_adding hy.fd_of_adding ["steps", "numbers", "prime"] (nm hy) (cDef 3 8 b_of_adding) :=
  have g_adding := g_adding (P := P) (w := w) (base := base) hy tb; have g_times := g_times (P := P) (w := w) (base := base) hy tb; have g_unit := g_unit (P := P) (w := w) (base := base) hy tb; jf_def (k := 2) hy.F_of_adding sc_of_adding fun cdv A outer s H E hr => (jb_cons (js_set (i := 3) sc_of_adding.nd rfl (by first | exact .inl rfl | exact .inr rfl) (je_blt blt_lenA (by rfl) hy.z_len (by rfl) (ja_cons (je_var 1 (pv 1)) ja_nil))) (jb_cons (js_set (i := 4) sc_of_adding.nd rfl (by first | exact .inl rfl | exact .inr rfl) (je_call g_unit (hr.mono (by decide)) (by rfl) hy.m_unit hy.F_unit.kp hy.b_unit (passes_call (takes_of rfl rfl rfl rfl) (fun _ _ _ _ h => h)) (ja_cons (je_var 3 (pv 3)) ja_nil))) (jb_cons (js_for (passes_of rfl) rfl (ji_seq (je_var 0 (pv 0))) (jg_tup rfl (jgs_cons (jg_name (pg_name (i := 5) sc_of_adding.nd rfl (by first | exact .inl rfl | exact .inr rfl))) (jgs_cons (jg_name (pg_name (i := 6) sc_of_adding.nd rfl (by first | exact .inl rfl | exact .inr rfl))) (jgs_cons (jg_name (pg_name (i := 7) sc_of_adding.nd rfl (by first | exact .inl rfl | exact .inr rfl))) jgs_nil)))) (jb_one (js_set (i := 4) sc_of_adding.nd rfl (by first | exact .inl rfl | exact .inr rfl) (je_call g_times (hr.mono (by decide)) (by rfl) hy.m_times hy.F_times.kp hy.b_times (passes_call (takes_of rfl rfl rfl rfl) (fun _ _ _ _ h => h)) (ja_cons (je_var 4 (pv 4)) (ja_cons (je_call g_adding (hr.mono (by decide)) (by rfl) hy.m_adding hy.F_adding.kp hy.b_adding (passes_call (takes_of rfl rfl rfl rfl) (fun _ _ _ _ h => h)) (ja_cons (je_var 3 (pv 3)) (ja_cons (je_var 5 (pv 5)) (ja_cons (je_var 6 (pv 6)) (ja_cons (je_var 7 (pv 7)) ja_nil))))) (ja_cons (je_var 2 (pv 2)) ja_nil))))))) (jb_one (js_ret (je_call g_times (hr.mono (by decide)) (by rfl) hy.m_times hy.F_times.kp hy.b_times (passes_call (takes_of rfl rfl rfl rfl) (fun _ _ _ _ h => h)) (ja_cons (je_var 4 (pv 4)) (ja_cons (je_ty ty_tuple (by rfl) hy.z_tuple (by rfl) (ja_cons (je_lc (E' := E0) (own := [("k", 5)]) rfl sc_of_adding.nd (ji_range1 (by rfl) hy.z_range (ja_cons (je_var 3 (pv 3)) ja_nil)) (blkOk_by (N := ["steps", "numbers", "prime", "many", "found", "k", "j", "much"]) (sc := defScope s_of_adding) (own := [("k", 5)]) (by decide +kernel)) (fun _ _ _ _ _ => (jgw_name (pg_name (i := 5) sc_of_adding.nd rfl (by first | exact .inl rfl | exact .inr rfl)))) (fun _ _ _ _ _ => jts_nil) (fun _ _ _ _ _ => (je_ty ty_tuple (by rfl) hy.z_tuple (by rfl) (ja_cons (je_lc (E' := E0) (own := [("j", 6)]) rfl sc_of_adding.nd (ji_range1 (by rfl) hy.z_range (ja_cons (je_var 3 (pv 3)) ja_nil)) (blkOk_by (N := ["steps", "numbers", "prime", "many", "found", "k", "j", "much"]) (sc := relS ({ kind := .function, names := [(".0", .local), ("k", .cell), ("tuple", .globalImplicit), ("range", .globalImplicit), ("many", .free), ("numbers", .free)], isGenerator := false, isCoroutine := false } : Scope) (defScope s_of_adding)) (own := [("j", 6)]) (by decide +kernel)) (fun _ _ _ _ _ => (jgw_name (pg_name (i := 6) sc_of_adding.nd rfl (by first | exact .inl rfl | exact .inr rfl)))) (fun _ _ _ _ _ => jts_nil) (fun _ _ _ _ _ => (je_if (jt_cmp (opd_eq hr.units) (je_var 5 (pv 5)) (je_var 6 (pv 6)) (by rfl)) (je_ix (hu_of hr) (je_var 1 (pv 1)) (je_var 5 (pv 5)) (fun _ _ => rfl)) je_int))) ja_nil)))) ja_nil)) (ja_cons (je_var 2 (pv 2)) ja_nil)))))))))
abbrev F_of_adding : CF := (cDef 3 8 b_of_adding)
theorem g_of_adding (hy : Hy K mg) (tb : Tbs hy base) : JF P w K mg base 3 hy.f_of_adding hy.fd_of_adding ["steps", "numbers", "prime"] (nm hy) F_of_adding := g0_of_adding hy tb
def b_corner : CS := (sSeq (sAsg (cCall F_cleared (cCons (cVar 0) (cCons (cVar 1) cNil))) (gTp 3 (gsCons (gNm 2) (gsCons (gNm 3) (gsCons (gNm 4) gsNil))))) (sRet (cIf (cTst (cOp fEq (cVar 3) (cFn (f1 gLenA) (cCons (cVar 0) cNil)))) (cVar 4) (cC (.int 0)))))
theorem g0_corner (hy : Hy K mg) (tb : Tbs hy base) : JF P w K mg base 3 hy.f_corner hy.fd_corner ["rows", "prime"] (nm hy) (cDef 2 5 b_corner) :=
  have g_cleared := g_cleared (P := P) (w := w) (base := base) hy tb; jf_def (k := 2) hy.F_corner sc_corner fun cdv A outer s H E hr => (jb_cons (js_asg (je_call g_cleared (hr.mono (by decide)) (by rfl) hy.m_cleared hy.F_cleared.kp hy.b_cleared (passes_call (takes_of rfl rfl rfl rfl) (fun _ _ _ _ h => h)) (ja_cons (je_var 0 (pv 0)) (ja_cons (je_var 1 (pv 1)) ja_nil))) (jg_tup rfl (jgs_cons (jg_name (pg_name (i := 2) sc_corner.nd rfl (by first | exact .inl rfl | exact .inr rfl))) (jgs_cons (jg_name (pg_name (i := 3) sc_corner.nd rfl (by first | exact .inl rfl | exact .inr rfl))) (jgs_cons (jg_name (pg_name (i := 4) sc_corner.nd rfl (by first | exact .inl rfl | exact .inr rfl))) jgs_nil))))) (jb_one (js_ret (je_if (jt_cmp (opd_eq hr.units) (je_var 3 (pv 3)) (je_blt blt_lenA (by rfl) hy.z_len (by rfl) (ja_cons (je_var 0 (pv 0)) ja_nil)) (by rfl)) (je_var 4 (pv 4)) je_int))))
abbrev F_corner : CF := (cDef 2 5 b_corner)
theorem g_corner (hy : Hy K mg) (tb : Tbs hy base) : JF P w K mg base 3 hy.f_corner hy.fd_corner ["rows", "prime"] (nm hy) F_corner := g0_corner hy tb
end
end L30
namespace L30
open PySem DL FL
noncomputable def K_6 : CK := fun σ η => (sIf (cTst (cOp fNe (cVar 4) (cVar 3))) (sSeq (sAsg (cCall F_adding (cCons (cVar 2) (cCons (cVar 4) (cCons (cVar 3) (cCons (cVar 12) cNil))))) (gNm 13)) (sSeq (sAsg (cCall F_times (cCons (cVar 13) (cCons (cVar 16) (cCons (cVar 15) cNil)))) (gNm 14)) (sSeq (sIf (cTst (cOp fNe (cCall F_corner (cCons (cVar 13) (cCons (cVar 15) cNil))) (cC (.int 1)))) (sRet (cC (.bl false))) sNil) (sIf (cTst (cOp fNe (cVar 14) (cFn (f1 gTuple) (cCons (cLc (ciR1 (cCons (cVar 2) cNil)) (gNm 18) ctYes (cFn (f1 gTuple) (cCons (cLc (ciR1 (cCons (cVar 2) cNil)) (gNm 19) ctYes (cOp fMod (cOp fAdd (cOp fIx (cOp fIx (cVar 16) (cVar 18)) (cVar 19)) (cIf (cTst (cOp fEq (cVar 18) (cVar 4))) (cOp fMul (cVar 12) (cOp fIx (cOp fIx (cVar 16) (cVar 3)) (cVar 19))) (cC (.int 0)))) (cVar 15)) [19]) cNil)) [18]) cNil)))) (sRet (cC (.bl false))) sNil)))) sNil) σ η (kT 20)
noncomputable def K_5 : CK := fun σ η => (sAsg (cTup (cCons (cCall F__law_roll (cCons (cVar 1) (cCons (cVar 2) cNil))) (cCons (cCall F__law_roll (cCons (cVar 1) (cCons (cVar 2) cNil))) (cCons (cOp fAdd (cC (.int 1)) (cCall F__law_roll (cCons (cVar 1) (cCons (cOp fSub (cVar 15) (cC (.int 1))) cNil)))) cNil)))) (gTp 3 (gsCons (gNm 4) (gsCons (gNm 3) (gsCons (gNm 12) gsNil))))) σ η { kT 20 with nx := K_6 }
noncomputable def K_4 : CK := fun σ η => (sIf (cTst (cOp (fB2 ilt) (cVar 6) (cVar 2))) (sIf (cTst (cOp fNe (cTold hm__law_told (cCall F_by_adding (cCons (cVar 16) (cCons (cVar 15) cNil)))) (cC (.str "no way")))) (sRet (cC (.bl false))) sNil) (sSeq (sAsg (cCall F_by_adding (cCons (cVar 16) (cCons (cVar 15) cNil))) (gTp 2 (gsCons (gNm 8) (gsCons (gNm 9) gsNil)))) (sSeq (sIf (ctOr (cTst (cOp fNe (cCall F_of_adding (cCons (cVar 8) (cCons (cVar 9) (cCons (cVar 15) cNil)))) (cVar 16))) (cTst (cOp fNe (cVar 5) (cCall F_unit (cCons (cVar 2) cNil))))) (sRet (cC (.bl false))) sNil) (sSeq (sAsg (cC (.int 1)) (gNm 10)) (sSeq (sFor (ciSeq (cVar 9)) (gNm 11) (sAsg (cOp fMod (cOp fMul (cVar 10) (cVar 11)) (cVar 15)) (gNm 10))) (sSeq (sIf (ctOr (cTst (cOp fNe (cVar 10) (cCall F_corner (cCons (cVar 16) (cCons (cVar 15) cNil))))) (cTst (cOp fNe (cVar 7) (cCall F_corner (cCons (cVar 16) (cCons (cVar 15) cNil)))))) (sRet (cC (.bl false))) sNil) (sIf (cTst (cOp fNe (cLc (ciSeq (cVar 8)) (gTp 3 (gsCons (gNm 4) (gsCons (gNm 3) (gsCons (gNm 12) gsNil)))) (ctOr (cTst (cOp fEq (cVar 4) (cVar 3))) (cTst (cOp fEq (cOp fMod (cVar 12) (cVar 15)) (cC (.int 0))))) (cC (.int 1)) [4, 3, 12]) (cLst cNil))) (sRet (cC (.bl false))) sNil))))))) σ η { kT 20 with nx := K_5 }
noncomputable def K_3 : CK := fun σ η => (sIf (ctOr (cTst (cOp fNe (cOp fEq (cVar 6) (cVar 2)) (cOp fNe (cCall F_corner (cCons (cVar 16) (cCons (cVar 15) cNil))) (cC (.int 0))))) (cTst (cOp fNe (cFn (f1 gLenA) (cCons (cLc (ciSeq (cVar 5)) (gNm 17) (cTst (cOp fNe (cVar 17) (cOp fRepU (cTup (cCons (cC (.int 0)) cNil)) (cVar 2)))) (cVar 17) [17]) cNil)) (cVar 6)))) (sRet (cC (.bl false))) sNil) σ η { kT 20 with nx := K_4 }
noncomputable def K_2 : CK := fun σ η => (sAsg (cCall F_cleared (cCons (cVar 16) (cCons (cVar 15) cNil))) (gTp 3 (gsCons (gNm 5) (gsCons (gNm 6) (gsCons (gNm 7) gsNil))))) σ η { kT 20 with nx := K_3 }
noncomputable def K_1 : CK := fun σ η => (sAsg (cFn (f1 gTuple) (cCons (cLc (ciR1 (cCons (cVar 2) cNil)) (gNm 3) ctYes (cFn (f1 gTuple) (cCons (cLc (ciR1 (cCons (cVar 2) cNil)) (gNm 4) ctYes (cCall F__law_roll (cCons (cVar 1) (cCons (cVar 15) cNil))) [4]) cNil)) [3]) cNil)) (gNm 16)) σ η { kT 20 with nx := K_2 }
def C_1_0 : Tp := ⟨[none, some (.rf 0), some (.fx (.nat 2)), none, none, none, none, none, none, none, none, none, none, none, none, some (.fx (.nat 2)), none, none, none, none], [], 1, [(0, .raw .dice)]⟩
def C_1_1 : Tp := ⟨[none, some (.rf 0), some (.fx (.nat 3)), none, none, none, none, none, none, none, none, none, none, none, none, some (.fx (.nat 2)), none, none, none, none], [], 1, [(0, .raw .dice)]⟩
def C_1_2 : Tp := ⟨[none, some (.rf 0), some (.fx (.nat 4)), none, none, none, none, none, none, none, none, none, none, none, none, some (.fx (.nat 2)), none, none, none, none], [], 1, [(0, .raw .dice)]⟩
def C_1_3 : Tp := ⟨[none, some (.rf 0), some (.fx (.nat 2)), none, none, none, none, none, none, none, none, none, none, none, none, some (.fx (.nat 3)), none, none, none, none], [], 1, [(0, .raw .dice)]⟩
def C_1_4 : Tp := ⟨[none, some (.rf 0), some (.fx (.nat 3)), none, none, none, none, none, none, none, none, none, none, none, none, some (.fx (.nat 3)), none, none, none, none], [], 1, [(0, .raw .dice)]⟩
def C_1_5 : Tp := ⟨[none, some (.rf 0), some (.fx (.nat 4)), none, none, none, none, none, none, none, none, none, none, none, none, some (.fx (.nat 3)), none, none, none, none], [], 1, [(0, .raw .dice)]⟩
def C_1_6 : Tp := ⟨[none, some (.rf 0), some (.fx (.nat 2)), none, none, none, none, none, none, none, none, none, none, none, none, some (.fx (.nat 5)), none, none, none, none], [], 1, [(0, .raw .dice)]⟩
def C_1_7 : Tp := ⟨[none, some (.rf 0), some (.fx (.nat 3)), none, none, none, none, none, none, none, none, none, none, none, none, some (.fx (.nat 5)), none, none, none, none], [], 1, [(0, .raw .dice)]⟩
def C_1_8 : Tp := ⟨[none, some (.rf 0), some (.fx (.nat 4)), none, none, none, none, none, none, none, none, none, none, none, none, some (.fx (.nat 5)), none, none, none, none], [], 1, [(0, .raw .dice)]⟩
def C_1_9 : Tp := ⟨[none, some (.rf 0), some (.fx (.nat 2)), none, none, none, none, none, none, none, none, none, none, none, none, some (.fx (.nat 7)), none, none, none, none], [], 1, [(0, .raw .dice)]⟩
def C_1_10 : Tp := ⟨[none, some (.rf 0), some (.fx (.nat 3)), none, none, none, none, none, none, none, none, none, none, none, none, some (.fx (.nat 7)), none, none, none, none], [], 1, [(0, .raw .dice)]⟩
def C_1_11 : Tp := ⟨[none, some (.rf 0), some (.fx (.nat 4)), none, none, none, none, none, none, none, none, none, none, none, none, some (.fx (.nat 7)), none, none, none, none], [], 1, [(0, .raw .dice)]⟩
def CS_1 : List Tp := [C_1_0, C_1_1, C_1_2, C_1_3, C_1_4, C_1_5, C_1_6, C_1_7, C_1_8, C_1_9, C_1_10, C_1_11]
theorem okCS_1 : CS_1.all okTp = true := by decide +kernel
theorem etu : F_turned = cDef 2 4 bTurned := rfl
theorem ecl : F_cleared = Fcl' := by
  show cDef 2 14 b_cleared = _
  unfold b_cleared
  rw [etu]
  rfl
theorem eco : F_corner = Fco' := by
  show cDef 2 5 b_corner = _
  unfold b_corner
  rw [ecl]
  rfl
theorem eu : F_unit = Fu' := rfl
theorem est : F_step = Fst' := rfl
theorem eti : F_times = Fti' := rfl
theorem ead : F_adding = Fad' := by
  show cDef 4 6 b_adding = _
  unfold b_adding
  rw [eu]
  rfl
theorem eby : F_by_adding = Fby' := by
  show cDef 2 11 b_by_adding = _
  unfold b_by_adding
  rw [etu, est]
  rfl
theorem eof : F_of_adding = Fof' := by
  show cDef 3 8 b_of_adding = _
  unfold b_of_adding
  rw [eu, eti, ead]
  rfl
theorem eK0_6 : K_6 = fun σ η => s30_6 hm__law_told σ η (kT 20) := by unfold K_6 s30_6; (rw [ead, eti, eco]) <;> rfl
theorem eK_6 : K_6 = fun σ η => s30_6 hm__law_told σ η (kT 20) := by rw [eK0_6]
theorem eK0_5 : K_5 = fun σ η => s30_5 hm__law_told σ η ({ kT 20 with nx := K_6 }) := by unfold K_5 s30_5; rfl
theorem eK_5 : K_5 = fun σ η => s30_5 hm__law_told σ η ({ kT 20 with nx := fun σ η => s30_6 hm__law_told σ η (kT 20) }) := by rw [eK0_5, eK_6]
theorem eK0_4 : K_4 = fun σ η => s30_4 hm__law_told σ η ({ kT 20 with nx := K_5 }) := by unfold K_4 s30_4; (rw [eby, eof, eco, eu]) <;> rfl
theorem eK_4 : K_4 = fun σ η => s30_4 hm__law_told σ η ({ kT 20 with nx := fun σ η => s30_5 hm__law_told σ η ({ kT 20 with nx := fun σ η => s30_6 hm__law_told σ η (kT 20) }) }) := by rw [eK0_4, eK_5]
theorem eK0_3 : K_3 = fun σ η => s30_3 hm__law_told σ η ({ kT 20 with nx := K_4 }) := by unfold K_3 s30_3; (rw [eco]) <;> rfl
theorem eK_3 : K_3 = fun σ η => s30_3 hm__law_told σ η ({ kT 20 with nx := fun σ η => s30_4 hm__law_told σ η ({ kT 20 with nx := fun σ η => s30_5 hm__law_told σ η ({ kT 20 with nx := fun σ η => s30_6 hm__law_told σ η (kT 20) }) }) }) := by rw [eK0_3, eK_4]
theorem eK0_2 : K_2 = fun σ η => s30_2 hm__law_told σ η ({ kT 20 with nx := K_3 }) := by unfold K_2 s30_2; (rw [ecl]) <;> rfl
theorem eK_2 : K_2 = fun σ η => s30_2 hm__law_told σ η ({ kT 20 with nx := fun σ η => s30_3 hm__law_told σ η ({ kT 20 with nx := fun σ η => s30_4 hm__law_told σ η ({ kT 20 with nx := fun σ η => s30_5 hm__law_told σ η ({ kT 20 with nx := fun σ η => s30_6 hm__law_told σ η (kT 20) }) }) }) }) := by rw [eK0_2, eK_3]
theorem eK0_1 : K_1 = fun σ η => s30_1 hm__law_told σ η ({ kT 20 with nx := K_2 }) := by unfold K_1 s30_1; rfl
theorem eK_1 : K_1 = fun σ η => s30_1 hm__law_told σ η ({ kT 20 with nx := fun σ η => s30_2 hm__law_told σ η ({ kT 20 with nx := fun σ η => s30_3 hm__law_told σ η ({ kT 20 with nx := fun σ η => s30_4 hm__law_told σ η ({ kT 20 with nx := fun σ η => s30_5 hm__law_told σ η ({ kT 20 with nx := fun σ η => s30_6 hm__law_told σ η (kT 20) }) }) }) }) }) := by rw [eK0_1, eK_2]
theorem l30_0 : L30 2 0 0 (Int.ofNat 2) det2 hm__law_told := ⟨detOk2, prOk_of (Int.ofNat 2) 0 2 rfl (by decide +kernel), by decide, by decide, rfl, fun η => rfl, rfl⟩
theorem h1_0 : K_1 (toSD (instE [] (c30 2 2).sl)) ⟨(c30 2 2).nx, toCs (instH [] (c30 2 2).hl)⟩ = true := by
  rw [eK_1]
  have e : toSD (instE [] (c30 2 2).sl) = [none, some (.ref 0), some (iD (Int.ofNat 2)), none, none, none, none, none, none, none, none, none, none, none, none, some (iD (Int.ofNat 2)), none, none, none, none] := rfl
  rw [e]
  exact law30 l30_0 ⟨rfl, show 0 < 1 by decide⟩
theorem l30_1 : L30 3 0 0 (Int.ofNat 2) det3 hm__law_told := ⟨detOk3, prOk_of (Int.ofNat 2) 0 2 rfl (by decide +kernel), by decide, by decide, rfl, fun η => rfl, rfl⟩
theorem h1_1 : K_1 (toSD (instE [] (c30 3 2).sl)) ⟨(c30 3 2).nx, toCs (instH [] (c30 3 2).hl)⟩ = true := by
  rw [eK_1]
  have e : toSD (instE [] (c30 3 2).sl) = [none, some (.ref 0), some (iD (Int.ofNat 3)), none, none, none, none, none, none, none, none, none, none, none, none, some (iD (Int.ofNat 2)), none, none, none, none] := rfl
  rw [e]
  exact law30 l30_1 ⟨rfl, show 0 < 1 by decide⟩
theorem l30_2 : L30 4 0 0 (Int.ofNat 2) det4 hm__law_told := ⟨detOk4, prOk_of (Int.ofNat 2) 0 2 rfl (by decide +kernel), by decide, by decide, rfl, fun η => rfl, rfl⟩
theorem h1_2 : K_1 (toSD (instE [] (c30 4 2).sl)) ⟨(c30 4 2).nx, toCs (instH [] (c30 4 2).hl)⟩ = true := by
  rw [eK_1]
  have e : toSD (instE [] (c30 4 2).sl) = [none, some (.ref 0), some (iD (Int.ofNat 4)), none, none, none, none, none, none, none, none, none, none, none, none, some (iD (Int.ofNat 2)), none, none, none, none] := rfl
  rw [e]
  exact law30 l30_2 ⟨rfl, show 0 < 1 by decide⟩
theorem l30_3 : L30 2 1 1 (Int.ofNat 3) det2 hm__law_told := ⟨detOk2, prOk_of (Int.ofNat 3) 1 3 rfl (by decide +kernel), by decide, by decide, rfl, fun η => rfl, rfl⟩
theorem h1_3 : K_1 (toSD (instE [] (c30 2 3).sl)) ⟨(c30 2 3).nx, toCs (instH [] (c30 2 3).hl)⟩ = true := by
  rw [eK_1]
  have e : toSD (instE [] (c30 2 3).sl) = [none, some (.ref 0), some (iD (Int.ofNat 2)), none, none, none, none, none, none, none, none, none, none, none, none, some (iD (Int.ofNat 3)), none, none, none, none] := rfl
  rw [e]
  exact law30 l30_3 ⟨rfl, show 0 < 1 by decide⟩
theorem l30_4 : L30 3 1 1 (Int.ofNat 3) det3 hm__law_told := ⟨detOk3, prOk_of (Int.ofNat 3) 1 3 rfl (by decide +kernel), by decide, by decide, rfl, fun η => rfl, rfl⟩
theorem h1_4 : K_1 (toSD (instE [] (c30 3 3).sl)) ⟨(c30 3 3).nx, toCs (instH [] (c30 3 3).hl)⟩ = true := by
  rw [eK_1]
  have e : toSD (instE [] (c30 3 3).sl) = [none, some (.ref 0), some (iD (Int.ofNat 3)), none, none, none, none, none, none, none, none, none, none, none, none, some (iD (Int.ofNat 3)), none, none, none, none] := rfl
  rw [e]
  exact law30 l30_4 ⟨rfl, show 0 < 1 by decide⟩
theorem l30_5 : L30 4 1 1 (Int.ofNat 3) det4 hm__law_told := ⟨detOk4, prOk_of (Int.ofNat 3) 1 3 rfl (by decide +kernel), by decide, by decide, rfl, fun η => rfl, rfl⟩
theorem h1_5 : K_1 (toSD (instE [] (c30 4 3).sl)) ⟨(c30 4 3).nx, toCs (instH [] (c30 4 3).hl)⟩ = true := by
  rw [eK_1]
  have e : toSD (instE [] (c30 4 3).sl) = [none, some (.ref 0), some (iD (Int.ofNat 4)), none, none, none, none, none, none, none, none, none, none, none, none, some (iD (Int.ofNat 3)), none, none, none, none] := rfl
  rw [e]
  exact law30 l30_5 ⟨rfl, show 0 < 1 by decide⟩
theorem l30_6 : L30 2 3 3 (Int.ofNat 5) det2 hm__law_told := ⟨detOk2, prOk_of (Int.ofNat 5) 3 5 rfl (by decide +kernel), by decide, by decide, rfl, fun η => rfl, rfl⟩
theorem h1_6 : K_1 (toSD (instE [] (c30 2 5).sl)) ⟨(c30 2 5).nx, toCs (instH [] (c30 2 5).hl)⟩ = true := by
  rw [eK_1]
  have e : toSD (instE [] (c30 2 5).sl) = [none, some (.ref 0), some (iD (Int.ofNat 2)), none, none, none, none, none, none, none, none, none, none, none, none, some (iD (Int.ofNat 5)), none, none, none, none] := rfl
  rw [e]
  exact law30 l30_6 ⟨rfl, show 0 < 1 by decide⟩
theorem l30_7 : L30 3 3 3 (Int.ofNat 5) det3 hm__law_told := ⟨detOk3, prOk_of (Int.ofNat 5) 3 5 rfl (by decide +kernel), by decide, by decide, rfl, fun η => rfl, rfl⟩
theorem h1_7 : K_1 (toSD (instE [] (c30 3 5).sl)) ⟨(c30 3 5).nx, toCs (instH [] (c30 3 5).hl)⟩ = true := by
  rw [eK_1]
  have e : toSD (instE [] (c30 3 5).sl) = [none, some (.ref 0), some (iD (Int.ofNat 3)), none, none, none, none, none, none, none, none, none, none, none, none, some (iD (Int.ofNat 5)), none, none, none, none] := rfl
  rw [e]
  exact law30 l30_7 ⟨rfl, show 0 < 1 by decide⟩
theorem l30_8 : L30 4 3 3 (Int.ofNat 5) det4 hm__law_told := ⟨detOk4, prOk_of (Int.ofNat 5) 3 5 rfl (by decide +kernel), by decide, by decide, rfl, fun η => rfl, rfl⟩
theorem h1_8 : K_1 (toSD (instE [] (c30 4 5).sl)) ⟨(c30 4 5).nx, toCs (instH [] (c30 4 5).hl)⟩ = true := by
  rw [eK_1]
  have e : toSD (instE [] (c30 4 5).sl) = [none, some (.ref 0), some (iD (Int.ofNat 4)), none, none, none, none, none, none, none, none, none, none, none, none, some (iD (Int.ofNat 5)), none, none, none, none] := rfl
  rw [e]
  exact law30 l30_8 ⟨rfl, show 0 < 1 by decide⟩
theorem l30_9 : L30 2 5 5 (Int.ofNat 7) det2 hm__law_told := ⟨detOk2, prOk_of (Int.ofNat 7) 5 7 rfl (by decide +kernel), by decide, by decide, rfl, fun η => rfl, rfl⟩
theorem h1_9 : K_1 (toSD (instE [] (c30 2 7).sl)) ⟨(c30 2 7).nx, toCs (instH [] (c30 2 7).hl)⟩ = true := by
  rw [eK_1]
  have e : toSD (instE [] (c30 2 7).sl) = [none, some (.ref 0), some (iD (Int.ofNat 2)), none, none, none, none, none, none, none, none, none, none, none, none, some (iD (Int.ofNat 7)), none, none, none, none] := rfl
  rw [e]
  exact law30 l30_9 ⟨rfl, show 0 < 1 by decide⟩
theorem l30_10 : L30 3 5 5 (Int.ofNat 7) det3 hm__law_told := ⟨detOk3, prOk_of (Int.ofNat 7) 5 7 rfl (by decide +kernel), by decide, by decide, rfl, fun η => rfl, rfl⟩
theorem h1_10 : K_1 (toSD (instE [] (c30 3 7).sl)) ⟨(c30 3 7).nx, toCs (instH [] (c30 3 7).hl)⟩ = true := by
  rw [eK_1]
  have e : toSD (instE [] (c30 3 7).sl) = [none, some (.ref 0), some (iD (Int.ofNat 3)), none, none, none, none, none, none, none, none, none, none, none, none, some (iD (Int.ofNat 7)), none, none, none, none] := rfl
  rw [e]
  exact law30 l30_10 ⟨rfl, show 0 < 1 by decide⟩
theorem l30_11 : L30 4 5 5 (Int.ofNat 7) det4 hm__law_told := ⟨detOk4, prOk_of (Int.ofNat 7) 5 7 rfl (by decide +kernel), by decide, by decide, rfl, fun η => rfl, rfl⟩
theorem h1_11 : K_1 (toSD (instE [] (c30 4 7).sl)) ⟨(c30 4 7).nx, toCs (instH [] (c30 4 7).hl)⟩ = true := by
  rw [eK_1]
  have e : toSD (instE [] (c30 4 7).sl) = [none, some (.ref 0), some (iD (Int.ofNat 4)), none, none, none, none, none, none, none, none, none, none, none, none, some (iD (Int.ofNat 7)), none, none, none, none] := rfl
  rw [e]
  exact law30 l30_11 ⟨rfl, show 0 < 1 by decide⟩
theorem hS_1 : ∀ st, TSP CS_1 st → K_1 st.1 st.2 = true := tsp_fix (List.forall_mem_cons.mpr ⟨⟨rfl, h1_0⟩, (List.forall_mem_cons.mpr ⟨⟨rfl, h1_1⟩, (List.forall_mem_cons.mpr ⟨⟨rfl, h1_2⟩, (List.forall_mem_cons.mpr ⟨⟨rfl, h1_3⟩, (List.forall_mem_cons.mpr ⟨⟨rfl, h1_4⟩, (List.forall_mem_cons.mpr ⟨⟨rfl, h1_5⟩, (List.forall_mem_cons.mpr ⟨⟨rfl, h1_6⟩, (List.forall_mem_cons.mpr ⟨⟨rfl, h1_7⟩, (List.forall_mem_cons.mpr ⟨⟨rfl, h1_8⟩, (List.forall_mem_cons.mpr ⟨⟨rfl, h1_9⟩, (List.forall_mem_cons.mpr ⟨⟨rfl, h1_10⟩, (List.forall_mem_cons.mpr ⟨⟨rfl, h1_11⟩, (fun _ h => nomatch h)⟩)⟩)⟩)⟩)⟩)⟩)⟩)⟩)⟩)⟩)⟩)⟩)
noncomputable def Kc_1 : CK := KcP2 (TSP CS_1)
noncomputable def K_0 : CK := fun σ η => (sAsg (cTup (cCons (cOp fIx (cLst (cCons (cC (.int 2)) (cCons (cC (.int 3)) (cCons (cC (.int 5)) (cCons (cC (.int 7)) cNil))))) (cCall F__law_roll (cCons (cVar 1) (cCons (cC (.int 4)) cNil)))) (cCons (cOp fAdd (cC (.int 2)) (cCall F__law_roll (cCons (cVar 1) (cCons (cC (.int 3)) cNil)))) cNil))) (gTp 2 (gsCons (gNm 15) (gsCons (gNm 2) gsNil)))) σ η { kT 20 with nx := Kc_1 }
noncomputable def KF_0 : B → Hb → Bool := fun y1 => (fun h1 => (eTup (aCons (eOp kIx (eLst (aCons (eA (.nat 2)) (aCons (eA (.nat 3)) (aCons (eA (.nat 5)) (aCons (eA (.nat 7)) aNil))))) (eCall2 rollB (eA y1) (eA (.nat 4)))) (aCons (eOp kAdd (eA (.nat 2)) (eCall2 rollB (eA y1) (eA (.nat 3)))) aNil))) h1 (fun v2 => (un2 v2 (fun v3 v4 => (fun h5 => anyP CS_1 [none, some y1, some v4, none, none, none, none, none, none, none, none, none, none, none, none, some v3, none, none, none, none] h5)))) kFb)
theorem simK_0 (y1 : B) : RN [none, some y1, none, none, none, none, none, none, none, none, none, none, none, none, none, none, none, none, none, none] (KF_0 y1) K_0 := by
  unfold KF_0 K_0
  exact (rn_asgT (re_tup (ras_cons (re_op kIx_ok (re_lst (ras_cons (re_a (ra_nat 2)) (ras_cons (re_a (ra_nat 3)) (ras_cons (re_a (ra_nat 5)) (ras_cons (re_a (ra_nat 7)) ras_nil))))) (re_call2 rcall_roll (re_a (ra_var y1 rfl)) (re_a (ra_nat 4)))) (ras_cons (re_op kAdd_ok (re_a (ra_nat 2)) (re_call2 rcall_roll (re_a (ra_var y1 rfl)) (re_a (ra_nat 3)))) ras_nil))) XkFb (fun v2 => by exact (rg_tp2 (fun v3 v4 => by exact (rg_nm (by exact at_ (Γ := [none, some y1, none, none, none, none, none, none, none, none, none, none, none, none, none, some v3, none, none, none, none]) (rg_nm (by exact at_ (Γ := [none, some y1, some v4, none, none, none, none, none, none, none, none, none, none, none, none, some v3, none, none, none, none]) (by unfold Kc_1; exact rn_cutP (T := CS_1) okCS_1)))))))))
def C_init : St' := ([none, some (.ref 0), none, none, none, none, none, none, none, none, none, none, none, none, none, none, none, none, none, none], .mk 1 (.cons 0 .dice .nil))
theorem hF_init : KF_0 (.ref 0) C_init.2 = true := by decide +kernel
theorem hgen : K_0 ((List.replicate 20 none).set 1 (some (.ref 0))) ⟨1, [(0, .dice)]⟩ = true := by
  have h := hS_mk (c := C_init) (simK_0 (.ref 0)) (by decide +kernel) hF_init
  have h2 := (Bool.and_eq_true_iff.mp h).2
  simp only [toSt, C_init, toSD, toD, toCs, toC, Hb.nx, Hb.hl] at h2
  exact h2
end L30
namespace L30
open PySem PySem.Spec L2 DL
section
variable {P : Program} {w : World} {K : PySem.W.Frag} {mg : Str → Option Value} {base : Heap}
theorem g_law (hy : Hy K mg) (tb : Tbs hy base) {fa : Addr} {oc kV dc pm ct : Value} {od an : Option Addr} {sl : Array (Option Value)} (lk : K.lookup fa = some ⟨oc, od, .func (PySem.W.fnOf "law" "law" (defArgs s_law) (defBody s_law) (defScope s_law) .none kV dc pm an (.ref hy.tc_law) ct), sl⟩)
    (hcd : PySem.W.codeIn K (.ref hy.tc_law) "law" = true) : FnOk P w K mg base (L2.CX P w) 7 fa (PySem.W.fnOf "law" "law" (defArgs s_law) (defBody s_law) (defScope s_law) .none kV dc pm an (.ref hy.tc_law) ct) ["script"] (spLaw K (nm hy)) :=
  have g__law_roll := g__law_roll (P := P) (w := w) (base := base) hy tb; have g__law_rounds := g__law_rounds (P := P) (w := w) (base := base) hy tb; have g_adding := g_adding (P := P) (w := w) (base := base) hy tb; have g_by_adding := g_by_adding (P := P) (w := w) (base := base) hy tb; have g_cleared := g_cleared (P := P) (w := w) (base := base) hy tb; have g_corner := g_corner (P := P) (w := w) (base := base) hy tb; have g_of_adding := g_of_adding (P := P) (w := w) (base := base) hy tb; have g_times := g_times (P := P) (w := w) (base := base) hy tb; have g_unit := g_unit (P := P) (w := w) (base := base) hy tb; fn_of (k := 6) lk hcd sc_law (fun vs H Q E h => by obtain ⟨_, _, rfl, _⟩ := h; rfl) fun A outer s H vs Q E hr h =>
    ⟨tLaw K (nm hy) 20, law_loop (n := 3) g__law_rounds (hr.mono (by decide)) (by rfl) hy.m__law_rounds hy.F__law_rounds.kp hy.b__law_rounds (passes_call (takes_of rfl rfl rfl rfl) (fun _ _ _ _ h => h)) (pv 0) pe_int (by decide) (passes_of rfl) rfl
      (jg_name (pg_name (i := 1) sc_law.nd rfl (by first | exact .inl rfl | exact .inr rfl))) (show JK _ _ _ 20 _ K_0 from jk_cons (js_asg (je_tup (ja_cons (je_ix (hu_of hr) (je_lst (ja_cons je_int (ja_cons je_int (ja_cons je_int (ja_cons je_int ja_nil))))) (je_call g__law_roll (hr.mono (by decide)) (by rfl) hy.m__law_roll hy.F__law_roll.kp hy.b__law_roll (passes_call (takes_of rfl rfl rfl rfl) (fun _ _ _ _ h => h)) (ja_cons (je_var 1 (pv 1)) (ja_cons je_int ja_nil))) (fun _ _ => rfl)) (ja_cons (je_op opd_add je_int (je_call g__law_roll (hr.mono (by decide)) (by rfl) hy.m__law_roll hy.F__law_roll.kp hy.b__law_roll (passes_call (takes_of rfl rfl rfl rfl) (fun _ _ _ _ h => h)) (ja_cons (je_var 1 (pv 1)) (ja_cons je_int ja_nil)))) ja_nil))) (jg_tup rfl (jgs_cons (jg_name (pg_name (i := 15) sc_law.nd rfl (by first | exact .inl rfl | exact .inr rfl))) (jgs_cons (jg_name (pg_name (i := 2) sc_law.nd rfl (by first | exact .inl rfl | exact .inr rfl))) jgs_nil)))) (show JK _ _ _ 20 _ Kc_1 from jk_cutP2 (FL.TSP CS_1) (show JK _ _ _ 20 _ K_1 from jk_cons (js_set (i := 16) sc_law.nd rfl (by first | exact .inl rfl | exact .inr rfl) (je_ty ty_tuple (by rfl) hy.z_tuple (by rfl) (ja_cons (je_lc (E' := E0) (own := [("j", 3)]) rfl sc_law.nd (ji_range1 (by rfl) hy.z_range (ja_cons (je_var 2 (pv 2)) ja_nil)) (blkOk_by (N := ["script", "dice", "many", "j", "k", "clear", "rank", "whole", "steps_there", "numbers", "product_there", "number", "much", "one", "there", "prime", "rows", "row", "n", "i"]) (sc := defScope s_law) (own := [("j", 3)]) (by decide +kernel)) (fun _ _ _ _ _ => (jgw_name (pg_name (i := 3) sc_law.nd rfl (by first | exact .inl rfl | exact .inr rfl)))) (fun _ _ _ _ _ => jts_nil) (fun _ _ _ _ _ => (je_ty ty_tuple (by rfl) hy.z_tuple (by rfl) (ja_cons (je_lc (E' := E0) (own := [("k", 4)]) rfl sc_law.nd (ji_range1 (by rfl) hy.z_range (ja_cons (je_var 2 (pv 2)) ja_nil)) (blkOk_by (N := ["script", "dice", "many", "j", "k", "clear", "rank", "whole", "steps_there", "numbers", "product_there", "number", "much", "one", "there", "prime", "rows", "row", "n", "i"]) (sc := relS ({ kind := .function, names := [(".0", .local), ("j", .local), ("tuple", .globalImplicit), ("range", .globalImplicit), ("dice", .free), ("many", .free), ("prime", .free)], isGenerator := false, isCoroutine := false } : Scope) (defScope s_law)) (own := [("k", 4)]) (by decide +kernel)) (fun _ _ _ _ _ => (jgw_name (pg_name (i := 4) sc_law.nd rfl (by first | exact .inl rfl | exact .inr rfl)))) (fun _ _ _ _ _ => jts_nil) (fun _ _ _ _ _ => (je_call g__law_roll (hr.mono (by decide)) (by rfl) hy.m__law_roll hy.F__law_roll.kp hy.b__law_roll passL (ja_cons (je_var 1 (pv 1)) (ja_cons (je_var 15 (pv 15)) ja_nil))))) ja_nil)))) ja_nil))) (show JK _ _ _ 20 _ K_2 from jk_cons (js_asg (je_call g_cleared (hr.mono (by decide)) (by rfl) hy.m_cleared hy.F_cleared.kp hy.b_cleared (passes_call (takes_of rfl rfl rfl rfl) (fun _ _ _ _ h => h)) (ja_cons (je_var 16 (pv 16)) (ja_cons (je_var 15 (pv 15)) ja_nil))) (jg_tup rfl (jgs_cons (jg_name (pg_name (i := 5) sc_law.nd rfl (by first | exact .inl rfl | exact .inr rfl))) (jgs_cons (jg_name (pg_name (i := 6) sc_law.nd rfl (by first | exact .inl rfl | exact .inr rfl))) (jgs_cons (jg_name (pg_name (i := 7) sc_law.nd rfl (by first | exact .inl rfl | exact .inr rfl))) jgs_nil))))) (show JK _ _ _ 20 _ K_3 from jk_cons (js_if (jt_of (jw_or (jt_cmp (opd_ne hr.units) (je_cmp (opd_eq hr.units) (je_var 6 (pv 6)) (je_var 2 (pv 2)) (by rfl)) (je_cmp (opd_ne hr.units) (je_call g_corner (hr.mono (by decide)) (by rfl) hy.m_corner hy.F_corner.kp hy.b_corner (passes_call (takes_of rfl rfl rfl rfl) (fun _ _ _ _ h => h)) (ja_cons (je_var 16 (pv 16)) (ja_cons (je_var 15 (pv 15)) ja_nil))) je_int (by rfl)) (by rfl)) (jw_or1 (jt_cmp (opd_ne hr.units) (je_blt blt_lenA (by rfl) hy.z_len (by rfl) (ja_cons (je_lc (E' := E0) (own := [("row", 17)]) rfl sc_law.nd (ji_seq (je_var 5 (pv 5))) (blkOk_by (N := ["script", "dice", "many", "j", "k", "clear", "rank", "whole", "steps_there", "numbers", "product_there", "number", "much", "one", "there", "prime", "rows", "row", "n", "i"]) (sc := defScope s_law) (own := [("row", 17)]) (by decide +kernel)) (fun _ _ _ _ _ => (jgw_name (pg_name (i := 17) sc_law.nd rfl (by first | exact .inl rfl | exact .inr rfl)))) (fun _ _ _ _ _ => (jts_one (jt_cmp (opd_ne hr.units) (je_var 17 (pv 17)) (je_op opd_repU (je_tup (ja_cons je_int ja_nil)) (je_var 2 (pv 2))) (by rfl)))) (fun _ _ _ _ _ => (je_var 17 (pv 17)))) ja_nil)) (je_var 6 (pv 6)) (by rfl))))) (jb_one (js_ret je_bl)) jb_nil) (show JK _ _ _ 20 _ K_4 from jk_cons (js_if (jt_cmp opd_lt (je_var 6 (pv 6)) (je_var 2 (pv 2)) (by rfl)) (jb_one (js_if (jt_cmp (opd_ne hr.units) (je_tell2 (k := 4) hy.F__law_told (by rfl) hy.m__law_told hy.b__law_told sc__law_told rfl (.inl rfl) (fun _ => told_many (.cons rfl hy.g_BadTurn (by decide) ( .cons rfl hy.g_BadTable (by decide) ( .cons rfl hy.g_NoWay (by decide) ( .cons rfl hy.g_TooLarge (by decide) (.nil))))) (fun _ => rfl)) (hmOk hy) tb.t_law rfl tb.m_law (by rfl) (fun e he q => congrArg Prod.fst (tb.u_law e he q)) (hr.mono (by decide)) (LamX.lamS_by (sc := defScope s_law) (by decide +kernel)) rfl (fun _ _ _ _ _ => rfl) (fun A outer s H E f c' hr9 => (je_call g_by_adding (hr9.mono (by decide)) (by rfl) hy.m_by_adding hy.F_by_adding.kp hy.b_by_adding (passes_call (takes_of rfl rfl rfl rfl) (fun _ _ _ _ h => h)) (ja_cons (je_var 16 (pv 16)) (ja_cons (je_var 15 (pv 15)) ja_nil))))) je_str (by rfl)) (jb_one (js_ret je_bl)) jb_nil)) (jb_cons (js_asg (je_call g_by_adding (hr.mono (by decide)) (by rfl) hy.m_by_adding hy.F_by_adding.kp hy.b_by_adding (passes_call (takes_of rfl rfl rfl rfl) (fun _ _ _ _ h => h)) (ja_cons (je_var 16 (pv 16)) (ja_cons (je_var 15 (pv 15)) ja_nil))) (jg_tup rfl (jgs_cons (jg_name (pg_name (i := 8) sc_law.nd rfl (by first | exact .inl rfl | exact .inr rfl))) (jgs_cons (jg_name (pg_name (i := 9) sc_law.nd rfl (by first | exact .inl rfl | exact .inr rfl))) jgs_nil)))) (jb_cons (js_if (jt_of (jw_or (jt_cmp (opd_ne hr.units) (je_call g_of_adding (hr.mono (by decide)) (by rfl) hy.m_of_adding hy.F_of_adding.kp hy.b_of_adding (passes_call (takes_of rfl rfl rfl rfl) (fun _ _ _ _ h => h)) (ja_cons (je_var 8 (pv 8)) (ja_cons (je_var 9 (pv 9)) (ja_cons (je_var 15 (pv 15)) ja_nil)))) (je_var 16 (pv 16)) (by rfl)) (jw_or1 (jt_cmp (opd_ne hr.units) (je_var 5 (pv 5)) (je_call g_unit (hr.mono (by decide)) (by rfl) hy.m_unit hy.F_unit.kp hy.b_unit (passes_call (takes_of rfl rfl rfl rfl) (fun _ _ _ _ h => h)) (ja_cons (je_var 2 (pv 2)) ja_nil)) (by rfl))))) (jb_one (js_ret je_bl)) jb_nil) (jb_cons (js_set (i := 10) sc_law.nd rfl (by first | exact .inl rfl | exact .inr rfl) je_int) (jb_cons (js_for (passes_of rfl) rfl (ji_seq (je_var 9 (pv 9))) (jg_name (pg_name (i := 11) sc_law.nd rfl (by first | exact .inl rfl | exact .inr rfl))) (jb_one (js_set (i := 10) sc_law.nd rfl (by first | exact .inl rfl | exact .inr rfl) (je_op opd_mod (je_op opd_mul (je_var 10 (pv 10)) (je_var 11 (pv 11))) (je_var 15 (pv 15)))))) (jb_cons (js_if (jt_of (jw_or (jt_cmp (opd_ne hr.units) (je_var 10 (pv 10)) (je_call g_corner (hr.mono (by decide)) (by rfl) hy.m_corner hy.F_corner.kp hy.b_corner (passes_call (takes_of rfl rfl rfl rfl) (fun _ _ _ _ h => h)) (ja_cons (je_var 16 (pv 16)) (ja_cons (je_var 15 (pv 15)) ja_nil))) (by rfl)) (jw_or1 (jt_cmp (opd_ne hr.units) (je_var 7 (pv 7)) (je_call g_corner (hr.mono (by decide)) (by rfl) hy.m_corner hy.F_corner.kp hy.b_corner (passes_call (takes_of rfl rfl rfl rfl) (fun _ _ _ _ h => h)) (ja_cons (je_var 16 (pv 16)) (ja_cons (je_var 15 (pv 15)) ja_nil))) (by rfl))))) (jb_one (js_ret je_bl)) jb_nil) (jb_one (js_if (jt_cmp (opd_ne hr.units) (je_lc (E' := E0) (own := [("k", 4), ("j", 3), ("much", 12)]) rfl sc_law.nd (ji_seq (je_var 8 (pv 8))) (blkOk_by (N := ["script", "dice", "many", "j", "k", "clear", "rank", "whole", "steps_there", "numbers", "product_there", "number", "much", "one", "there", "prime", "rows", "row", "n", "i"]) (sc := defScope s_law) (own := [("k", 4), ("j", 3), ("much", 12)]) (by decide +kernel)) (fun _ _ _ _ _ => (jgw_tup rfl (jgsw_cons (jgw_name (pg_name (i := 4) sc_law.nd rfl (by first | exact .inl rfl | exact .inr rfl))) (jgsw_cons (jgw_name (pg_name (i := 3) sc_law.nd rfl (by first | exact .inl rfl | exact .inr rfl))) (jgsw_cons (jgw_name (pg_name (i := 12) sc_law.nd rfl (by first | exact .inl rfl | exact .inr rfl))) jgsw_nil))))) (fun _ _ _ _ _ => (jts_one (jt_of (jw_or (jt_cmp (opd_eq hr.units) (je_var 4 (pv 4)) (je_var 3 (pv 3)) (by rfl)) (jw_or1 (jt_cmp (opd_eq hr.units) (je_op opd_mod (je_var 12 (pv 12)) (je_var 15 (pv 15))) je_int (by rfl))))))) (fun _ _ _ _ _ => je_int)) (je_lst ja_nil) (by rfl)) (jb_one (js_ret je_bl)) jb_nil)))))))) (show JK _ _ _ 20 _ K_5 from jk_cons (js_asg (je_tup (ja_cons (je_call g__law_roll (hr.mono (by decide)) (by rfl) hy.m__law_roll hy.F__law_roll.kp hy.b__law_roll (passes_call (takes_of rfl rfl rfl rfl) (fun _ _ _ _ h => h)) (ja_cons (je_var 1 (pv 1)) (ja_cons (je_var 2 (pv 2)) ja_nil))) (ja_cons (je_call g__law_roll (hr.mono (by decide)) (by rfl) hy.m__law_roll hy.F__law_roll.kp hy.b__law_roll (passes_call (takes_of rfl rfl rfl rfl) (fun _ _ _ _ h => h)) (ja_cons (je_var 1 (pv 1)) (ja_cons (je_var 2 (pv 2)) ja_nil))) (ja_cons (je_op opd_add je_int (je_call g__law_roll (hr.mono (by decide)) (by rfl) hy.m__law_roll hy.F__law_roll.kp hy.b__law_roll (passes_call (takes_of rfl rfl rfl rfl) (fun _ _ _ _ h => h)) (ja_cons (je_var 1 (pv 1)) (ja_cons (je_op opd_sub (je_var 15 (pv 15)) je_int) ja_nil)))) ja_nil)))) (jg_tup rfl (jgs_cons (jg_name (pg_name (i := 4) sc_law.nd rfl (by first | exact .inl rfl | exact .inr rfl))) (jgs_cons (jg_name (pg_name (i := 3) sc_law.nd rfl (by first | exact .inl rfl | exact .inr rfl))) (jgs_cons (jg_name (pg_name (i := 12) sc_law.nd rfl (by first | exact .inl rfl | exact .inr rfl))) jgs_nil))))) (show JK _ _ _ 20 _ K_6 from jk_of (jb_one (js_if (jt_cmp (opd_ne hr.units) (je_var 4 (pv 4)) (je_var 3 (pv 3)) (by rfl)) (jb_cons (js_set (i := 13) sc_law.nd rfl (by first | exact .inl rfl | exact .inr rfl) (je_call g_adding (hr.mono (by decide)) (by rfl) hy.m_adding hy.F_adding.kp hy.b_adding (passes_call (takes_of rfl rfl rfl rfl) (fun _ _ _ _ h => h)) (ja_cons (je_var 2 (pv 2)) (ja_cons (je_var 4 (pv 4)) (ja_cons (je_var 3 (pv 3)) (ja_cons (je_var 12 (pv 12)) ja_nil)))))) (jb_cons (js_set (i := 14) sc_law.nd rfl (by first | exact .inl rfl | exact .inr rfl) (je_call g_times (hr.mono (by decide)) (by rfl) hy.m_times hy.F_times.kp hy.b_times (passes_call (takes_of rfl rfl rfl rfl) (fun _ _ _ _ h => h)) (ja_cons (je_var 13 (pv 13)) (ja_cons (je_var 16 (pv 16)) (ja_cons (je_var 15 (pv 15)) ja_nil))))) (jb_cons (js_if (jt_cmp (opd_ne hr.units) (je_call g_corner (hr.mono (by decide)) (by rfl) hy.m_corner hy.F_corner.kp hy.b_corner (passes_call (takes_of rfl rfl rfl rfl) (fun _ _ _ _ h => h)) (ja_cons (je_var 13 (pv 13)) (ja_cons (je_var 15 (pv 15)) ja_nil))) je_int (by rfl)) (jb_one (js_ret je_bl)) jb_nil) (jb_one (js_if (jt_cmp (opd_ne hr.units) (je_var 14 (pv 14)) (je_ty ty_tuple (by rfl) hy.z_tuple (by rfl) (ja_cons (je_lc (E' := E0) (own := [("n", 18)]) rfl sc_law.nd (ji_range1 (by rfl) hy.z_range (ja_cons (je_var 2 (pv 2)) ja_nil)) (blkOk_by (N := ["script", "dice", "many", "j", "k", "clear", "rank", "whole", "steps_there", "numbers", "product_there", "number", "much", "one", "there", "prime", "rows", "row", "n", "i"]) (sc := defScope s_law) (own := [("n", 18)]) (by decide +kernel)) (fun _ _ _ _ _ => (jgw_name (pg_name (i := 18) sc_law.nd rfl (by first | exact .inl rfl | exact .inr rfl)))) (fun _ _ _ _ _ => jts_nil) (fun _ _ _ _ _ => (je_ty ty_tuple (by rfl) hy.z_tuple (by rfl) (ja_cons (je_lc (E' := E0) (own := [("i", 19)]) rfl sc_law.nd (ji_range1 (by rfl) hy.z_range (ja_cons (je_var 2 (pv 2)) ja_nil)) (blkOk_by (N := ["script", "dice", "many", "j", "k", "clear", "rank", "whole", "steps_there", "numbers", "product_there", "number", "much", "one", "there", "prime", "rows", "row", "n", "i"]) (sc := relS ({ kind := .function, names := [(".0", .local), ("n", .cell), ("tuple", .globalImplicit), ("range", .globalImplicit), ("j", .free), ("k", .free), ("many", .free), ("much", .free), ("prime", .free), ("rows", .free)], isGenerator := false, isCoroutine := false } : Scope) (defScope s_law)) (own := [("i", 19)]) (by decide +kernel)) (fun _ _ _ _ _ => (jgw_name (pg_name (i := 19) sc_law.nd rfl (by first | exact .inl rfl | exact .inr rfl)))) (fun _ _ _ _ _ => jts_nil) (fun _ _ _ _ _ => (je_op opd_mod (je_op opd_add (je_ix (hu_of hr) (je_ix (hu_of hr) (je_var 16 (pv 16)) (je_var 18 (pv 18)) (fun _ _ => rfl)) (je_var 19 (pv 19)) (fun _ _ => rfl)) (je_if (jt_cmp (opd_eq hr.units) (je_var 18 (pv 18)) (je_var 4 (pv 4)) (by rfl)) (je_op opd_mul (je_var 12 (pv 12)) (je_ix (hu_of hr) (je_ix (hu_of hr) (je_var 16 (pv 16)) (je_var 3 (pv 3)) (fun _ _ => rfl)) (je_var 19 (pv 19)) (fun _ _ => rfl))) je_int)) (je_var 15 (pv 15))))) ja_nil)))) ja_nil)) (by rfl)) (jb_one (js_ret je_bl)) jb_nil))))) jb_nil)))))))) hS_1)) hgen, tLaw_of h (by decide)⟩
end
theorem all_mk {l : PySem.W.OpenLaw} {w : World} {K : PySem.W.Frag} {h : Heap} {mg : Str → Option Value} {fa : Addr} (X : K.In h) (G : h.Ns mainGlobals mg) (hfa : mg "law" = some (.ref fa))
    {c_BadTable : Addr}
    {c_BadTurn : Addr}
    {c_NoWay : Addr}
    {c_TooLarge : Addr}
    {f_law : Addr} {od_law an_law : Option Addr} {sl_law : Array (Option Value)} {oc_law kV_law dc_law pm_law ct_law : Value}
    {f__law_rounds : Addr} {od__law_rounds an__law_rounds : Option Addr} {sl__law_rounds : Array (Option Value)} {oc__law_rounds kV__law_rounds dc__law_rounds pm__law_rounds cd__law_rounds ct__law_rounds : Value}
    {f__law_dice : Addr} {od__law_dice an__law_dice : Option Addr} {sl__law_dice : Array (Option Value)} {oc__law_dice kV__law_dice dc__law_dice pm__law_dice cd__law_dice ct__law_dice : Value}
    {f__law_roll : Addr} {od__law_roll an__law_roll : Option Addr} {sl__law_roll : Array (Option Value)} {oc__law_roll kV__law_roll dc__law_roll pm__law_roll cd__law_roll ct__law_roll : Value}
    {f__law_told : Addr} {od__law_told an__law_told : Option Addr} {sl__law_told : Array (Option Value)} {oc__law_told kV__law_told dc__law_told pm__law_told cd__law_told ct__law_told : Value}
    {f_adding : Addr} {od_adding an_adding : Option Addr} {sl_adding : Array (Option Value)} {oc_adding kV_adding dc_adding pm_adding cd_adding ct_adding : Value}
    {f_by_adding : Addr} {od_by_adding an_by_adding : Option Addr} {sl_by_adding : Array (Option Value)} {oc_by_adding kV_by_adding dc_by_adding pm_by_adding cd_by_adding ct_by_adding : Value}
    {f_cleared : Addr} {od_cleared an_cleared : Option Addr} {sl_cleared : Array (Option Value)} {oc_cleared kV_cleared dc_cleared pm_cleared cd_cleared ct_cleared : Value}
    {f_corner : Addr} {od_corner an_corner : Option Addr} {sl_corner : Array (Option Value)} {oc_corner kV_corner dc_corner pm_corner cd_corner ct_corner : Value}
    {f_of_adding : Addr} {od_of_adding an_of_adding : Option Addr} {sl_of_adding : Array (Option Value)} {oc_of_adding kV_of_adding dc_of_adding pm_of_adding cd_of_adding ct_of_adding : Value}
    {f_times : Addr} {od_times an_times : Option Addr} {sl_times : Array (Option Value)} {oc_times kV_times dc_times pm_times ct_times : Value}
    {f_unit : Addr} {od_unit an_unit : Option Addr} {sl_unit : Array (Option Value)} {oc_unit kV_unit dc_unit pm_unit cd_unit ct_unit : Value}
    {f_step : Addr} {od_step an_step : Option Addr} {sl_step : Array (Option Value)} {oc_step kV_step dc_step pm_step cd_step ct_step : Value}
    {f_turned : Addr} {od_turned an_turned : Option Addr} {sl_turned : Array (Option Value)} {oc_turned kV_turned dc_turned pm_turned cd_turned ct_turned : Value}
    {tc_law tP_law : Addr} {te_law : Value} {td_law : Option Addr} {tv_law : Array Value} {tsl_law : Array (Option Value)}
    {tc_times tP_times : Addr} {te_times : Value} {td_times : Option Addr} {tv_times : Array Value} {tsl_times : Array (Option Value)}
    (a_BadTable : PySem.W.nsIn K mainGlobals "BadTable" = some (some (.ref c_BadTable)))
    (a_BadTurn : PySem.W.nsIn K mainGlobals "BadTurn" = some (some (.ref c_BadTurn)))
    (a_NoWay : PySem.W.nsIn K mainGlobals "NoWay" = some (some (.ref c_NoWay)))
    (x_NoWay : PySem.W.excIn K c_NoWay [.type "ValueError", .type "Exception", .type "BaseException", .type "object"] "ValueError.__new__" = true)
    (k_NoWay : PySem.W.keepIn K (.ref c_NoWay) = true)
    (s_NoWay : PySem.W.subIn K (.ref c_NoWay) (.type "BaseException") = some true)
    (t_NoWay : PySem.W.typeIn K (.ref c_NoWay) = some (.type "type"))
    (a_TooLarge : PySem.W.nsIn K mainGlobals "TooLarge" = some (some (.ref c_TooLarge)))
    (a_law : PySem.W.nsIn K mainGlobals "law" = some (some (.ref f_law)))
    (l_law : K.lookup f_law = some ⟨oc_law, od_law, .func (PySem.W.fnOf "law" "law" (defArgs s_law) (defBody s_law) (defScope s_law) .none kV_law dc_law pm_law an_law (.ref tc_law) ct_law), sl_law⟩)
    (d_law : PySem.W.codeIn K (.ref tc_law) "law" = true)
    (k_law : PySem.W.keepIn K (.ref f_law) = true)
    (a__law_rounds : PySem.W.nsIn K mainGlobals "_law_rounds" = some (some (.ref f__law_rounds)))
    (l__law_rounds : K.lookup f__law_rounds = some ⟨oc__law_rounds, od__law_rounds, .func (PySem.W.fnOf "_law_rounds" "_law_rounds" (defArgs s__law_rounds) (defBody s__law_rounds) (defScope s__law_rounds) .none kV__law_rounds dc__law_rounds pm__law_rounds an__law_rounds (cd__law_rounds) ct__law_rounds), sl__law_rounds⟩)
    (d__law_rounds : PySem.W.codeIn K (cd__law_rounds) "_law_rounds" = true)
    (k__law_rounds : PySem.W.keepIn K (.ref f__law_rounds) = true)
    (a__law_dice : PySem.W.nsIn K mainGlobals "_law_dice" = some (some (.ref f__law_dice)))
    (l__law_dice : K.lookup f__law_dice = some ⟨oc__law_dice, od__law_dice, .func (PySem.W.fnOf "_law_dice" "_law_dice" (defArgs s__law_dice) (defBody s__law_dice) (defScope s__law_dice) .none kV__law_dice dc__law_dice pm__law_dice an__law_dice (cd__law_dice) ct__law_dice), sl__law_dice⟩)
    (d__law_dice : PySem.W.codeIn K (cd__law_dice) "_law_dice" = true)
    (k__law_dice : PySem.W.keepIn K (.ref f__law_dice) = true)
    (a__law_roll : PySem.W.nsIn K mainGlobals "_law_roll" = some (some (.ref f__law_roll)))
    (l__law_roll : K.lookup f__law_roll = some ⟨oc__law_roll, od__law_roll, .func (PySem.W.fnOf "_law_roll" "_law_roll" (defArgs s__law_roll) (defBody s__law_roll) (defScope s__law_roll) .none kV__law_roll dc__law_roll pm__law_roll an__law_roll (cd__law_roll) ct__law_roll), sl__law_roll⟩)
    (d__law_roll : PySem.W.codeIn K (cd__law_roll) "_law_roll" = true)
    (k__law_roll : PySem.W.keepIn K (.ref f__law_roll) = true)
    (a__law_told : PySem.W.nsIn K mainGlobals "_law_told" = some (some (.ref f__law_told)))
    (l__law_told : K.lookup f__law_told = some ⟨oc__law_told, od__law_told, .func (PySem.W.fnOf "_law_told" "_law_told" (defArgs s__law_told) (defBody s__law_told) (defScope s__law_told) .none kV__law_told dc__law_told pm__law_told an__law_told (cd__law_told) ct__law_told), sl__law_told⟩)
    (d__law_told : PySem.W.codeIn K (cd__law_told) "_law_told" = true)
    (k__law_told : PySem.W.keepIn K (.ref f__law_told) = true)
    (a_adding : PySem.W.nsIn K mainGlobals "adding" = some (some (.ref f_adding)))
    (l_adding : K.lookup f_adding = some ⟨oc_adding, od_adding, .func (PySem.W.fnOf "adding" "adding" (defArgs s_adding) (defBody s_adding) (defScope s_adding) .none kV_adding dc_adding pm_adding an_adding (cd_adding) ct_adding), sl_adding⟩)
    (d_adding : PySem.W.codeIn K (cd_adding) "adding" = true)
    (k_adding : PySem.W.keepIn K (.ref f_adding) = true)
    (a_by_adding : PySem.W.nsIn K mainGlobals "by_adding" = some (some (.ref f_by_adding)))
    (l_by_adding : K.lookup f_by_adding = some ⟨oc_by_adding, od_by_adding, .func (PySem.W.fnOf "by_adding" "by_adding" (defArgs s_by_adding) (defBody s_by_adding) (defScope s_by_adding) .none kV_by_adding dc_by_adding pm_by_adding an_by_adding (cd_by_adding) ct_by_adding), sl_by_adding⟩)
    (d_by_adding : PySem.W.codeIn K (cd_by_adding) "by_adding" = true)
    (k_by_adding : PySem.W.keepIn K (.ref f_by_adding) = true)
    (a_cleared : PySem.W.nsIn K mainGlobals "cleared" = some (some (.ref f_cleared)))
    (l_cleared : K.lookup f_cleared = some ⟨oc_cleared, od_cleared, .func (PySem.W.fnOf "cleared" "cleared" (defArgs s_cleared) (defBody s_cleared) (defScope s_cleared) .none kV_cleared dc_cleared pm_cleared an_cleared (cd_cleared) ct_cleared), sl_cleared⟩)
    (d_cleared : PySem.W.codeIn K (cd_cleared) "cleared" = true)
    (k_cleared : PySem.W.keepIn K (.ref f_cleared) = true)
    (a_corner : PySem.W.nsIn K mainGlobals "corner" = some (some (.ref f_corner)))
    (l_corner : K.lookup f_corner = some ⟨oc_corner, od_corner, .func (PySem.W.fnOf "corner" "corner" (defArgs s_corner) (defBody s_corner) (defScope s_corner) .none kV_corner dc_corner pm_corner an_corner (cd_corner) ct_corner), sl_corner⟩)
    (d_corner : PySem.W.codeIn K (cd_corner) "corner" = true)
    (k_corner : PySem.W.keepIn K (.ref f_corner) = true)
    (a_of_adding : PySem.W.nsIn K mainGlobals "of_adding" = some (some (.ref f_of_adding)))
    (l_of_adding : K.lookup f_of_adding = some ⟨oc_of_adding, od_of_adding, .func (PySem.W.fnOf "of_adding" "of_adding" (defArgs s_of_adding) (defBody s_of_adding) (defScope s_of_adding) .none kV_of_adding dc_of_adding pm_of_adding an_of_adding (cd_of_adding) ct_of_adding), sl_of_adding⟩)
    (d_of_adding : PySem.W.codeIn K (cd_of_adding) "of_adding" = true)
    (k_of_adding : PySem.W.keepIn K (.ref f_of_adding) = true)
    (a_times : PySem.W.nsIn K mainGlobals "times" = some (some (.ref f_times)))
    (l_times : K.lookup f_times = some ⟨oc_times, od_times, .func (PySem.W.fnOf "times" "times" (defArgs s_times) (defBody s_times) (defScope s_times) .none kV_times dc_times pm_times an_times (.ref tc_times) ct_times), sl_times⟩)
    (d_times : PySem.W.codeIn K (.ref tc_times) "times" = true)
    (k_times : PySem.W.keepIn K (.ref f_times) = true)
    (a_unit : PySem.W.nsIn K mainGlobals "unit" = some (some (.ref f_unit)))
    (l_unit : K.lookup f_unit = some ⟨oc_unit, od_unit, .func (PySem.W.fnOf "unit" "unit" (defArgs s_unit) (defBody s_unit) (defScope s_unit) .none kV_unit dc_unit pm_unit an_unit (cd_unit) ct_unit), sl_unit⟩)
    (d_unit : PySem.W.codeIn K (cd_unit) "unit" = true)
    (k_unit : PySem.W.keepIn K (.ref f_unit) = true)
    (a_step : PySem.W.nsIn K mainGlobals "step" = some (some (.ref f_step)))
    (l_step : K.lookup f_step = some ⟨oc_step, od_step, .func (PySem.W.fnOf "step" "step" (defArgs s_step) (defBody s_step) (defScope s_step) .none kV_step dc_step pm_step an_step (cd_step) ct_step), sl_step⟩)
    (d_step : PySem.W.codeIn K (cd_step) "step" = true)
    (k_step : PySem.W.keepIn K (.ref f_step) = true)
    (a_turned : PySem.W.nsIn K mainGlobals "turned" = some (some (.ref f_turned)))
    (l_turned : K.lookup f_turned = some ⟨oc_turned, od_turned, .func (PySem.W.fnOf "turned" "turned" (defArgs s_turned) (defBody s_turned) (defScope s_turned) .none kV_turned dc_turned pm_turned an_turned (cd_turned) ct_turned), sl_turned⟩)
    (d_turned : PySem.W.codeIn K (cd_turned) "turned" = true)
    (k_turned : PySem.W.keepIn K (.ref f_turned) = true)
    (e_NoWay_BadTurn : PySem.W.exmOne K (.ref c_NoWay) (.ref c_BadTurn) = some false)
    (e_NoWay_BadTable : PySem.W.exmOne K (.ref c_NoWay) (.ref c_BadTable) = some false)
    (e_NoWay_NoWay : PySem.W.exmOne K (.ref c_NoWay) (.ref c_NoWay) = some true)
    (z_abs : PySem.W.nsIn K mainGlobals "abs" = some none)
    (z_int : PySem.W.nsIn K mainGlobals "int" = some none)
    (z_len : PySem.W.nsIn K mainGlobals "len" = some none)
    (z_list : PySem.W.nsIn K mainGlobals "list" = some none)
    (z_range : PySem.W.nsIn K mainGlobals "range" = some none)
    (z_sum : PySem.W.nsIn K mainGlobals "sum" = some none)
    (z_tuple : PySem.W.nsIn K mainGlobals "tuple" = some none)
    (z_zip : PySem.W.nsIn K mainGlobals "zip" = some none)
    (t1_law : K.lookup tc_law = some ⟨te_law, td_law, .fields tv_law, tsl_law⟩)
    (t2_law : tv_law[11]? = some (.ref tP_law))
    (t3_law : PySem.W.codeHdIn K tc_law tP_law = true)
    (t4_law : K.lookup tP_law = none)
    (r_law : h.get? tP_law = some { cls := .none, data := .fields #[] })
    (t1_times : K.lookup tc_times = some ⟨te_times, td_times, .fields tv_times, tsl_times⟩)
    (t2_times : tv_times[11]? = some (.ref tP_times))
    (t3_times : PySem.W.codeHdIn K tc_times tP_times = true)
    (t4_times : K.lookup tP_times = none)
    (r_times : h.get? tP_times = some { cls := .none, data := .fields #[] })
    (nd : [tP_law, tP_times].Nodup) :
    LamX.LawAtS l w K (L2.CX l.prog w) 7 63 "script" mg fa h := by
  have e := hfa.symm.trans (PySem.W.mg_of X G a_law)
  cases e
  let hy : Hy K mg := { c_BadTable := c_BadTable, g_BadTable := PySem.W.mg_of X G a_BadTable, c_BadTurn := c_BadTurn, g_BadTurn := PySem.W.mg_of X G a_BadTurn, c_NoWay := c_NoWay, g_NoWay := PySem.W.mg_of X G a_NoWay, x_NoWay := x_NoWay, k_NoWay := k_NoWay, s_NoWay := s_NoWay, t_NoWay := t_NoWay, c_TooLarge := c_TooLarge, g_TooLarge := PySem.W.mg_of X G a_TooLarge, f__law_rounds := f__law_rounds, fd__law_rounds := _, F__law_rounds := fun_mk (st := s__law_rounds) l__law_rounds d__law_rounds k__law_rounds, b__law_rounds := (fun_mk (st := s__law_rounds) l__law_rounds d__law_rounds k__law_rounds).binds (ps := ["script", "most"]) fun _ _ _ _ _ _ us hl => (match us, hl with | [_, _], _ => rfl), m__law_rounds := PySem.W.mg_of X G a__law_rounds, f__law_dice := f__law_dice, fd__law_dice := _, F__law_dice := fun_mk (st := s__law_dice) l__law_dice d__law_dice k__law_dice, b__law_dice := (fun_mk (st := s__law_dice) l__law_dice d__law_dice k__law_dice).binds (ps := ["cell"]) fun _ _ _ _ _ _ us hl => (match us, hl with | [_], _ => rfl), m__law_dice := PySem.W.mg_of X G a__law_dice, f__law_roll := f__law_roll, fd__law_roll := _, F__law_roll := fun_mk (st := s__law_roll) l__law_roll d__law_roll k__law_roll, b__law_roll := (fun_mk (st := s__law_roll) l__law_roll d__law_roll k__law_roll).binds (ps := ["dice", "many"]) fun _ _ _ _ _ _ us hl => (match us, hl with | [_, _], _ => rfl), m__law_roll := PySem.W.mg_of X G a__law_roll, f__law_told := f__law_told, fd__law_told := _, F__law_told := fun_mk (st := s__law_told) l__law_told d__law_told k__law_told, b__law_told := (fun_mk (st := s__law_told) l__law_told d__law_told k__law_told).binds (ps := ["what"]) fun _ _ _ _ _ _ us hl => (match us, hl with | [_], _ => rfl), m__law_told := PySem.W.mg_of X G a__law_told, f_adding := f_adding, fd_adding := _, F_adding := fun_mk (st := s_adding) l_adding d_adding k_adding, b_adding := (fun_mk (st := s_adding) l_adding d_adding k_adding).binds (ps := ["many", "k", "j", "number"]) fun _ _ _ _ _ _ us hl => (match us, hl with | [_, _, _, _], _ => rfl), m_adding := PySem.W.mg_of X G a_adding, f_by_adding := f_by_adding, fd_by_adding := _, F_by_adding := fun_mk (st := s_by_adding) l_by_adding d_by_adding k_by_adding, b_by_adding := (fun_mk (st := s_by_adding) l_by_adding d_by_adding k_by_adding).binds (ps := ["grid", "prime"]) fun _ _ _ _ _ _ us hl => (match us, hl with | [_, _], _ => rfl), m_by_adding := PySem.W.mg_of X G a_by_adding, f_cleared := f_cleared, fd_cleared := _, F_cleared := fun_mk (st := s_cleared) l_cleared d_cleared k_cleared, b_cleared := (fun_mk (st := s_cleared) l_cleared d_cleared k_cleared).binds (ps := ["rows", "prime"]) fun _ _ _ _ _ _ us hl => (match us, hl with | [_, _], _ => rfl), m_cleared := PySem.W.mg_of X G a_cleared, f_corner := f_corner, fd_corner := _, F_corner := fun_mk (st := s_corner) l_corner d_corner k_corner, b_corner := (fun_mk (st := s_corner) l_corner d_corner k_corner).binds (ps := ["rows", "prime"]) fun _ _ _ _ _ _ us hl => (match us, hl with | [_, _], _ => rfl), m_corner := PySem.W.mg_of X G a_corner, f_of_adding := f_of_adding, fd_of_adding := _, F_of_adding := fun_mk (st := s_of_adding) l_of_adding d_of_adding k_of_adding, b_of_adding := (fun_mk (st := s_of_adding) l_of_adding d_of_adding k_of_adding).binds (ps := ["steps", "numbers", "prime"]) fun _ _ _ _ _ _ us hl => (match us, hl with | [_, _, _], _ => rfl), m_of_adding := PySem.W.mg_of X G a_of_adding, f_times := f_times, fd_times := _, F_times := fun_mk (st := s_times) l_times d_times k_times, b_times := (fun_mk (st := s_times) l_times d_times k_times).binds (ps := ["one", "other", "prime"]) fun _ _ _ _ _ _ us hl => (match us, hl with | [_, _, _], _ => rfl), m_times := PySem.W.mg_of X G a_times, f_unit := f_unit, fd_unit := _, F_unit := fun_mk (st := s_unit) l_unit d_unit k_unit, b_unit := (fun_mk (st := s_unit) l_unit d_unit k_unit).binds (ps := ["many"]) fun _ _ _ _ _ _ us hl => (match us, hl with | [_], _ => rfl), m_unit := PySem.W.mg_of X G a_unit, f_step := f_step, fd_step := _, F_step := fun_mk (st := s_step) l_step d_step k_step, b_step := (fun_mk (st := s_step) l_step d_step k_step).binds (ps := ["rows", "k", "j", "much", "prime"]) fun _ _ _ _ _ _ us hl => (match us, hl with | [_, _, _, _, _], _ => rfl), m_step := PySem.W.mg_of X G a_step, f_turned := f_turned, fd_turned := _, F_turned := fun_mk (st := s_turned) l_turned d_turned k_turned, b_turned := (fun_mk (st := s_turned) l_turned d_turned k_turned).binds (ps := ["number", "prime"]) fun _ _ _ _ _ _ us hl => (match us, hl with | [_, _], _ => rfl), m_turned := PySem.W.mg_of X G a_turned, e_NoWay_BadTurn := e_NoWay_BadTurn, e_NoWay_BadTable := e_NoWay_BadTable, e_NoWay_NoWay := e_NoWay_NoWay, z_abs := PySem.W.mg_none_of X G z_abs, z_int := PySem.W.mg_none_of X G z_int, z_len := PySem.W.mg_none_of X G z_len, z_list := PySem.W.mg_none_of X G z_list, z_range := PySem.W.mg_none_of X G z_range, z_sum := PySem.W.mg_none_of X G z_sum, z_tuple := PySem.W.mg_none_of X G z_tuple, z_zip := PySem.W.mg_none_of X G z_zip, tc_law := tc_law, tP_law := tP_law, tc_times := tc_times, tP_times := tP_times, cd_times := rfl, nd := nd }
  exact ⟨_, [(tc_law, tP_law), (tc_times, tP_times)], spLaw K (nm hy), (List.forall_mem_cons.mpr ⟨r_law, List.forall_mem_cons.mpr ⟨r_times, fun _ h => nomatch h⟩⟩), (List.forall_mem_cons.mpr ⟨t4_law, List.forall_mem_cons.mpr ⟨t4_times, fun _ h => nomatch h⟩⟩), (List.forall_mem_cons.mpr ⟨(PySem.W.codeHd_of_K X t3_law), List.forall_mem_cons.mpr ⟨(PySem.W.codeHd_of_K X t3_times), fun _ h => nomatch h⟩⟩), fun s v => .of_eq rfl, fun H a ns _ _ hT hS => ⟨a, ns, rfl, hS, (List.forall_mem_cons.mpr ⟨(TabP.nil (hT _ List.mem_cons_self)), List.forall_mem_cons.mpr ⟨(TabP.nil (hT _ (List.mem_cons_of_mem _ List.mem_cons_self))), fun _ h => nomatch h⟩⟩), fun _ => rfl⟩, fun base _ _ TB => g_law hy ⟨trivial, TB _ List.mem_cons_self, TB _ (List.mem_cons_of_mem _ List.mem_cons_self)⟩ l_law d_law⟩
end L30
open PySem PySem.W PyProof.Rows
set_option maxHeartbeats 0 in
theorem PySem.Challenge.cw_grouphall_k30_grids_by_adding_steps_holds : PySem.Challenge.rw_grouphall_k30_grids_by_adding_steps.Holds := by
  w_on; o_law; x_head; (case hw => w_witness2)
  k_fill
  refine LamX.walk_ofTsE (l := PySem.Challenge.rw_grouphall_k30_grids_by_adding_steps) (n := 63) (k := 7) (x := "script") (CX := fun w => L2.CX PySem.Challenge.rw_grouphall_k30_grids_by_adding_steps.prog w) rfl (by decide) rfl ⟨rfl, by decide, by decide⟩ ?F (fun _ _ _ _ _ z => by obtain ⟨_, _, _, _, _, _, _, _, _, _, _, _, z⟩ := z; exact z)
  case F =>
    intro w mg fa h Y G hmg
    have KX := DL.nt_in (PySem.W.kIn_of Y) (by kernel_rfl)
    refine ⟨_, KX, ?_⟩
    refine' L30.all_mk KX G hmg ?a_BadTable ?a_BadTurn ?a_NoWay ?x_NoWay ?k_NoWay ?s_NoWay ?t_NoWay ?a_TooLarge ?a_law ?l_law ?d_law ?k_law ?a__law_rounds ?l__law_rounds ?d__law_rounds ?k__law_rounds ?a__law_dice ?l__law_dice ?d__law_dice ?k__law_dice ?a__law_roll ?l__law_roll ?d__law_roll ?k__law_roll ?a__law_told ?l__law_told ?d__law_told ?k__law_told ?a_adding ?l_adding ?d_adding ?k_adding ?a_by_adding ?l_by_adding ?d_by_adding ?k_by_adding ?a_cleared ?l_cleared ?d_cleared ?k_cleared ?a_corner ?l_corner ?d_corner ?k_corner ?a_of_adding ?l_of_adding ?d_of_adding ?k_of_adding ?a_times ?l_times ?d_times ?k_times ?a_unit ?l_unit ?d_unit ?k_unit ?a_step ?l_step ?d_step ?k_step ?a_turned ?l_turned ?d_turned ?k_turned ?e_NoWay_BadTurn ?e_NoWay_BadTable ?e_NoWay_NoWay ?z_abs ?z_int ?z_len ?z_list ?z_range ?z_sum ?z_tuple ?z_zip ?t1_law ?t2_law ?t3_law ?t4_law ?r_law ?t1_times ?t2_times ?t3_times ?t4_times ?r_times ?nd
    (case a_BadTable => first | (refine DL.nt_ns ?_ ?_; k_is; kernel_rfl) | (refine DL.nt_find ?_ ?_; k_is; kernel_rfl)); (case a_BadTurn => first | (refine DL.nt_ns ?_ ?_; k_is; kernel_rfl) | (refine DL.nt_find ?_ ?_; k_is; kernel_rfl)); (case a_NoWay => first | (refine DL.nt_ns ?_ ?_; k_is; kernel_rfl) | (refine DL.nt_find ?_ ?_; k_is; kernel_rfl)); (case x_NoWay => kernel_rfl); (case k_NoWay => kernel_rfl); (case s_NoWay => kernel_rfl); (case t_NoWay => kernel_rfl); (case a_TooLarge => first | (refine DL.nt_ns ?_ ?_; k_is; kernel_rfl) | (refine DL.nt_find ?_ ?_; k_is; kernel_rfl)); (case a_law => first | (refine DL.nt_ns ?_ ?_; k_is; kernel_rfl) | (refine DL.nt_find ?_ ?_; k_is; kernel_rfl)); (case l_law => refine DL.nt_lk ?_ ?_; k_is; kernel_rfl); (case d_law => kernel_rfl); (case k_law => kernel_rfl); (case a__law_rounds => first | (refine DL.nt_ns ?_ ?_; k_is; kernel_rfl) | (refine DL.nt_find ?_ ?_; k_is; kernel_rfl)); (case l__law_rounds => refine DL.nt_lk ?_ ?_; k_is; kernel_rfl); (case d__law_rounds => kernel_rfl); (case k__law_rounds => kernel_rfl); (case a__law_dice => first | (refine DL.nt_ns ?_ ?_; k_is; kernel_rfl) | (refine DL.nt_find ?_ ?_; k_is; kernel_rfl)); (case l__law_dice => refine DL.nt_lk ?_ ?_; k_is; kernel_rfl); (case d__law_dice => kernel_rfl); (case k__law_dice => kernel_rfl); (case a__law_roll => first | (refine DL.nt_ns ?_ ?_; k_is; kernel_rfl) | (refine DL.nt_find ?_ ?_; k_is; kernel_rfl)); (case l__law_roll => refine DL.nt_lk ?_ ?_; k_is; kernel_rfl); (case d__law_roll => kernel_rfl); (case k__law_roll => kernel_rfl); (case a__law_told => first | (refine DL.nt_ns ?_ ?_; k_is; kernel_rfl) | (refine DL.nt_find ?_ ?_; k_is; kernel_rfl)); (case l__law_told => refine DL.nt_lk ?_ ?_; k_is; kernel_rfl); (case d__law_told => kernel_rfl); (case k__law_told => kernel_rfl); (case a_adding => first | (refine DL.nt_ns ?_ ?_; k_is; kernel_rfl) | (refine DL.nt_find ?_ ?_; k_is; kernel_rfl)); (case l_adding => refine DL.nt_lk ?_ ?_; k_is; kernel_rfl); (case d_adding => kernel_rfl); (case k_adding => kernel_rfl); (case a_by_adding => first | (refine DL.nt_ns ?_ ?_; k_is; kernel_rfl) | (refine DL.nt_find ?_ ?_; k_is; kernel_rfl)); (case l_by_adding => refine DL.nt_lk ?_ ?_; k_is; kernel_rfl); (case d_by_adding => kernel_rfl); (case k_by_adding => kernel_rfl); (case a_cleared => first | (refine DL.nt_ns ?_ ?_; k_is; kernel_rfl) | (refine DL.nt_find ?_ ?_; k_is; kernel_rfl)); (case l_cleared => refine DL.nt_lk ?_ ?_; k_is; kernel_rfl); (case d_cleared => kernel_rfl); (case k_cleared => kernel_rfl); (case a_corner => first | (refine DL.nt_ns ?_ ?_; k_is; kernel_rfl) | (refine DL.nt_find ?_ ?_; k_is; kernel_rfl)); (case l_corner => refine DL.nt_lk ?_ ?_; k_is; kernel_rfl); (case d_corner => kernel_rfl); (case k_corner => kernel_rfl); (case a_of_adding => first | (refine DL.nt_ns ?_ ?_; k_is; kernel_rfl) | (refine DL.nt_find ?_ ?_; k_is; kernel_rfl)); (case l_of_adding => refine DL.nt_lk ?_ ?_; k_is; kernel_rfl); (case d_of_adding => kernel_rfl); (case k_of_adding => kernel_rfl); (case a_times => first | (refine DL.nt_ns ?_ ?_; k_is; kernel_rfl) | (refine DL.nt_find ?_ ?_; k_is; kernel_rfl)); (case l_times => refine DL.nt_lk ?_ ?_; k_is; kernel_rfl); (case d_times => kernel_rfl); (case k_times => kernel_rfl); (case a_unit => first | (refine DL.nt_ns ?_ ?_; k_is; kernel_rfl) | (refine DL.nt_find ?_ ?_; k_is; kernel_rfl)); (case l_unit => refine DL.nt_lk ?_ ?_; k_is; kernel_rfl); (case d_unit => kernel_rfl); (case k_unit => kernel_rfl); (case a_step => first | (refine DL.nt_ns ?_ ?_; k_is; kernel_rfl) | (refine DL.nt_find ?_ ?_; k_is; kernel_rfl)); (case l_step => refine DL.nt_lk ?_ ?_; k_is; kernel_rfl); (case d_step => kernel_rfl); (case k_step => kernel_rfl); (case a_turned => first | (refine DL.nt_ns ?_ ?_; k_is; kernel_rfl) | (refine DL.nt_find ?_ ?_; k_is; kernel_rfl)); (case l_turned => refine DL.nt_lk ?_ ?_; k_is; kernel_rfl); (case d_turned => kernel_rfl); (case k_turned => kernel_rfl); (case e_NoWay_BadTurn => kernel_rfl); (case e_NoWay_BadTable => kernel_rfl); (case e_NoWay_NoWay => kernel_rfl); (case z_abs => first | (refine DL.nt_ns ?_ ?_; k_is; kernel_rfl) | (refine DL.nt_find ?_ ?_; k_is; kernel_rfl)); (case z_int => first | (refine DL.nt_ns ?_ ?_; k_is; kernel_rfl) | (refine DL.nt_find ?_ ?_; k_is; kernel_rfl)); (case z_len => first | (refine DL.nt_ns ?_ ?_; k_is; kernel_rfl) | (refine DL.nt_find ?_ ?_; k_is; kernel_rfl)); (case z_list => first | (refine DL.nt_ns ?_ ?_; k_is; kernel_rfl) | (refine DL.nt_find ?_ ?_; k_is; kernel_rfl)); (case z_range => first | (refine DL.nt_ns ?_ ?_; k_is; kernel_rfl) | (refine DL.nt_find ?_ ?_; k_is; kernel_rfl)); (case z_sum => first | (refine DL.nt_ns ?_ ?_; k_is; kernel_rfl) | (refine DL.nt_find ?_ ?_; k_is; kernel_rfl)); (case z_tuple => first | (refine DL.nt_ns ?_ ?_; k_is; kernel_rfl) | (refine DL.nt_find ?_ ?_; k_is; kernel_rfl)); (case z_zip => first | (refine DL.nt_ns ?_ ?_; k_is; kernel_rfl) | (refine DL.nt_find ?_ ?_; k_is; kernel_rfl)); (case t1_law => refine DL.nt_lk ?_ ?_; k_is; kernel_rfl); (case t2_law => exact rfl); (case t3_law => kernel_rfl); (case t4_law => kernel_rfl); (case r_law => refine DL.nt_tab (PySem.W.kIn_of Y) ?_; k_is); (case t1_times => refine DL.nt_lk ?_ ?_; k_is; kernel_rfl); (case t2_times => exact rfl); (case t3_times => kernel_rfl); (case t4_times => kernel_rfl); (case r_times => refine DL.nt_tab (PySem.W.kIn_of Y) ?_; k_is); (case nd => decide)
