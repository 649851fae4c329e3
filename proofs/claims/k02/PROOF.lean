import PyProof.Rows.All
import Wide.All
import OpenK.AllK
import Wide.FinOn
import HandS.ForMost
import HandS.ForExc
import HandS.Walk
import HandS.TryMany
import HandS.Lambda
import HandS.TupAny
import HandS.TupMul
import HandS.Deep
import HandS.Rev
import HandS.Zip
import HandS.Conv
import HandS.Codes
import HandS.IsInst
import HandS.Small
import HandS.Flow
import HandS.NoneIn
import HandS.Style
import HandS.SortInts
import KE.KSortTup
import HandS.EndOwn
import PySem.Challenge.RW_grouphall_k02_turns_in_order
set_option Elab.async false
set_option linter.all false
set_option maxRecDepth 100000
/-! values as trees, a small heap of cells, worlds -/
namespace DL
open PySem PySem.Spec L2

inductive D where
  | non | bl (b : Bool) | int (i : Int) | str (x : Str) | tup (l : List D) | ref (r : Nat)

/-- what stands in a cell: a list; a list that is read alone; three ints that nobody knows; a dict; an instance; a thing by its number -/
inductive Cell where
  | lst (l : List D) | frz (l : List D) | dice | dct (t : Bool) (kvs : List (D × D)) | ins (c : Nat) (fs : List (Nat × D))

def Cell.mut : Cell → Bool
  | .frz _ => false
  | _ => true

structure Hd where
  nx : Nat
  cs : List (Nat × Cell)

def look (r : Nat) : List (Nat × Cell) → Option Cell
  | [] => none
  | p :: t => match Nat.beq p.1 r with
    | true => some p.2
    | false => look r t
def Hd.get (η : Hd) (r : Nat) : Option Cell := look r η.cs
def put (r : Nat) (c : Cell) : List (Nat × Cell) → List (Nat × Cell)
  | [] => []
  | p :: t => match Nat.beq p.1 r with
    | true => (r, c) :: t
    | false => p :: put r c t
def Hd.set (η : Hd) (r : Nat) (c : Cell) : Hd := ⟨η.nx, put r c η.cs⟩
def Hd.new (η : Hd) (c : Cell) : Hd := ⟨Nat.succ η.nx, (η.nx, c) :: η.cs⟩

theorem look_put (r : Nat) (c : Cell) (q : Nat) : ∀ l : List (Nat × Cell), look q (put r c l) = if q = r then (look r l).map (fun _ => c) else look q l
  | [] => by simp [put, look]
  | p :: t => by
    have ih := look_put r c q t
    unfold put
    cases e : Nat.beq p.1 r with
    | true =>
      have e' : p.1 = r := Nat.eq_of_beq_eq_true e
      by_cases h : q = r
      · subst h
        have e2 : Nat.beq q q = true := Nat.beq_refl q
        simp [look, e, e2]
      · have e2 : Nat.beq r q = false := by
          cases z : Nat.beq r q with
          | false => rfl
          | true => exact absurd (Nat.eq_of_beq_eq_true z).symm h
        have e3 : Nat.beq p.1 q = false := by rw [e']; exact e2
        simp [look, e2, e3, h]
    | false =>
      by_cases h : q = r
      · subst h
        simp only [look, e, ih, if_true]
      · simp only [look, ih, if_neg h]
theorem Hd.get_set (η : Hd) (r : Nat) (c : Cell) (q : Nat) : (η.set r c).get q = if q = r then (η.get r).map (fun _ => c) else η.get q := look_put r c q η.cs
theorem Hd.get_new (η : Hd) (c : Cell) (q : Nat) : (η.new c).get q = if q = η.nx then some c else η.get q := by
  unfold Hd.get Hd.new
  by_cases h : q = η.nx
  · subst h
    have e2 : Nat.beq η.nx η.nx = true := Nat.beq_refl _
    simp [look, e2]
  · have e2 : Nat.beq η.nx q = false := by
      cases z : Nat.beq η.nx q with
      | false => rfl
      | true => exact absurd (Nat.eq_of_beq_eq_true z).symm h
    simp [look, e2, h]

/-! ### worlds -/
structure Wl where
  μ : Nat → Addr
  η : Hd
  H : Hp

section
variable (W : Wl)
mutual
def RelD : D → V → Prop
  | .non, v => v = .non
  | .bl b, v => v = .bl b
  | .int i, v => v = .int i
  | .str x, v => v = .str x
  | .ref r, v => r < W.η.nx ∧ v = .ref (W.μ r)
  | .tup ds, v => ∃ a vs, v = .ref a ∧ W.H a = some (.tup vs) ∧ RelDs ds vs
def RelDs : List D → List V → Prop
  | [], vs => vs = []
  | d :: ds, vs => ∃ v vs', vs = v :: vs' ∧ RelD d v ∧ RelDs ds vs'
end
end
section
variable {K : PySem.W.Frag} {W : Wl}
theorem RelDs.length : ∀ {ds : List D} {vs : List V}, RelDs W ds vs → ds.length = vs.length
  | [], _, h => by rw [RelDs] at h; subst h; rfl
  | d :: ds, _, h => by
    rw [RelDs] at h
    obtain ⟨v, vs', rfl, _, h2⟩ := h
    simp [RelDs.length h2]
theorem RelDs.nil : RelDs W [] [] := by rw [RelDs]
theorem RelDs.cons {d : D} {ds : List D} {v : V} {vs : List V} (h : RelD W d v) (h2 : RelDs W ds vs) : RelDs W (d :: ds) (v :: vs) := by
  rw [RelDs]; exact ⟨v, vs, rfl, h, h2⟩
theorem RelDs.get : ∀ {ds : List D} {vs : List V} {i : Nat} {v : V}, RelDs W ds vs → vs[i]? = some v → ∃ d, ds[i]? = some d ∧ RelD W d v
  | [], _, i, v, h, e => by rw [RelDs] at h; subst h; simp at e
  | d :: ds, _, 0, v, h, e => by
    rw [RelDs] at h
    obtain ⟨v', vs', rfl, h1, h2⟩ := h
    simp at e; subst e
    exact ⟨d, rfl, h1⟩
  | d :: ds, _, i + 1, v, h, e => by
    rw [RelDs] at h
    obtain ⟨v', vs', rfl, h1, h2⟩ := h
    simp at e
    obtain ⟨d', e', r⟩ := RelDs.get h2 e
    exact ⟨d', by simpa using e', r⟩
theorem RelDs.get' : ∀ {ds : List D} {vs : List V} {i : Nat} {d : D}, RelDs W ds vs → ds[i]? = some d → ∃ v, vs[i]? = some v ∧ RelD W d v
  | [], _, i, v, h, e => by simp at e
  | d :: ds, _, 0, v, h, e => by
    rw [RelDs] at h
    obtain ⟨v', vs', rfl, h1, h2⟩ := h
    simp at e; subst e
    exact ⟨v', rfl, h1⟩
  | d :: ds, _, i + 1, v, h, e => by
    rw [RelDs] at h
    obtain ⟨v', vs', rfl, h1, h2⟩ := h
    simp at e
    obtain ⟨d', e', r⟩ := RelDs.get' h2 e
    exact ⟨d', by simpa using e', r⟩
theorem RelDs.append : ∀ {ds ds' : List D} {vs vs' : List V}, RelDs W ds vs → RelDs W ds' vs' → RelDs W (ds ++ ds') (vs ++ vs')
  | [], _, _, _, h, h2 => by rw [RelDs] at h; subst h; exact h2
  | d :: ds, _, _, _, h, h2 => by
    rw [RelDs] at h
    obtain ⟨v', vs', rfl, h1, h3⟩ := h
    exact RelDs.cons h1 (RelDs.append h3 h2)
theorem RelDs.take : ∀ {ds : List D} {vs : List V} (n : Nat), RelDs W ds vs → RelDs W (ds.take n) (vs.take n)
  | [], _, n, h => by rw [RelDs] at h; subst h; simp; exact .nil
  | d :: ds, _, 0, h => by simp; exact .nil
  | d :: ds, _, n + 1, h => by
    rw [RelDs] at h
    obtain ⟨v', vs', rfl, h1, h3⟩ := h
    exact RelDs.cons h1 (RelDs.take n h3)
theorem RelDs.drop : ∀ {ds : List D} {vs : List V} (n : Nat), RelDs W ds vs → RelDs W (ds.drop n) (vs.drop n)
  | [], _, n, h => by rw [RelDs] at h; subst h; simp; exact .nil
  | d :: ds, _, 0, h => h
  | d :: ds, _, n + 1, h => by
    rw [RelDs] at h
    obtain ⟨v', vs', rfl, h1, h3⟩ := h
    exact RelDs.drop n h3
theorem RelDs.set {d : D} {v : V} (r : RelD W d v) : ∀ {ds : List D} {vs : List V} (n : Nat), RelDs W ds vs → RelDs W (ds.set n d) (vs.set n v)
  | [], _, n, h => by rw [RelDs] at h; subst h; exact .nil
  | d :: ds, _, 0, h => by
    rw [RelDs] at h
    obtain ⟨v', vs', rfl, h1, h3⟩ := h
    exact RelDs.cons r h3
  | d :: ds, _, n + 1, h => by
    rw [RelDs] at h
    obtain ⟨v', vs', rfl, h1, h3⟩ := h
    exact RelDs.cons h1 (RelDs.set r n h3)
theorem RelDs.reverse {ds : List D} {vs : List V} (h : RelDs W ds vs) : RelDs W ds.reverse vs.reverse := by
  induction ds generalizing vs with
  | nil => rw [RelDs] at h; subst h; exact .nil
  | cons d ds ih =>
    rw [RelDs] at h
    obtain ⟨v', vs', rfl, h1, h3⟩ := h
    simp only [List.reverse_cons]
    exact (ih h3).append (RelDs.cons h1 .nil)
end

/-- the names of attributes by number; the classes by number -/
structure Names where
  fld : Nat → Str
  cls : Nat → Addr
  /-- the tables of code objects -/
  tabs : List (Addr × Str)

def RelFs (W : Wl) (N : Names) : List (Nat × D) → List (Str × V) → Prop
  | [], fs => fs = []
  | (k, d) :: r, fs => ∃ v fs', fs = (N.fld k, v) :: fs' ∧ RelD W d v ∧ RelFs W N r fs'

/-! keys -/
def D.key : D → Option Key
  | .int i => some (.inl i)
  | .str s => some (.inr s)
  | _ => none
def keysOf : List D → Option (List Key)
  | [] => some []
  | d :: ds => match D.key d, keysOf ds with
    | some k, some ks => some (k :: ks)
    | _, _ => none
def D.tkey : D → Option (List Key)
  | .tup ds => keysOf ds
  | _ => none
def RelK (W : Wl) : List (D × D) → List (Key × V) → Prop
  | [], ps => ps = []
  | (k, d) :: r, ps => ∃ k' v ps', ps = (k', v) :: ps' ∧ k.key = some k' ∧ RelD W d v ∧ RelK W r ps'
def RelT (W : Wl) : List (D × D) → List (List Key × V) → Prop
  | [], ps => ps = []
  | (k, d) :: r, ps => ∃ k' v ps', ps = (k', v) :: ps' ∧ k.tkey = some k' ∧ RelD W d v ∧ RelT W r ps'

/-- what the address of a cell holds -/
def RelC (K : PySem.W.Frag) (N : Names) (W : Wl) (a : Addr) : Cell → Prop
  | .lst ds => ∃ vs, W.H a = some (.lst vs) ∧ RelDs W ds vs ∧ ds.length ≤ sizeLine
  | .frz ds => ∃ vs, W.H a = some (.lst vs) ∧ RelDs W ds vs ∧ ds.length ≤ sizeLine
  | .dice => ∃ x y z, W.H a = some (.lst [.int x, .int y, .int z])
  | .dct false kvs => ∃ ps, W.H a = some (.dK ps) ∧ RelK W kvs ps ∧ kvs.length ≤ sizeLine
  | .dct true kvs => ∃ ps, W.H a = some (.dT ps) ∧ RelT W kvs ps ∧ kvs.length ≤ sizeLine
  | .ins c fs => ∃ dx gs, W.H a = some (.ins (N.cls c) dx gs) ∧ RelFs W N fs gs ∧ fs.length ≤ 900

structure Wl.Ok (K : PySem.W.Frag) (N : Names) (W : Wl) : Prop where
  lt : ∀ r c, W.η.get r = some c → r < W.η.nx
  cell : ∀ r c, W.η.get r = some c → RelC K N W (W.μ r) c
  inj : ∀ r s c d, W.η.get r = some c → W.η.get s = some d → W.μ r = W.μ s → r = s
  tab : LamX.Tabs N.tabs W.H

/-- no table of code objects -/
def noT (o : HO) : Prop := ∀ ps, o ≠ .tbl ps
/-- nothing stands there, or a table -/
def NoC (H : Hp) (a : Addr) : Prop := ∀ o, H a = some o → ¬ noT o
theorem NoC.of {H : Hp} {a : Addr} (h : H a = none) : NoC H a := fun o e => by rw [h] at e; cases e

/-- what a step may do -/
structure Ext (W W' : Wl) : Prop where
  nx : W.η.nx ≤ W'.η.nx
  mu : ∀ r, r < W.η.nx → W'.μ r = W.μ r
  fr : ∀ a o, W.H a = some o → noT o → (∀ r c, W.η.get r = some c → c.mut = true → W.μ r ≠ a) → W'.H a = some o
  th : ∀ a o, W.H a = some o → noT o → ∃ o', W'.H a = some o' ∧ noT o'
  cs : ∀ r c, W'.η.get r = some c → (∃ c0, W.η.get r = some c0 ∧ (c.mut = true → c0.mut = true)) ∨ (W.η.nx ≤ r ∧ NoC W.H (W'.μ r))

theorem Ext.refl (W : Wl) : Ext W W := ⟨Nat.le_refl _, fun _ _ => rfl, fun _ _ h _ _ => h, fun _ o h t => ⟨o, h, t⟩, fun _ c h => .inl ⟨c, h, id⟩⟩
section
variable {K : PySem.W.Frag} {N : Names} {W W1 W2 W' : Wl}
theorem Ext.trans (o : W.Ok K N) (o1 : W1.Ok K N) (a : Ext W W1) (b : Ext W1 W2) : Ext W W2 where
  nx := Nat.le_trans a.nx b.nx
  mu := fun r h => (b.mu r (Nat.lt_of_lt_of_le h a.nx)).trans (a.mu r h)
  fr := fun x ob h ht hn => by
    refine b.fr x ob (a.fr x ob h ht hn) ht fun r c e m => ?_
    rcases a.cs r c e with ⟨c0, e0, m0⟩ | ⟨_, f⟩
    · rw [a.mu r (o.lt r c0 e0)]; exact hn r c0 e0 (m0 m)
    · intro z; exact f ob (by rw [z]; exact h) ht
  th := fun x ob h ht => by obtain ⟨o', h', t'⟩ := a.th x ob h ht; exact b.th x o' h' t'
  cs := fun r c e => by
    rcases b.cs r c e with ⟨c1, e1, m1⟩ | ⟨h1, f⟩
    · rcases a.cs r c1 e1 with ⟨c0, e0, m0⟩ | ⟨h2, f⟩
      · exact .inl ⟨c0, e0, fun m => m0 (m1 m)⟩
      · exact .inr ⟨h2, by rw [b.mu r (o1.lt r c1 e1)]; exact f⟩
    · refine .inr ⟨Nat.le_trans a.nx h1, fun ob q t => ?_⟩
      obtain ⟨o', h', t'⟩ := a.th _ _ q t
      exact f o' h' t'
/-- no cell stands where a tuple, a locked thing stands -/
theorem Wl.Ok.nocell (o : W.Ok K N) {a : Addr} {u : HO} (h : W.H a = some u) (hu : (∃ xs, u = .tup xs) ∨ (∃ ob v, u = .frz ob v) ∨ (∃ x, u = .own x)) : ∀ r c, W.η.get r = some c → c.mut = true → W.μ r ≠ a := by
  intro r c e m z
  have q := o.cell r c e
  rw [z] at q
  cases c with
  | frz _ => cases m
  | lst l => obtain ⟨vs, q, _⟩ := q; rw [h] at q; cases q; rcases hu with ⟨_, z⟩ | ⟨_, _, z⟩ | ⟨_, z⟩ <;> cases z
  | dice => obtain ⟨_, _, _, q⟩ := q; rw [h] at q; cases q; rcases hu with ⟨_, z⟩ | ⟨_, _, z⟩ | ⟨_, z⟩ <;> cases z
  | dct t l =>
    cases t
    · obtain ⟨vs, q, _⟩ := q; rw [h] at q; cases q; rcases hu with ⟨_, z⟩ | ⟨_, _, z⟩ | ⟨_, z⟩ <;> cases z
    · obtain ⟨vs, q, _⟩ := q; rw [h] at q; cases q; rcases hu with ⟨_, z⟩ | ⟨_, _, z⟩ | ⟨_, z⟩ <;> cases z
  | ins c fs => obtain ⟨_, _, q, _⟩ := q; rw [h] at q; cases q; rcases hu with ⟨_, z⟩ | ⟨_, _, z⟩ | ⟨_, z⟩ <;> cases z
theorem Ext.sqT (o : W.Ok K N) (x : Ext W W') {a : Addr} {vs : List V} (h : W.H a = some (.tup vs)) : W'.H a = some (.tup vs) :=
  x.fr a _ h (fun _ z => nomatch z) (o.nocell h (.inl ⟨_, rfl⟩))
mutual
theorem RelD.mono (o : W.Ok K N) (x : Ext W W') : ∀ {d : D} {v : V}, RelD W d v → RelD W' d v
  | .non, v, h => by rw [RelD] at *; exact h
  | .bl b, v, h => by rw [RelD] at *; exact h
  | .int i, v, h => by rw [RelD] at *; exact h
  | .str s, v, h => by rw [RelD] at *; exact h
  | .ref r, v, h => by rw [RelD] at *; exact ⟨Nat.lt_of_lt_of_le h.1 x.nx, by rw [x.mu r h.1]; exact h.2⟩
  | .tup ds, v, h => by
    rw [RelD] at *
    obtain ⟨a, vs, e, h1, h2⟩ := h
    exact ⟨a, vs, e, x.sqT o h1, RelDs.mono o x h2⟩
theorem RelDs.mono (o : W.Ok K N) (x : Ext W W') : ∀ {ds : List D} {vs : List V}, RelDs W ds vs → RelDs W' ds vs
  | [], vs, h => by rw [RelDs] at *; exact h
  | d :: ds, vs, h => by
    rw [RelDs] at *
    obtain ⟨v, vs', e, h1, h2⟩ := h
    exact ⟨v, vs', e, RelD.mono o x h1, RelDs.mono o x h2⟩
end
theorem RelFs.mono (o : W.Ok K N) (x : Ext W W') : ∀ {fs : List (Nat × D)} {gs : List (Str × V)}, RelFs W N fs gs → RelFs W' N fs gs
  | [], vs, h => by rw [RelFs] at *; exact h
  | (k, d) :: ds, vs, h => by
    rw [RelFs] at *
    obtain ⟨v, vs', e, h1, h2⟩ := h
    exact ⟨v, vs', e, RelD.mono o x h1, RelFs.mono o x h2⟩
theorem RelK.mono (o : W.Ok K N) (x : Ext W W') : ∀ {fs : List (D × D)} {gs : List (Key × V)}, RelK W fs gs → RelK W' fs gs
  | [], vs, h => by rw [RelK] at *; exact h
  | (k, d) :: ds, vs, h => by
    rw [RelK] at *
    obtain ⟨k', v, vs', e, h0, h1, h2⟩ := h
    exact ⟨k', v, vs', e, h0, RelD.mono o x h1, RelK.mono o x h2⟩
theorem RelT.mono (o : W.Ok K N) (x : Ext W W') : ∀ {fs : List (D × D)} {gs : List (List Key × V)}, RelT W fs gs → RelT W' fs gs
  | [], vs, h => by rw [RelT] at *; exact h
  | (k, d) :: ds, vs, h => by
    rw [RelT] at *
    obtain ⟨k', v, vs', e, h0, h1, h2⟩ := h
    exact ⟨k', v, vs', e, h0, RelD.mono o x h1, RelT.mono o x h2⟩
/-- a cell's relation where its address is as it was -/
theorem RelC.mono (o : W.Ok K N) (x : Ext W W') {a : Addr} {c : Cell} (h : RelC K N W a c) (e : ∀ ob, noT ob → W.H a = some ob → W'.H a = some ob) : RelC K N W' a c := by
  cases c with
  | lst l => obtain ⟨vs, h1, h2, h3⟩ := h; exact ⟨vs, e _ (fun _ z => nomatch z) h1, h2.mono o x, h3⟩
  | frz l => obtain ⟨vs, h1, h2, h3⟩ := h; exact ⟨vs, e _ (fun _ z => nomatch z) h1, h2.mono o x, h3⟩
  | dice => obtain ⟨p, q, r, h⟩ := h; exact ⟨p, q, r, e _ (fun _ z => nomatch z) h⟩
  | dct t l =>
    cases t
    · obtain ⟨vs, h1, h2, h3⟩ := h; exact ⟨vs, e _ (fun _ z => nomatch z) h1, h2.mono o x, h3⟩
    · obtain ⟨vs, h1, h2, h3⟩ := h; exact ⟨vs, e _ (fun _ z => nomatch z) h1, h2.mono o x, h3⟩
  | ins c l => obtain ⟨dx, vs, h1, h2, h3⟩ := h; exact ⟨dx, vs, e _ (fun _ z => nomatch z) h1, h2.mono o x, h3⟩

/-- a cell's address is tracked -/
theorem Wl.Ok.there (o : W.Ok K N) {r : Nat} {c : Cell} (h : W.η.get r = some c) : ∃ ob, W.H (W.μ r) = some ob ∧ noT ob := by
  have q := o.cell r c h
  cases c with
  | frz l => obtain ⟨vs, q, _⟩ := q; exact ⟨_, q, fun _ z => nomatch z⟩
  | lst l => obtain ⟨vs, q, _⟩ := q; exact ⟨_, q, fun _ z => nomatch z⟩
  | dice => obtain ⟨_, _, _, q⟩ := q; exact ⟨_, q, fun _ z => nomatch z⟩
  | dct t l =>
    cases t
    · obtain ⟨vs, q, _⟩ := q; exact ⟨_, q, fun _ z => nomatch z⟩
    · obtain ⟨vs, q, _⟩ := q; exact ⟨_, q, fun _ z => nomatch z⟩
  | ins c fs => obtain ⟨_, _, q, _⟩ := q; exact ⟨_, q, fun _ z => nomatch z⟩
theorem Wl.Ok.noTab (o : W.Ok K N) {r : Nat} {c : Cell} {u : HO} (h : W.η.get r = some c) (hu : W.H (W.μ r) = some u) (z : (∃ ps, u = .tbl ps) ∨ (∃ φ, u = .ext φ)) : False := by
  have q := o.cell r c h
  cases c with
  | frz l => obtain ⟨vs, q, _⟩ := q; rw [hu] at q; cases q; rcases z with ⟨_, z⟩ | ⟨_, z⟩ <;> cases z
  | lst l => obtain ⟨vs, q, _⟩ := q; rw [hu] at q; cases q; rcases z with ⟨_, z⟩ | ⟨_, z⟩ <;> cases z
  | dice => obtain ⟨_, _, _, q⟩ := q; rw [hu] at q; cases q; rcases z with ⟨_, z⟩ | ⟨_, z⟩ <;> cases z
  | dct t l =>
    cases t
    · obtain ⟨vs, q, _⟩ := q; rw [hu] at q; cases q; rcases z with ⟨_, z⟩ | ⟨_, z⟩ <;> cases z
    · obtain ⟨vs, q, _⟩ := q; rw [hu] at q; cases q; rcases z with ⟨_, z⟩ | ⟨_, z⟩ <;> cases z
  | ins c fs => obtain ⟨_, _, q, _⟩ := q; rw [hu] at q; cases q; rcases z with ⟨_, z⟩ | ⟨_, z⟩ <;> cases z
/-- another cell does not stand there -/
theorem Wl.Ok.apart (o : W.Ok K N) {r q : Nat} {c d : Cell} (h : W.η.get r = some c) (h2 : W.η.get q = some d) (ne : q ≠ r) : W.μ q ≠ W.μ r := fun z => ne (o.inj q r d c h2 h z)
theorem tabs_keep {T : List (Addr × Str)} {H H' : Hp} (t : LamX.Tabs T H) (k : ∀ b o, H b = some o → (∃ ps, o = .tbl ps) ∨ (∃ φ, o = .ext φ) → H' b = some o) : LamX.Tabs T H' := fun p hp => by
  obtain ⟨ps, h1, h2, h3⟩ := t p hp
  refine ⟨ps, k _ _ h1 (.inl ⟨ps, rfl⟩), h2, fun pos cv hc => ?_⟩
  obtain ⟨c, e1, e2⟩ := h3 pos cv hc
  exact ⟨c, e1, k _ _ e2 (.inr ⟨_, rfl⟩)⟩
/-! ### the steps of worlds -/
/-- something new that is no cell -/
def Wl.lay (W : Wl) (p : Addr) (o : HO) : Wl := ⟨W.μ, W.η, upd W.H p o⟩
theorem Wl.Ok.lay (o : W.Ok K N) {p : Addr} {ob : HO} (hp : W.H p = none) : Ext W (W.lay p ob) ∧ (W.lay p ob).Ok K N := by
  have up : ∀ a x, W.H a = some x → (W.lay p ob).H a = some x := fun a x e => by
    show upd W.H p ob a = some x
    rw [upd_ne (ne_of_none e hp)]; exact e
  have x : Ext W (W.lay p ob) := ⟨Nat.le_refl _, fun _ _ => rfl, fun a u h _ _ => up a u h, fun a u h t => ⟨u, up a u h, t⟩, fun r c h => .inl ⟨c, h, id⟩⟩
  exact ⟨x, o.lt, fun r c e => (o.cell r c e).mono o x (fun ob _ => up _ ob), o.inj, tabs_keep o.tab fun b u h _ => up b u h⟩
/-- a new cell -/
def Wl.new (W : Wl) (p : Addr) (c : Cell) (o : HO) : Wl := ⟨fun r => if r = W.η.nx then p else W.μ r, W.η.new c, upd W.H p o⟩
theorem Wl.Ok.new (o : W.Ok K N) {p : Addr} {c : Cell} {ob : HO} (hp : W.H p = none) (hc : RelC K N (W.new p c ob) p c) : Ext W (W.new p c ob) ∧ (W.new p c ob).Ok K N := by
  have up : ∀ a x, W.H a = some x → (W.new p c ob).H a = some x := fun a x e => by
    show upd W.H p ob a = some x
    rw [upd_ne (ne_of_none e hp)]; exact e
  have mu : ∀ r, r < W.η.nx → (W.new p c ob).μ r = W.μ r := fun r h => by
    show (if r = W.η.nx then p else W.μ r) = W.μ r
    rw [if_neg (Nat.ne_of_lt h)]
  have gn : ∀ r, (W.new p c ob).η.get r = if r = W.η.nx then some c else W.η.get r := fun r => Hd.get_new _ _ _
  have x : Ext W (W.new p c ob) := by
    refine ⟨Nat.le_succ _, mu, fun a u h _ _ => up a u h, fun a u h t => ⟨u, up a u h, t⟩, fun r d h => ?_⟩
    rw [gn] at h
    by_cases e : r = W.η.nx
    · refine .inr ⟨Nat.le_of_eq e.symm, ?_⟩
      show NoC W.H (if r = W.η.nx then p else W.μ r)
      rw [if_pos e]; exact NoC.of hp
    · rw [if_neg e] at h
      exact .inl ⟨d, h, id⟩
  have pn : ∀ r d, W.η.get r = some d → W.μ r ≠ p := fun r d e => by
    obtain ⟨ob, q, _⟩ := o.there e
    exact ne_of_none q hp
  have mn : (W.new p c ob).μ W.η.nx = p := by
    show (if W.η.nx = W.η.nx then p else W.μ W.η.nx) = p
    rw [if_pos rfl]
  refine ⟨x, fun r d e => ?_, fun r d e => ?_, fun r s c1 d h1 h2 e => ?_, tabs_keep o.tab fun b u h _ => up b u h⟩
  · rw [gn] at e
    show r < Nat.succ W.η.nx
    by_cases h : r = W.η.nx
    · omega
    · rw [if_neg h] at e
      have := o.lt r d e; omega
  · rw [gn] at e
    by_cases h : r = W.η.nx
    · rw [if_pos h] at e; cases e
      rw [h, mn]; exact hc
    · rw [if_neg h] at e
      rw [mu r (o.lt r d e)]
      exact (o.cell r d e).mono o x (fun ob _ => up _ ob)
  · rw [gn] at h1 h2
    by_cases hr : r = W.η.nx
    · by_cases hs : s = W.η.nx
      · exact hr.trans hs.symm
      · rw [if_neg hs] at h2
        rw [hr, mn, mu s (o.lt s d h2)] at e
        exact absurd e.symm (pn s d h2)
    · rw [if_neg hr] at h1
      by_cases hs : s = W.η.nx
      · rw [hs, mn, mu r (o.lt r c1 h1)] at e
        exact absurd e (pn r c1 h1)
      · rw [if_neg hs] at h2
        rw [mu r (o.lt r c1 h1), mu s (o.lt s d h2)] at e
        exact o.inj r s c1 d h1 h2 e
theorem Wl.new_mu (W : Wl) (p : Addr) (c : Cell) (o : HO) : (W.new p c o).μ W.η.nx = p := by
  show (if W.η.nx = W.η.nx then p else W.μ W.η.nx) = p
  rw [if_pos rfl]
theorem Wl.new_ref (W : Wl) (p : Addr) (c : Cell) (o : HO) : RelD (W.new p c o) (.ref W.η.nx) (.ref p) := by
  rw [RelD]; exact ⟨Nat.lt_succ_self _, by rw [Wl.new_mu]⟩
/-- a cell changed -/
def Wl.put (W : Wl) (r : Nat) (c : Cell) (o : HO) : Wl := ⟨W.μ, W.η.set r c, upd W.H (W.μ r) o⟩
theorem Wl.Ok.put (o : W.Ok K N) {r : Nat} {c0 c : Cell} {ob : HO} (h0 : W.η.get r = some c0) (m0 : c0.mut = true) (hc : Ext W (W.put r c ob) → RelC K N (W.put r c ob) (W.μ r) c) (ht : noT ob := by intro _ z; cases z) : Ext W (W.put r c ob) ∧ (W.put r c ob).Ok K N := by
  have ne : ∀ a, a ≠ W.μ r → (W.put r c ob).H a = W.H a := fun a h => upd_ne h
  have gs : ∀ q, (W.put r c ob).η.get q = if q = r then some c else W.η.get q := fun q => by
    have := Hd.get_set W.η r c q
    rw [h0] at this
    exact this
  have x : Ext W (W.put r c ob) := by
    refine ⟨Nat.le_refl _, fun _ _ => rfl, fun a u h _ hn => ?_, fun a u h t => ?_, fun q d h => ?_⟩
    · rw [ne a (Ne.symm (hn r c0 h0 m0))]; exact h
    · by_cases z : a = W.μ r
      · exact ⟨ob, by rw [z]; exact upd_same, ht⟩
      · exact ⟨u, by rw [ne a z]; exact h, t⟩
    · rw [gs] at h
      by_cases z : q = r
      · rw [z]; exact .inl ⟨c0, h0, fun _ => m0⟩
      · rw [if_neg z] at h; exact .inl ⟨d, h, id⟩
  have hc := hc x
  refine ⟨x, fun q d e => ?_, fun q d e => ?_, fun q s c1 d h1 h2 e => ?_, tabs_keep o.tab fun b u h hu => ?_⟩
  · rw [gs] at e
    by_cases z : q = r
    · rw [z]; exact o.lt r c0 h0
    · rw [if_neg z] at e; exact o.lt q d e
  · rw [gs] at e
    by_cases z : q = r
    · rw [if_pos z] at e; cases e; rw [z]; exact hc
    · rw [if_neg z] at e
      exact (o.cell q d e).mono o x (fun ob' _ h' => by rw [ne _ (o.apart h0 e z)]; exact h')
  · rw [gs] at h1 h2
    have e' : W.μ q = W.μ s := e
    by_cases zq : q = r
    · by_cases zs : s = r
      · exact zq.trans zs.symm
      · rw [if_neg zs] at h2
        exact o.inj q s c0 d (by rw [zq]; exact h0) h2 e'
    · rw [if_neg zq] at h1
      by_cases zs : s = r
      · exact o.inj q s c1 c0 h1 (by rw [zs]; exact h0) e'
      · rw [if_neg zs] at h2
        exact o.inj q s c1 d h1 h2 e'
  · rw [ne b (fun z => o.noTab h0 (by rw [← z]; exact h) hu)]; exact h
/-- cells dropped: what is left of a world -/
theorem Ext.drop {η' : Hd} (x : Ext W W') (o' : W'.Ok K N) (nx : η'.nx = W'.η.nx) (sub : ∀ r c, η'.get r = some c → W'.η.get r = some c) : Ext W ⟨W'.μ, η', W'.H⟩ ∧ Wl.Ok K N ⟨W'.μ, η', W'.H⟩ := by
  have y : Ext W' ⟨W'.μ, η', W'.H⟩ := ⟨Nat.le_of_eq nx.symm, fun _ _ => rfl, fun _ _ h _ _ => h, fun a u h t => ⟨u, h, t⟩, fun r c h => .inl ⟨c, sub r c h, id⟩⟩
  refine ⟨⟨by rw [show (Wl.mk W'.μ η' W'.H).η.nx = W'.η.nx from nx]; exact x.nx, x.mu, x.fr, x.th, fun r c h => x.cs r c (sub r c h)⟩, fun r c h => ?_, fun r c h => ?_, fun r s c d h1 h2 e => ?_, o'.tab⟩
  · have := o'.lt r c (sub r c h); show r < η'.nx; omega
  · exact (o'.cell r c (sub r c h)).mono o' y (fun _ _ h => h)
  · exact o'.inj r s c d (sub r c h1) (sub s d h2) e
end

end DL

/-! judgements: a piece of syntax and what it computes over values as trees -/
namespace DL
open PySem PySem.Spec L2

/-- an exception: its class, its one field -/
structure Xc where
  c : Nat
  p : Option D
abbrev SD := List (Option D)
abbrev KV := D → Hd → Bool
abbrev KX := Xc → Hd → Bool
abbrev CE := SD → Hd → KV → KX → Bool
abbrev CT := SD → Hd → (Bool → Hd → Bool) → KX → Bool
abbrev CA := SD → Hd → (List D → Hd → Bool) → KX → Bool
structure KS where
  nx : SD → Hd → Bool
  rt : KV
  bk : SD → Hd → Bool
  ct : SD → Hd → Bool
  xc : KX
abbrev CS := SD → Hd → KS → Bool

structure Nm extends Names where
  xf : Nat → Str

def RelX (N : Nm) (W : Wl) (x : Xc) (cls : Value) (dd : Option Addr) : Prop :=
  cls = .ref (N.cls x.c) ∧ match x.p with
  | none => dd = none
  | some d => ∃ a v, dd = some a ∧ W.H a = some (.xd [(N.xf x.c, v)]) ∧ RelD W d v
structure RelS (W : Wl) (σd : SD) (σ : St) : Prop where
  len : σd.length = σ.length
  get : ∀ (i : Nat) (d : D), σd[i]? = some (some d) → ∃ v, σ[i]? = some (some v) ∧ RelD W d v
theorem RelS.mono {K : PySem.W.Frag} {N : Names} {W W' : Wl} {σd : SD} {σ : St} (o : W.Ok K N) (x : Ext W W') (h : RelS W σd σ) : RelS W' σd σ :=
  ⟨h.len, fun i d e => by obtain ⟨v, e', r⟩ := h.get i d e; exact ⟨v, e', r.mono o x⟩⟩
theorem RelS.set {W : Wl} {σd : SD} {σ : St} {d : D} {v : V} (h : RelS W σd σ) (i : Nat) (r : RelD W d v) : RelS W (σd.set i (some d)) (σ.set i (some v)) := by
  refine ⟨by simpa using h.len, fun j e q => ?_⟩
  by_cases z : i = j
  · subst z
    by_cases hi : i < σd.length
    · rw [List.getElem?_set_self hi] at q; cases q
      exact ⟨v, List.getElem?_set_self (by rw [← h.len]; exact hi), r⟩
    · rw [List.getElem?_eq_none (by simpa using Nat.le_of_not_lt hi)] at q; cases q
  · rw [List.getElem?_set_ne z] at q
    obtain ⟨v', e', r'⟩ := h.get j e q
    exact ⟨v', by rw [List.getElem?_set_ne z]; exact e', r'⟩
/-- the frame of values forgotten at a slot -/
theorem RelS.none_at {W : Wl} {σd : SD} {σ : St} (h : RelS W σd σ) (i : Nat) (x : Option V) : RelS W (σd.set i none) (σ.set i x) := by
  refine ⟨by simpa using h.len, fun j e q => ?_⟩
  by_cases z : i = j
  · subst z
    by_cases hi : i < σd.length
    · rw [List.getElem?_set_self hi] at q; cases q
    · rw [List.getElem?_eq_none (by simpa using Nat.le_of_not_lt hi)] at q; cases q
  · rw [List.getElem?_set_ne z] at q
    obtain ⟨v', e', r'⟩ := h.get j e q
    exact ⟨v', by rw [List.getElem?_set_ne z]; exact e', r'⟩

section
variable (K : PySem.W.Frag) (N : Nm) (E : XK)
/-- what is wanted behind: of a value, of an exception -/
def Vk (W : Wl) (kv : KV) (Q : VK) : Prop := ∀ W' d v, Ext W W' → W'.Ok K N.toNames → RelD W' d v → kv d W'.η = true → Q v W'.H
def Xk (W : Wl) (kx : KX) : Prop := ∀ W' x cls dd, Ext W W' → W'.Ok K N.toNames → RelX N W' x cls dd → kx x W'.η = true → E cls dd W'.H
def tE (c : CE) : TE := fun σ H Q => ∃ W σd kv kx, W.H = H ∧ W.Ok K N.toNames ∧ RelS W σd σ ∧ c σd W.η kv kx = true ∧ Vk K N W kv Q ∧ Xk K N E W kx
def tT (c : CT) : TT := fun σ H Q => ∃ W σd kv kx, W.H = H ∧ W.Ok K N.toNames ∧ RelS W σd σ ∧ c σd W.η kv kx = true ∧ (∀ W' b, Ext W W' → W'.Ok K N.toNames → kv b W'.η = true → Q b W'.H) ∧ Xk K N E W kx
def tAr (c : CA) : TA := fun σ H Q => ∃ W σd kv kx, W.H = H ∧ W.Ok K N.toNames ∧ RelS W σd σ ∧ c σd W.η kv kx = true ∧ (∀ W' ds vs, Ext W W' → W'.Ok K N.toNames → RelDs W' ds vs → kv ds W'.η = true → Q vs W'.H) ∧ Xk K N E W kx
/-- what is wanted behind a statement -/
structure Sk (W : Wl) (k : KS) (Z : Ends) : Prop where
  nx : ∀ W' σd σ, Ext W W' → W'.Ok K N.toNames → RelS W' σd σ → k.nx σd W'.η = true → Z.nx σ W'.H
  rt : Vk K N W k.rt Z.rt
  bk : ∀ W' σd σ, Ext W W' → W'.Ok K N.toNames → RelS W' σd σ → k.bk σd W'.η = true → Z.bk σ W'.H
  ct : ∀ W' σd σ, Ext W W' → W'.Ok K N.toNames → RelS W' σd σ → k.ct σd W'.η = true → Z.ct σ W'.H
  xc : Xk K N E W k.xc
def tS (c : CS) : TS := fun Z σ H => ∃ W σd k, W.H = H ∧ W.Ok K N.toNames ∧ RelS W σd σ ∧ c σd W.η k = true ∧ Sk K N E W k Z
end
def JE (X : Cx) (N : Nm) (E : XK) (e : Expr) (c : CE) : Prop := PE X e (tE X.K N E c)
def JT (X : Cx) (N : Nm) (E : XK) (e : Expr) (c : CT) : Prop := PT X e (tT X.K N E c)
def JA (X : Cx) (N : Nm) (E : XK) (es : List Expr) (c : CA) : Prop := PA X es (tAr X.K N E c)
def JS (X : Cx) (N : Nm) (E : XK) (st : Stmt) (c : CS) : Prop := PS X st (tS X.K N E c)
def JB (X : Cx) (N : Nm) (E : XK) (st : List Stmt) (c : CS) : Prop := PSs X st (tS X.K N E c)

theorem PE.imp {X : Cx} {e : Expr} {t t' : TE} (h : PE X e t) (f : ∀ σ H Q, t' σ H Q → t σ H Q) : PE X e t' := ⟨fun pins s σ H Q I q => h.run pins s σ H Q I (f σ H Q q)⟩
theorem PT.imp {X : Cx} {e : Expr} {t t' : TT} (h : PT X e t) (f : ∀ σ H Q, t' σ H Q → t σ H Q) : PT X e t' := ⟨fun pins s σ H Q I q => h.run pins s σ H Q I (f σ H Q q)⟩
theorem PW.imp {X : Cx} {e : Expr} {t t' : TT} (h : PW X e t) (f : ∀ σ H Q, t' σ H Q → t σ H Q) : PW X e t' := ⟨fun wh pins s σ H Q I q => h.run wh pins s σ H Q I (f σ H Q q)⟩
theorem PA.imp {X : Cx} {e : List Expr} {t t' : TA} (h : PA X e t) (f : ∀ σ H Q, t' σ H Q → t σ H Q) : PA X e t' := ⟨fun pos pins s σ H Q I q => h.run pos pins s σ H Q I (f σ H Q q)⟩
theorem PS.imp {X : Cx} {e : Stmt} {t t' : TS} (h : PS X e t) (f : ∀ D σ H, t' D σ H → t D σ H) : PS X e t' := ⟨fun pins s σ H D I q => h.run pins s σ H D I (f D σ H q)⟩
theorem PSs.imp {X : Cx} {e : List Stmt} {t t' : TS} (h : PSs X e t) (f : ∀ D σ H, t' D σ H → t D σ H) : PSs X e t' := ⟨fun pins s σ H D I q => h.run pins s σ H D I (f D σ H q)⟩

section
variable {K : PySem.W.Frag} {N : Nm} {E : XK} {W W' : Wl} {kv : KV} {kx : KX} {Q : VK}
theorem Vk.mono (o : W.Ok K N.toNames) (o' : W'.Ok K N.toNames) (x : Ext W W') (h : Vk K N W kv Q) : Vk K N W' kv Q := fun W2 d v y => h W2 d v (x.trans o o' y)
theorem Xk.mono (o : W.Ok K N.toNames) (o' : W'.Ok K N.toNames) (x : Ext W W') (h : Xk K N E W kx) : Xk K N E W' kx := fun W2 d v dd y => h W2 d v dd (x.trans o o' y)
theorem Vk.here (o : W.Ok K N.toNames) (h : Vk K N W kv Q) {d : D} {v : V} (r : RelD W d v) (e : kv d W.η = true) : Q v W.H := h W d v (Ext.refl W) o r e
theorem Sk.mono {k : KS} {Z : Ends} (o : W.Ok K N.toNames) (o' : W'.Ok K N.toNames) (x : Ext W W') (h : Sk K N E W k Z) : Sk K N E W' k Z :=
  ⟨fun W2 a b y => h.nx W2 a b (x.trans o o' y), h.rt.mono o o' x, fun W2 a b y => h.bk W2 a b (x.trans o o' y), fun W2 a b y => h.ct W2 a b (x.trans o o' y), h.xc.mono o o' x⟩
/-- a part is read, then the rest -/
theorem tE.bind {c : CE} {σ : St} {σd : SD} {Q' : VK} (o : W.Ok K N.toNames) (s : RelS W σd σ) (hx : Xk K N E W kx) (h : c σd W.η kv kx = true)
    (hq : ∀ W' d v, Ext W W' → W'.Ok K N.toNames → RelD W' d v → RelS W' σd σ → Xk K N E W' kx → kv d W'.η = true → Q' v W'.H) : tE K N E c σ W.H Q' :=
  ⟨W, σd, kv, kx, rfl, o, s, h, fun W' d v x o' r e => hq W' d v x o' r (s.mono o x) (hx.mono o o' x) e, hx⟩
theorem tT.bind {c : CT} {kt : Bool → Hd → Bool} {σ : St} {σd : SD} {Q' : Bool → Hp → Prop} (o : W.Ok K N.toNames) (s : RelS W σd σ) (hx : Xk K N E W kx) (h : c σd W.η kt kx = true)
    (hq : ∀ W' b, Ext W W' → W'.Ok K N.toNames → RelS W' σd σ → Xk K N E W' kx → kt b W'.η = true → Q' b W'.H) : tT K N E c σ W.H Q' :=
  ⟨W, σd, kt, kx, rfl, o, s, h, fun W' b x o' e => hq W' b x o' (s.mono o x) (hx.mono o o' x) e, hx⟩
theorem tAr.bind {c : CA} {kt : List D → Hd → Bool} {σ : St} {σd : SD} {Q' : List V → Hp → Prop} (o : W.Ok K N.toNames) (s : RelS W σd σ) (hx : Xk K N E W kx) (h : c σd W.η kt kx = true)
    (hq : ∀ W' ds vs, Ext W W' → W'.Ok K N.toNames → RelDs W' ds vs → RelS W' σd σ → Xk K N E W' kx → kt ds W'.η = true → Q' vs W'.H) : tAr K N E c σ W.H Q' :=
  ⟨W, σd, kt, kx, rfl, o, s, h, fun W' ds vs x o' r e => hq W' ds vs x o' r (s.mono o x) (hx.mono o o' x) e, hx⟩
end

/-! ### names, constants -/
def cVar (i : Nat) : CE := fun σ η kv _ => match σ[i]? with
  | some (some d) => kv d η
  | _ => false
def cC (d : D) : CE := fun _ η kv _ => kv d η
section
variable {X : Cx} {N : Nm} {E : XK}
theorem je_var {e : Expr} (i : Nat) (h : PE X e (tVar i)) : JE X N E e (cVar i) := PE.imp h fun σ H Q q => by
  obtain ⟨W, σd, kv, kx, rfl, o, s, h, hv, hx⟩ := q
  unfold cVar at h
  cases e : σd[i]? with
  | none => rw [e] at h; cases h
  | some x =>
    cases x with
    | none => rw [e] at h; cases h
    | some d =>
      rw [e] at h
      obtain ⟨v, e', r⟩ := s.get i d e
      exact ⟨v, e', hv.here o r h⟩
theorem je_c {e : Expr} {v : V} {d : D} (h : PE X e (tC v)) (r : ∀ W, RelD W d v) : JE X N E e (cC d) := PE.imp h fun σ H Q q => by
  obtain ⟨W, σd, kv, kx, rfl, o, s, h, hv, hx⟩ := q
  exact hv.here o (r W) h
theorem je_int {i : Int} {j pos} : JE X N E (.Constant (.int i) j pos) (cC (.int i)) := je_c pe_int fun W => by rw [RelD]
theorem je_bl {b : Bool} {j pos} : JE X N E (.Constant (.bool b) j pos) (cC (.bl b)) := je_c pe_bl fun W => by rw [RelD]
theorem je_non {j pos} : JE X N E (.Constant .none j pos) (cC .non) := je_c pe_non fun W => by rw [RelD]
theorem je_str {x : Str} {j pos} : JE X N E (.Constant (.str x) j pos) (cC (.str x)) := je_c pe_str fun W => by rw [RelD]

/-! ### operators by values -/
/-- what an operator makes of two values; none: nothing is said -/
abbrev F2 := D → D → Hd → Option (D × Hd)
def r2 (K : PySem.W.Frag) (N : Nm) (f : F2) : R2 := fun x y H Q => ∃ W dx dy d η', W.H = H ∧ W.Ok K N.toNames ∧ RelD W dx x ∧ RelD W dy y ∧ f dx dy W.η = some (d, η') ∧
  (∀ W' v, Ext W W' → W'.Ok K N.toNames → W'.η = η' → RelD W' d v → Q v W'.H)
def cOp (f : F2) (a b : CE) : CE := fun σ η kv kx => a σ η (fun x η1 => b σ η1 (fun y η2 => match f x y η2 with
  | some (d, η3) => kv d η3
  | none => false) kx) kx
theorem tOp_of {f : F2} {ca cb : CE} {K : PySem.W.Frag} {σ : St} {H : Hp} {Q : VK} (h : tE K N E (cOp f ca cb) σ H Q) : tOp (r2 K N f) (tE K N E ca) (tE K N E cb) σ H Q := by
  obtain ⟨W, σd, kv, kx, rfl, o, s, h, hv, hx⟩ := h
  refine tE.bind o s hx h fun W1 dx x x1 o1 r1 s1 hx1 h1 => ?_
  refine tE.bind o1 s1 hx1 h1 fun W2 dy y x2 o2 r2' s2 hx2 h2 => ?_
  cases e : f dx dy W2.η with
  | none => rw [e] at h2; cases h2
  | some p =>
    obtain ⟨d, η'⟩ := p
    rw [e] at h2
    exact ⟨W2, dx, dy, d, η', rfl, o2, r1.mono o1 x2, r2', e, fun W' v x3 o3 e3 r3 => hv W' d v (x1.trans o o1 (x2.trans o1 o2 x3)) o3 r3 (by rw [e3]; exact h2)⟩
theorem je_op {op : Operator} {f : F2} {a b : Expr} {ca cb : CE} {pos : Pos} (ho : OpR X (binaryOp op) (r2 X.K N f)) (ha : JE X N E a ca) (hb : JE X N E b cb) : JE X N E (.BinOp a op b pos) (cOp f ca cb) :=
  PE.imp (pe_op ho ha hb) fun σ H Q q => tOp_of q
theorem je_cmp {op : CmpOp} {f : F2} {a b : Expr} {ca cb : CE} {pos : Pos} (ho : OpR X (compareOp op) (r2 X.K N f)) (ha : JE X N E a ca) (hb : JE X N E b cb) (hm : behindInMarks op b = false) : JE X N E (.Compare a [op] [b] pos) (cOp f ca cb) :=
  PE.imp (pe_cmpR ho ha hb hm) fun σ H Q q => tOp_of q
end
end DL

/-! operators -/
namespace DL
open PySem PySem.Spec L2
section
variable {X : Cx} {N : Nm} {E : XK}
theorem OpR.imp {f : Value → Value → Sem Value} {r r' : R2} (h : OpR X f r) (i : ∀ x y H Q, r' x y H Q → r x y H Q) : OpR X f r' :=
  fun pins s σ H x y v u Q I rx ry q => h pins s σ H x y v u Q I rx ry (i x y H Q q)
/-- the world is as it was -/
theorem same_w {K : PySem.W.Frag} {W : Wl} {Q : VK} {d : D} {v : V} (o : W.Ok K N.toNames) (q : ∀ W' v, Ext W W' → W'.Ok K N.toNames → W'.η = W.η → RelD W' d v → Q v W'.H) (r : RelD W d v) : Q v W.H := q W v (Ext.refl W) o rfl r

def line : Nat := 16777216
theorem line_eq : line = sizeLine := rfl

/-! ints -/
def fI2 (g : Int → Int → Int) : F2 := fun x y η => match x, y with
  | .int i, .int j => some (.int (g i j), η)
  | _, _ => none
def fI2c (c : Int → Int → Bool) (g : Int → Int → Int) : F2 := fun x y η => match x, y with
  | .int i, .int j => match c i j with
    | true => some (.int (g i j), η)
    | false => none
  | _, _ => none
def fB2 (g : Int → Int → Bool) : F2 := fun x y η => match x, y with
  | .int i, .int j => some (.bl (g i j), η)
  | _, _ => none
theorem relInt {W : Wl} {i : Int} {v : V} (h : RelD W (.int i) v) : v = .int i := by rw [RelD] at h; exact h
theorem relStr {W : Wl} {i : Str} {v : V} (h : RelD W (.str i) v) : v = .str i := by rw [RelD] at h; exact h
theorem relBl {W : Wl} {i : Bool} {v : V} (h : RelD W (.bl i) v) : v = .bl i := by rw [RelD] at h; exact h
theorem relNon {W : Wl} {v : V} (h : RelD W .non v) : v = .non := by rw [RelD] at h; exact h
theorem relRef {W : Wl} {r : Nat} {v : V} (h : RelD W (.ref r) v) : v = .ref (W.μ r) := by rw [RelD] at h; exact h.2
theorem mkInt {W : Wl} {i : Int} : RelD W (.int i) (.int i) := by rw [RelD]
theorem mkBl {W : Wl} {i : Bool} : RelD W (.bl i) (.bl i) := by rw [RelD]
theorem mkStr' {W : Wl} {i : Str} : RelD W (.str i) (.str i) := by rw [RelD]
theorem mkNon {W : Wl} : RelD W .non .non := by rw [RelD]
theorem fI2_inv {g : Int → Int → Int} {x y d : D} {η η' : Hd} (h : fI2 g x y η = some (d, η')) : ∃ i j, x = .int i ∧ y = .int j ∧ d = .int (g i j) ∧ η' = η := by
  cases x with
  | int i =>
    cases y with
    | int j => simp only [fI2, Option.some.injEq, Prod.mk.injEq] at h; exact ⟨i, j, rfl, rfl, h.1.symm, h.2.symm⟩
    | _ => cases h
  | _ => cases h
theorem fB2_inv {g : Int → Int → Bool} {x y d : D} {η η' : Hd} (h : fB2 g x y η = some (d, η')) : ∃ i j, x = .int i ∧ y = .int j ∧ d = .bl (g i j) ∧ η' = η := by
  cases x with
  | int i =>
    cases y with
    | int j => simp only [fB2, Option.some.injEq, Prod.mk.injEq] at h; exact ⟨i, j, rfl, rfl, h.1.symm, h.2.symm⟩
    | _ => cases h
  | _ => cases h
theorem fI2c_inv {c : Int → Int → Bool} {g : Int → Int → Int} {x y d : D} {η η' : Hd} (h : fI2c c g x y η = some (d, η')) : ∃ i j, x = .int i ∧ y = .int j ∧ c i j = true ∧ d = .int (g i j) ∧ η' = η := by
  cases x with
  | int i =>
    cases y with
    | int j =>
      simp only [fI2c] at h
      cases e : c i j with
      | false => rw [e] at h; cases h
      | true => rw [e] at h; simp only [Option.some.injEq, Prod.mk.injEq] at h; exact ⟨i, j, rfl, rfl, e, h.1.symm, h.2.symm⟩
    | _ => cases h
  | _ => cases h
theorem opd_int {f : Value → Value → Sem Value} {g g' : Int → Int → Int} (h : OpR X f (rI0 fun i j => .int (g' i j))) (e : ∀ i j, g' i j = g i j) : OpR X f (r2 X.K N (fI2 g)) := OpR.imp h fun x y H Q q => by
  obtain ⟨W, dx, dy, d, η', rfl, o, rx, ry, hf, hq⟩ := q
  obtain ⟨i, j, rfl, rfl, rfl, rfl⟩ := fI2_inv hf
  rw [relInt rx, relInt ry]
  exact ⟨i, j, rfl, rfl, by show Q (.int (g' i j)) W.H; rw [e]; exact same_w o hq mkInt⟩
theorem opd_intc {f : Value → Value → Sem Value} {C : Int → Int → Prop} {c : Int → Int → Bool} {g g' : Int → Int → Int} (h : OpR X f (rI C fun i j => .int (g' i j))) (hc : ∀ i j, c i j = true → C i j) (e : ∀ i j, g' i j = g i j) : OpR X f (r2 X.K N (fI2c c g)) := OpR.imp h fun x y H Q q => by
  obtain ⟨W, dx, dy, d, η', rfl, o, rx, ry, hf, hq⟩ := q
  obtain ⟨i, j, rfl, rfl, hij, rfl, rfl⟩ := fI2c_inv hf
  rw [relInt rx, relInt ry]
  exact ⟨i, j, rfl, rfl, hc i j hij, by show Q (.int (g' i j)) W.H; rw [e]; exact same_w o hq mkInt⟩
theorem opd_cmp {f : Value → Value → Sem Value} {g g' : Int → Int → Bool} (h : OpR X f (rI0 fun i j => .bl (g' i j))) (e : ∀ i j, g' i j = g i j) : OpR X f (r2 X.K N (fB2 g)) := OpR.imp h fun x y H Q q => by
  obtain ⟨W, dx, dy, d, η', rfl, o, rx, ry, hf, hq⟩ := q
  obtain ⟨i, j, rfl, rfl, rfl, rfl⟩ := fB2_inv hf
  rw [relInt rx, relInt ry]
  exact ⟨i, j, rfl, rfl, by show Q (.bl (g' i j)) W.H; rw [e]; exact same_w o hq mkBl⟩

/-- either of two -/
def fOr (f g : F2) : F2 := fun x y η => match f x y η with
  | some p => some p
  | none => g x y η
theorem opd_or {fv : Value → Value → Sem Value} {f g : F2} (hf : OpR X fv (r2 X.K N f)) (hg : OpR X fv (r2 X.K N g)) : OpR X fv (r2 X.K N (fOr f g)) := OpR.imp (OpR.or hf hg) fun x y H Q q => by
  obtain ⟨W, dx, dy, d, η', rfl, o, rx, ry, h, hq⟩ := q
  unfold fOr at h
  cases e : f dx dy W.η with
  | some p => rw [e] at h; exact .inl ⟨W, dx, dy, d, η', rfl, o, rx, ry, by rw [e]; exact h, hq⟩
  | none => rw [e] at h; exact .inr ⟨W, dx, dy, d, η', rfl, o, rx, ry, h, hq⟩

/-! tuples, lists, texts -/
def fCatT : F2 := fun x y η => match x, y with
  | .tup a, .tup b => match Nat.ble (a.length + b.length) line with
    | true => some (.tup (a ++ b), η)
    | false => none
  | _, _ => none
def fCatL : F2 := fun x y η => match x, y with
  | .ref r, .ref s => match η.get r, η.get s with
    | some (.lst a), some (.lst b) => match Nat.ble (a.length + b.length) line with
      | true => some (.ref η.nx, η.new (.lst (a ++ b)))
      | false => none
    | _, _ => none
  | _, _ => none
def fCatS : F2 := fun x y η => match x, y with
  | .str a, .str b => match Nat.ble (a.length + b.length) line with
    | true => some (.str (a ++ b), η)
    | false => none
  | _, _ => none
def fRepL : F2 := fun x y η => match x, y with
  | .ref r, .int k => match η.get r with
    | some (.lst a) => match Nat.ble k.natAbs 100000, Nat.ble (a.length * k.toNat) line with
      | true, true => some (.ref η.nx, η.new (.lst (List.replicate k.toNat a).flatten))
      | _, _ => none
    | _ => none
  | _, _ => none
theorem relTup {W : Wl} {ds : List D} {v : V} (h : RelD W (.tup ds) v) : ∃ a vs, v = .ref a ∧ W.H a = some (.tup vs) ∧ RelDs W ds vs := by rw [RelD] at h; exact h
theorem mkTup {W : Wl} {ds : List D} {a : Addr} {vs : List V} (h : W.H a = some (.tup vs)) (r : RelDs W ds vs) : RelD W (.tup ds) (.ref a) := by rw [RelD]; exact ⟨a, vs, rfl, h, r⟩
/-- a new tuple -/
theorem new_tup {K : PySem.W.Frag} {W : Wl} {Q : VK} {ds : List D} {vs : List V} {p : Addr} (o : W.Ok K N.toNames) (q : ∀ W' v, Ext W W' → W'.Ok K N.toNames → W'.η = W.η → RelD W' (.tup ds) v → Q v W'.H) (hp : W.H p = none) (r : RelDs W ds vs) : Q (.ref p) (upd W.H p (.tup vs)) := by
  obtain ⟨x, o'⟩ := o.lay (ob := .tup vs) hp
  exact q (W.lay p (.tup vs)) (.ref p) x o' rfl (mkTup upd_same (r.mono o x))
/-- a new list -/
theorem new_lst {K : PySem.W.Frag} {W : Wl} {Q : VK} {ds : List D} {vs : List V} {p : Addr} (o : W.Ok K N.toNames) (q : ∀ W' v, Ext W W' → W'.Ok K N.toNames → W'.η = W.η.new (.lst ds) → RelD W' (.ref W.η.nx) v → Q v W'.H) (hp : W.H p = none) (r : RelDs W ds vs) (hl : ds.length ≤ sizeLine) : Q (.ref p) (upd W.H p (.lst vs)) := by
  have y : Ext W (W.lay p (.lst vs)) := (o.lay hp).1
  have pre : RelC K N.toNames (W.new p (.lst ds) (.lst vs)) p (.lst ds) := by
    refine ⟨vs, upd_same, ?_, hl⟩
    -- the world before the cell's own relation
    have x : Ext W (W.new p (.lst ds) (.lst vs)) := by
      refine ⟨Nat.le_succ _, fun r h => ?_, fun a u h _ _ => ?_, fun a u h t => ⟨u, ?_, t⟩, fun r d h => ?_⟩
      · show (if r = W.η.nx then p else W.μ r) = W.μ r
        rw [if_neg (Nat.ne_of_lt h)]
      · show upd W.H p _ a = some u
        rw [upd_ne (ne_of_none h hp)]; exact h
      · show upd W.H p _ a = some u
        rw [upd_ne (ne_of_none h hp)]; exact h
      · have h' : (W.η.new (.lst ds)).get r = some d := h
        rw [Hd.get_new] at h'
        by_cases e : r = W.η.nx
        · refine .inr ⟨Nat.le_of_eq e.symm, ?_⟩
          show NoC W.H (if r = W.η.nx then p else W.μ r)
          rw [if_pos e]; exact NoC.of hp
        · rw [if_neg e] at h'
          exact .inl ⟨d, h', id⟩
    exact r.mono o x
  obtain ⟨x, o'⟩ := o.new hp pre
  exact q (W.new p (.lst ds) (.lst vs)) (.ref p) x o' rfl (Wl.new_ref W p _ _)
theorem opd_catT : OpR X (binaryOp .Add) (r2 X.K N fCatT) := OpR.imp op_catA fun x y H Q q => by
  obtain ⟨W, dx, dy, d, η', rfl, o, rx, ry, hf, hq⟩ := q
  cases dx with
  | tup a =>
    cases dy with
    | tup b =>
      simp only [fCatT] at hf
      cases e : Nat.ble (a.length + b.length) line with
      | false => rw [e] at hf; cases hf
      | true =>
        rw [e] at hf
        simp only [Option.some.injEq, Prod.mk.injEq] at hf
        obtain ⟨rfl, rfl⟩ := hf
        obtain ⟨pa, va, rfl, sa, ra⟩ := relTup rx
        obtain ⟨pb, vb, rfl, sb, rb⟩ := relTup ry
        have hl : va.length + vb.length ≤ sizeLine := by
          rw [← ra.length, ← rb.length]; exact Nat.le_of_ble_eq_true e
        refine ⟨pa, pb, va, vb, rfl, rfl, SqT.of sa, SqT.of sb, hl, fun z => ?_, fun _ z => ?_, fun _ _ p hp => new_tup o hq hp (ra.append rb)⟩
        · subst z
          have ea : a = [] := List.eq_nil_of_length_eq_zero (by rw [ra.length]; rfl)
          subst ea
          exact same_w o hq (mkTup sb rb)
        · subst z
          have eb : b = [] := List.eq_nil_of_length_eq_zero (by rw [rb.length]; rfl)
          subst eb
          rw [List.append_nil] at hq
          exact same_w o hq (mkTup sa ra)
    | _ => cases hf
  | _ => cases hf
/-- what is read as a list -/
def Hd.list (η : Hd) (r : Nat) : Option (List D) := match η.get r with
  | some (.lst l) => some l
  | some (.frz l) => some l
  | _ => none
theorem list_of {K : PySem.W.Frag} {W : Wl} {r : Nat} {l : List D} (o : W.Ok K N.toNames) (h : W.η.list r = some l) : ∃ vs, SqL K W.H (W.μ r) vs ∧ RelDs W l vs ∧ l.length ≤ sizeLine := by
  unfold Hd.list at h
  cases e : W.η.get r with
  | none => rw [e] at h; cases h
  | some c =>
    have q := o.cell r c e
    rw [e] at h
    cases c with
    | lst l' => cases h; obtain ⟨vs, h1, h2, h3⟩ := q; exact ⟨vs, .inl (.inl h1), h2, h3⟩
    | frz l' => cases h; obtain ⟨vs, h1, h2, h3⟩ := q; exact ⟨vs, .inl (.inl h1), h2, h3⟩
    | _ => cases h
theorem opd_catL : OpR X (binaryOp .Add) (r2 X.K N fCatL) := OpR.imp op_cat fun x y H Q q => by
  obtain ⟨W, dx, dy, d, η', rfl, o, rx, ry, hf, hq⟩ := q
  cases dx with
  | ref r =>
    cases dy with
    | ref s =>
      simp only [fCatL] at hf
      cases e1 : W.η.get r with
      | none => rw [e1] at hf; cases hf
      | some c1 =>
        cases e2 : W.η.get s with
        | none => rw [e1, e2] at hf; cases c1 <;> cases hf
        | some c2 =>
          rw [e1, e2] at hf
          cases c1 with
          | lst a =>
            cases c2 with
            | lst b =>
              simp only at hf
              cases e : Nat.ble (a.length + b.length) line with
              | false => rw [e] at hf; cases hf
              | true =>
                rw [e] at hf
                simp only [Option.some.injEq, Prod.mk.injEq] at hf
                obtain ⟨rfl, rfl⟩ := hf
                obtain ⟨va, ha, ra, _⟩ := o.cell r _ e1
                obtain ⟨vb, hb, rb, _⟩ := o.cell s _ e2
                have hl : a.length + b.length ≤ sizeLine := Nat.le_of_ble_eq_true e
                rw [relRef rx, relRef ry]
                exact ⟨_, _, va, vb, rfl, rfl, ha, hb, by rw [← ra.length, ← rb.length]; exact hl, fun p hp => new_lst o hq hp (ra.append rb) (by rw [List.length_append]; exact hl)⟩
            | _ => cases hf
          | _ => cases hf
    | _ => cases hf
  | _ => cases hf
theorem opd_catS : OpR X (binaryOp .Add) (r2 X.K N fCatS) := OpR.imp op_add_str fun x y H Q q => by
  obtain ⟨W, dx, dy, d, η', rfl, o, rx, ry, hf, hq⟩ := q
  cases dx with
  | str a =>
    cases dy with
    | str b =>
      simp only [fCatS] at hf
      cases e : Nat.ble (a.length + b.length) line with
      | false => rw [e] at hf; cases hf
      | true =>
        rw [e] at hf
        simp only [Option.some.injEq, Prod.mk.injEq] at hf
        obtain ⟨rfl, rfl⟩ := hf
        rw [relStr rx, relStr ry]
        exact ⟨a, b, rfl, rfl, Nat.le_of_ble_eq_true e, same_w o hq mkStr'⟩
    | _ => cases hf
  | _ => cases hf
theorem RelDs.rep {W : Wl} {ds : List D} {vs : List V} (h : RelDs W ds vs) : ∀ n : Nat, RelDs W (List.replicate n ds).flatten (List.replicate n vs).flatten
  | 0 => .nil
  | n + 1 => by
    rw [List.replicate_succ, List.replicate_succ, List.flatten_cons, List.flatten_cons]
    exact h.append (RelDs.rep h n)
theorem len_rep (a : List D) : ∀ n : Nat, (List.replicate n a).flatten.length = n * a.length
  | 0 => by simp
  | n + 1 => by rw [List.replicate_succ, List.flatten_cons, List.length_append, len_rep a n, Nat.succ_mul, Nat.add_comm]
theorem opd_repL : OpR X (binaryOp .Mult) (r2 X.K N fRepL) := OpR.imp op_rep fun x y H Q q => by
  obtain ⟨W, dx, dy, d, η', rfl, o, rx, ry, hf, hq⟩ := q
  cases dx with
  | ref r =>
    cases dy with
    | int k =>
      simp only [fRepL] at hf
      cases e1 : W.η.get r with
      | none => rw [e1] at hf; cases hf
      | some c1 =>
        rw [e1] at hf
        cases c1 with
        | lst a =>
          simp only at hf
          cases e : Nat.ble k.natAbs 100000 with
          | false => rw [e] at hf; cases hf
          | true =>
            cases e' : Nat.ble (a.length * k.toNat) line with
            | false => rw [e, e'] at hf; cases hf
            | true =>
              rw [e, e'] at hf
              simp only [Option.some.injEq, Prod.mk.injEq] at hf
              obtain ⟨rfl, rfl⟩ := hf
              obtain ⟨va, ha, ra, _⟩ := o.cell r _ e1
              have hk : k.natAbs ≤ 100000 := Nat.le_of_ble_eq_true e
              have hl : a.length * k.toNat ≤ sizeLine := Nat.le_of_ble_eq_true e'
              rw [relRef rx, relInt ry]
              refine ⟨_, k, va, rfl, rfl, ha, by omega, by omega, by rw [← ra.length]; exact hl, fun p hp => new_lst o hq hp (ra.rep _) ?_⟩
              rw [len_rep, Nat.mul_comm]; exact hl
        | _ => cases hf
    | _ => cases hf
  | _ => cases hf

def iadd (i j : Int) : Int := i + j
def fAdd : F2 := fOr (fI2 iadd) (fOr fCatT (fOr fCatL fCatS))
theorem opd_add : OpR X (binaryOp .Add) (r2 X.K N fAdd) := opd_or (opd_int op_add fun _ _ => rfl) (opd_or opd_catT (opd_or opd_catL opd_catS))
def isub (i j : Int) : Int := i - j
def fSub : F2 := fI2 isub
theorem opd_sub : OpR X (binaryOp .Sub) (r2 X.K N fSub) := opd_int op_sub fun _ _ => rfl
def imul (i j : Int) : Int := i * j
def mulOk (i j : Int) : Bool := Nat.ble i.natAbs 1000000000000000000 || Nat.ble j.natAbs 1000000000000000000
theorem mulOk_ok (i j : Int) (h : mulOk i j = true) : CMul i j := by
  unfold mulOk at h
  rcases Bool.or_eq_true_iff.mp h with h | h
  · have := Nat.le_of_ble_eq_true h; exact .inl ⟨by omega, by omega⟩
  · have := Nat.le_of_ble_eq_true h; exact .inr ⟨by omega, by omega⟩
def fMul : F2 := fOr (fI2c mulOk imul) fRepL
theorem opd_mul : OpR X (binaryOp .Mult) (r2 X.K N fMul) := opd_or (opd_intc op_mul mulOk_ok fun _ _ => rfl) opd_repL
def idiv (i j : Int) : Int := i / j
def divOk (i j : Int) : Bool := match j with
  | .ofNat (n + 1) => Nat.ble n 1000000000
  | _ => false
theorem divOk_ok (i j : Int) (h : divOk i j = true) : CDiv i j := by
  unfold divOk at h
  split at h
  · rename_i n
    have := Nat.le_of_ble_eq_true h
    exact ⟨by show (0 : Int) < ((n + 1 : Nat) : Int); omega, by show ((n + 1 : Nat) : Int) < _; omega⟩
  · cases h
def fDiv : F2 := fI2c divOk idiv
theorem opd_div : OpR X (binaryOp .FloorDiv) (r2 X.K N fDiv) := opd_intc op_fdiv divOk_ok fun _ _ => rfl
def imod (i j : Int) : Int := i % j
def modOk (i j : Int) : Bool := match j with
  | .ofNat (_ + 1) => true
  | _ => false
theorem modOk_ok (i j : Int) (h : modOk i j = true) : 0 < j := by
  unfold modOk at h
  split at h
  · rename_i n; show (0 : Int) < ((n + 1 : Nat) : Int); omega
  · cases h
def fMod : F2 := fI2c modOk imod
theorem opd_mod : OpR X (binaryOp .Mod) (r2 X.K N fMod) := opd_intc op_mod modOk_ok fun _ _ => rfl
def ilt (i j : Int) : Bool := decide (i < j)
def ile (i j : Int) : Bool := decide (i ≤ j)
def igt (i j : Int) : Bool := decide (j < i)
def ige (i j : Int) : Bool := decide (j ≤ i)
theorem opd_lt : OpR X (compareOp .Lt) (r2 X.K N (fB2 ilt)) := opd_cmp op_lt fun _ _ => rfl
theorem opd_le : OpR X (compareOp .LtE) (r2 X.K N (fB2 ile)) := opd_cmp op_le fun _ _ => rfl
theorem opd_gt : OpR X (compareOp .Gt) (r2 X.K N (fB2 igt)) := opd_cmp op_gt fun _ _ => rfl
theorem opd_ge : OpR X (compareOp .GtE) (r2 X.K N (fB2 ige)) := opd_cmp op_ge fun _ _ => rfl
end
end DL

/-! ==, in -/
namespace DL
open PySem PySem.Spec L2

mutual
def toPy : D → PyData
  | .non => .none
  | .bl b => .bool b
  | .int i => .int i
  | .str x => .str x
  | .tup l => .tuple (toPys l)
  | .ref _ => .none
def toPys : List D → List PyData
  | [] => []
  | d :: ds => toPy d :: toPys ds
end
/-- data without a cell, not deeper than n -/
def pur : Nat → D → Bool
  | _, .non => true
  | _, .bl _ => true
  | _, .int _ => true
  | _, .str x => PyData.strOk x
  | n + 1, .tup l => l.all (pur n)
  | _, _ => false
def purs (n : Nat) (l : List D) : Bool := l.all (pur n)
def ieq : Int → Int → Bool
  | .ofNat a, .ofNat b => Nat.beq a b
  | .negSucc a, .negSucc b => Nat.beq a b
  | _, _ => false
theorem ieq_eq (i j : Int) : ieq i j = (i == j) := by
  cases i with
  | ofNat a =>
    cases j with
    | ofNat b =>
      show Nat.beq a b = _
      by_cases h : a = b
      · subst h; simp
      · have h' : ¬ ((Int.ofNat a) = (Int.ofNat b)) := fun z => h (Int.ofNat.inj z)
        rw [beq_eq_false_iff_ne.mpr h']
        cases e : Nat.beq a b with
        | false => rfl
        | true => exact absurd (Nat.eq_of_beq_eq_true e) h
    | negSucc b =>
      have h' : ¬ (Int.ofNat a = Int.negSucc b) := by intro z; cases z
      rw [beq_eq_false_iff_ne.mpr h']; rfl
  | negSucc a =>
    cases j with
    | ofNat b =>
      have h' : ¬ (Int.negSucc a = Int.ofNat b) := by intro z; cases z
      rw [beq_eq_false_iff_ne.mpr h']; rfl
    | negSucc b =>
      show Nat.beq a b = _
      by_cases h : a = b
      · subst h; simp
      · have h' : ¬ ((Int.negSucc a) = (Int.negSucc b)) := fun z => h (Int.negSucc.inj z)
        rw [beq_eq_false_iff_ne.mpr h']
        cases e : Nat.beq a b with
        | false => rfl
        | true => exact absurd (Nat.eq_of_beq_eq_true e) h
def eqL (f : D → D → Bool) : List D → List D → Bool
  | [], [] => true
  | x :: xs, y :: ys => match f x y with
    | true => eqL f xs ys
    | false => false
  | _, _ => false
def eqn : Nat → D → D → Bool
  | _, .int i, .int j => ieq i j
  | _, .non, .non => true
  | _, .bl a, .bl b => a == b
  | _, .bl a, .int j => (if a then 1 else 0) == j
  | _, .int i, .bl b => i == (if b then 1 else 0)
  | _, .str x, .str y => x == y
  | n + 1, .tup a, .tup b => eqL (eqn n) a b
  | _, _, _ => false
theorem eqn_py : ∀ (n : Nat) (x y : D), pur n x = true → pur n y = true → eqn n x y = PyData.eqv (toPy x) (toPy y) := by
  intro n
  induction n with
  | zero =>
    intro x y hx hy
    cases x with
    | tup l => cases hx
    | ref r => cases hx
    | non => cases y with
      | tup l => cases hy
      | ref r => cases hy
      | _ => simp [eqn, toPy, PyData.eqv]
    | bl b => cases y with
      | tup l => cases hy
      | ref r => cases hy
      | _ => simp [eqn, toPy, PyData.eqv]
    | int i => cases y with
      | tup l => cases hy
      | ref r => cases hy
      | int j => simp only [eqn, toPy, PyData.eqv]; exact ieq_eq i j
      | _ => simp [eqn, toPy, PyData.eqv]
    | str i => cases y with
      | tup l => cases hy
      | ref r => cases hy
      | _ => simp [eqn, toPy, PyData.eqv]
  | succ n ih =>
    intro x y hx hy
    have all : ∀ (a b : List D), a.all (pur n) = true → b.all (pur n) = true → eqL (eqn n) a b = PyData.eqvAll (toPys a) (toPys b) := by
      intro a
      induction a with
      | nil => intro b _ _; cases b <;> simp [eqL, toPys, PyData.eqvAll]
      | cons u us ihu =>
        intro b ha hb
        cases b with
        | nil => simp [eqL, toPys, PyData.eqvAll]
        | cons v vs =>
          simp only [List.all_cons, Bool.and_eq_true] at ha hb
          simp only [eqL, toPys, PyData.eqvAll]
          rw [← ih u v ha.1 hb.1, ← ihu vs ha.2 hb.2]
          cases eqn n u v <;> rfl
    cases x with
    | ref r => cases hx
    | tup l => cases y with
      | ref r => cases hy
      | tup l' => simp only [eqn, toPy, PyData.eqv]; exact all l l' hx hy
      | _ => simp [eqn, toPy, PyData.eqv]
    | non => cases y with
      | ref r => cases hy
      | _ => simp [eqn, toPy, PyData.eqv]
    | bl b => cases y with
      | ref r => cases hy
      | _ => simp [eqn, toPy, PyData.eqv]
    | int i => cases y with
      | ref r => cases hy
      | int j => simp only [eqn, toPy, PyData.eqv]; exact ieq_eq i j
      | _ => simp [eqn, toPy, PyData.eqv]
    | str i => cases y with
      | ref r => cases hy
      | _ => simp [eqn, toPy, PyData.eqv]
theorem eqL_py (n : Nat) : ∀ (a b : List D), purs n a = true → purs n b = true → eqL (eqn n) a b = PyData.eqvAll (toPys a) (toPys b)
  | [], b, _, _ => by cases b <;> simp [eqL, toPys, PyData.eqvAll]
  | u :: us, [], _, _ => by simp [eqL, toPys, PyData.eqvAll]
  | u :: us, v :: vs, ha, hb => by
    simp only [purs, List.all_cons, Bool.and_eq_true] at ha hb
    simp only [eqL, toPys, PyData.eqvAll]
    rw [← eqn_py n u v ha.1 hb.1, ← eqL_py n us vs ha.2 hb.2]
    cases eqn n u v <;> rfl
/-- pure data is data in the machine -/
theorem pur_dp {K : PySem.W.Frag} {W : Wl} : ∀ (n : Nat) (d : D) (v : V), pur n d = true → RelD W d v → Dp K W.H v (toPy d) ∧ PyData.canLay0 (toPy d) = true ∧ PyData.depth (toPy d) ≤ n := by
  intro n
  induction n with
  | zero =>
    intro d v h r
    cases d with
    | tup l => cases h
    | ref r => cases h
    | non => rw [RelD] at r; subst r; exact ⟨by rw [toPy]; exact .non, by simp [toPy, PyData.canLay0], by simp [toPy, PyData.depth]⟩
    | bl b => rw [RelD] at r; subst r; exact ⟨by rw [toPy]; exact .bl b, by simp [toPy, PyData.canLay0], by simp [toPy, PyData.depth]⟩
    | int b => rw [RelD] at r; subst r; exact ⟨by rw [toPy]; exact .int b, by simp [toPy, PyData.canLay0], by simp [toPy, PyData.depth]⟩
    | str b => rw [RelD] at r; subst r; exact ⟨by rw [toPy]; exact .str b, by simpa [toPy, PyData.canLay0, pur] using h, by simp [toPy, PyData.depth]⟩
  | succ n ih =>
    intro d v h r
    cases d with
    | ref r => cases h
    | non => rw [RelD] at r; subst r; exact ⟨by rw [toPy]; exact .non, by simp [toPy, PyData.canLay0], by simp [toPy, PyData.depth]⟩
    | bl b => rw [RelD] at r; subst r; exact ⟨by rw [toPy]; exact .bl b, by simp [toPy, PyData.canLay0], by simp [toPy, PyData.depth]⟩
    | int b => rw [RelD] at r; subst r; exact ⟨by rw [toPy]; exact .int b, by simp [toPy, PyData.canLay0], by simp [toPy, PyData.depth]⟩
    | str b => rw [RelD] at r; subst r; exact ⟨by rw [toPy]; exact .str b, by simpa [toPy, PyData.canLay0, pur] using h, by simp [toPy, PyData.depth]⟩
    | tup l =>
      obtain ⟨a, vs, rfl, hs, rs⟩ := relTup r
      have all : ∀ (l : List D) (vs : List V), l.all (pur n) = true → RelDs W l vs → DpAll K W.H vs (toPys l) ∧ PyData.canLayAll0 (toPys l) = true ∧ PyData.depthAll (toPys l) ≤ n := by
        intro l
        induction l with
        | nil => intro vs _ r; rw [RelDs] at r; subst r; exact ⟨by rw [toPys]; exact .nil, by simp [toPys, PyData.canLayAll0], by simp [toPys, PyData.depthAll]⟩
        | cons x xs ihx =>
          intro vs h r
          rw [RelDs] at r
          obtain ⟨v, vs', rfl, r1, r2⟩ := r
          simp only [List.all_cons, Bool.and_eq_true] at h
          obtain ⟨h1, h2, h3⟩ := ih x v h.1 r1
          obtain ⟨h4, h5, h6⟩ := ihx vs' h.2 r2
          exact ⟨by rw [toPys]; exact .cons h1 h4, by simp [toPys, PyData.canLayAll0, h2, h5], by simp only [toPys, PyData.depthAll]; omega⟩
      obtain ⟨h1, h2, h3⟩ := all l vs h rs
      exact ⟨by rw [toPy]; exact .tup (SqT.of hs) h1, by simpa [toPy, PyData.canLay0] using h2, by simp only [toPy, PyData.depth]; omega⟩
theorem purs_dp {K : PySem.W.Frag} {W : Wl} (n : Nat) : ∀ (l : List D) (vs : List V), purs n l = true → RelDs W l vs → DpAll K W.H vs (toPys l) ∧ PyData.canLayAll0 (toPys l) = true ∧ PyData.depthAll (toPys l) ≤ n
  | [], vs, _, r => by rw [RelDs] at r; subst r; exact ⟨by rw [toPys]; exact .nil, by simp [toPys, PyData.canLayAll0], by simp [toPys, PyData.depthAll]⟩
  | x :: xs, vs, h, r => by
    rw [RelDs] at r
    obtain ⟨v, vs', rfl, r1, r2⟩ := r
    simp only [purs, List.all_cons, Bool.and_eq_true] at h
    obtain ⟨h1, h2, h3⟩ := pur_dp (K := K) n x v h.1 r1
    obtain ⟨h4, h5, h6⟩ := purs_dp n xs vs' h.2 r2
    exact ⟨by rw [toPys]; exact .cons h1 h4, by simp [toPys, PyData.canLayAll0, h2, h5], by simp only [toPys, PyData.depthAll]; omega⟩
theorem shaped_of {d : PyData} (h : d.canLay0 = true) (h2 : d.depth ≤ 64) : SeqAt.shaped d = true := by simp [SeqAt.shaped, h, h2]

/-- what two values' == tells -/
def eqF (η : Hd) : D → D → Option Bool
  | .ref r, .ref s => match η.list r, η.list s with
    | some a, some b => match purs 8 a, purs 8 b with
      | true, true => some (eqL (eqn 8) a b)
      | _, _ => none
    | _, _ => none
  | .ref r, y => match η.list r with
    | some a => match purs 8 a, pur 8 y with
      | true, true => some false
      | _, _ => none
    | _ => none
  | x, .ref r => match η.list r with
    | some a => match purs 8 a, pur 8 x with
      | true, true => some false
      | _, _ => none
    | _ => none
  | x, y => match pur 8 x, pur 8 y with
    | true, true => some (eqn 8 x y)
    | _, _ => none
/-- data of a value: pure, or a list of pure ones -/
def pyOf (η : Hd) : D → Option PyData
  | .ref r => match η.list r with
    | some a => match purs 8 a with
      | true => some (.list (toPys a))
      | false => none
    | none => none
  | x => match pur 8 x with
    | true => some (toPy x)
    | false => none
section
variable {X : Cx} {N : Nm} {E : XK} {K : PySem.W.Frag} {W : Wl}
theorem pyOf_dp (o : W.Ok K N.toNames) {d : D} {v : V} {p : PyData} (r : RelD W d v) (h : pyOf W.η d = some p) : Dp K W.H v p ∧ SeqAt.shaped p = true := by
  have flat : ∀ {d : D}, RelD W d v → pur 8 d = true → some (toPy d) = some p → Dp K W.H v p ∧ SeqAt.shaped p = true := fun {d} r hh e => by
    cases e
    obtain ⟨h1, h2, h3⟩ := pur_dp (K := K) 8 d v hh r
    exact ⟨h1, shaped_of h2 (by omega)⟩
  cases d with
  | ref q =>
    simp only [pyOf] at h
    cases e : W.η.list q with
    | none => rw [e] at h; cases h
    | some a =>
      rw [e] at h
      simp only at h
      cases e2 : purs 8 a with
      | false => rw [e2] at h; cases h
      | true =>
        rw [e2] at h
        cases h
        obtain ⟨vs, h1, h2, h3⟩ := list_of o e
        obtain ⟨g1, g2, g3⟩ := purs_dp (K := K) 8 a vs e2 h2
        rw [relRef r]
        refine ⟨.lst h1 g1, shaped_of (by simpa [PyData.canLay0] using g2) (by simp only [PyData.depth]; omega)⟩
  | non => exact flat r rfl h
  | bl b => exact flat r rfl h
  | int b => exact flat r rfl h
  | str b =>
    simp only [pyOf] at h
    cases e : pur 8 (.str b) with
    | false => rw [e] at h; cases h
    | true => rw [e] at h; exact flat r e h
  | tup b =>
    simp only [pyOf] at h
    cases e : pur 8 (.tup b) with
    | false => rw [e] at h; cases h
    | true => rw [e] at h; exact flat r e h
theorem toPy_nolist : ∀ (x : D) (l : List PyData), PyData.eqv (.list l) (toPy x) = false ∧ PyData.eqv (toPy x) (.list l) = false := by
  intro x l
  cases x <;> simp [toPy, PyData.eqv]
theorem eqF_py {η : Hd} {x y : D} {b : Bool} (h : eqF η x y = some b) : ∃ p q, pyOf η x = some p ∧ pyOf η y = some q ∧ PyData.eqv p q = b := by
  have flat : ∀ {x y : D}, (∀ r, x ≠ .ref r) → (∀ r, y ≠ .ref r) → (match pur 8 x, pur 8 y with | true, true => some (eqn 8 x y) | _, _ => none) = some b → ∃ p q, pyOf η x = some p ∧ pyOf η y = some q ∧ PyData.eqv p q = b := by
    intro x y nx ny h
    cases ex : pur 8 x with
    | false => rw [ex] at h; cases h
    | true =>
      cases ey : pur 8 y with
      | false => rw [ex, ey] at h; cases h
      | true =>
        rw [ex, ey] at h
        cases h
        refine ⟨toPy x, toPy y, ?_, ?_, (eqn_py 8 x y ex ey).symm⟩
        · cases x <;> first | exact absurd rfl (nx _) | (simp only [pyOf, ex])
        · cases y <;> first | exact absurd rfl (ny _) | (simp only [pyOf, ey])
  have one : ∀ {r : Nat} {y : D}, (∀ r, y ≠ .ref r) → (match η.list r with | some a => (match purs 8 a, pur 8 y with | true, true => some false | _, _ => none) | _ => none) = some b →
      b = false ∧ ∃ l, pyOf η (.ref r) = some (.list l) ∧ pyOf η y = some (toPy y) := by
    intro r y ny h
    cases e : η.list r with
    | none => rw [e] at h; cases h
    | some a =>
      rw [e] at h
      simp only at h
      cases ex : purs 8 a with
      | false => rw [ex] at h; cases h
      | true =>
        cases ey : pur 8 y with
        | false => rw [ex, ey] at h; cases h
        | true =>
          rw [ex, ey] at h
          cases h
          refine ⟨rfl, toPys a, by simp only [pyOf, e, ex], ?_⟩
          cases y <;> first | exact absurd rfl (ny _) | (simp only [pyOf, ey])
  cases x with
  | ref r =>
    cases y with
    | ref s =>
      simp only [eqF] at h
      cases e1 : η.list r with
      | none => rw [e1] at h; cases h
      | some a =>
        cases e2 : η.list s with
        | none => rw [e1, e2] at h; cases h
        | some c =>
          rw [e1, e2] at h
          simp only at h
          cases ex : purs 8 a with
          | false => rw [ex] at h; cases h
          | true =>
            cases ey : purs 8 c with
            | false => rw [ex, ey] at h; cases h
            | true =>
              rw [ex, ey] at h
              cases h
              refine ⟨.list (toPys a), .list (toPys c), by simp only [pyOf, e1, ex], by simp only [pyOf, e2, ey], ?_⟩
              simp only [PyData.eqv]; exact (eqL_py 8 a c ex ey).symm
    | _ =>
      simp only [eqF] at h
      obtain ⟨rfl, l, h1, h2⟩ := one (by intro r z; cases z) h
      exact ⟨_, _, h1, h2, (toPy_nolist _ l).1⟩
  | non =>
    cases y with
    | ref s =>
      simp only [eqF] at h
      obtain ⟨rfl, l, h1, h2⟩ := one (by intro r z; cases z) h
      exact ⟨_, _, h2, h1, (toPy_nolist _ l).2⟩
    | _ => exact flat (by intro r z; cases z) (by intro r z; cases z) h
  | bl b =>
    cases y with
    | ref s =>
      simp only [eqF] at h
      obtain ⟨rfl, l, h1, h2⟩ := one (by intro r z; cases z) h
      exact ⟨_, _, h2, h1, (toPy_nolist _ l).2⟩
    | _ => exact flat (by intro r z; cases z) (by intro r z; cases z) h
  | int b =>
    cases y with
    | ref s =>
      simp only [eqF] at h
      obtain ⟨rfl, l, h1, h2⟩ := one (by intro r z; cases z) h
      exact ⟨_, _, h2, h1, (toPy_nolist _ l).2⟩
    | _ => exact flat (by intro r z; cases z) (by intro r z; cases z) h
  | str b =>
    cases y with
    | ref s =>
      simp only [eqF] at h
      obtain ⟨rfl, l, h1, h2⟩ := one (by intro r z; cases z) h
      exact ⟨_, _, h2, h1, (toPy_nolist _ l).2⟩
    | _ => exact flat (by intro r z; cases z) (by intro r z; cases z) h
  | tup b =>
    cases y with
    | ref s =>
      simp only [eqF] at h
      obtain ⟨rfl, l, h1, h2⟩ := one (by intro r z; cases z) h
      exact ⟨_, _, h2, h1, (toPy_nolist _ l).2⟩
    | _ => exact flat (by intro r z; cases z) (by intro r z; cases z) h
def fEq : F2 := fun x y η => match eqF η x y with
  | some b => some (.bl b, η)
  | none => none
def fNe : F2 := fun x y η => match eqF η x y with
  | some b => some (.bl (!b), η)
  | none => none
theorem opd_eq (hu : X.A.units + 64 < cLine) : OpR X (compareOp .Eq) (r2 X.K N fEq) := OpR.imp (op_eqD hu) fun x y H Q q => by
  obtain ⟨W, dx, dy, d, η', rfl, o, rx, ry, hf, hq⟩ := q
  unfold fEq at hf
  cases e : eqF W.η dx dy with
  | none => rw [e] at hf; cases hf
  | some b =>
    rw [e] at hf
    simp only [Option.some.injEq, Prod.mk.injEq] at hf
    obtain ⟨rfl, rfl⟩ := hf
    obtain ⟨p, q, h1, h2, rfl⟩ := eqF_py e
    obtain ⟨a1, a2⟩ := pyOf_dp o rx h1
    obtain ⟨b1, b2⟩ := pyOf_dp o ry h2
    exact ⟨p, q, a1, b1, a2, b2, same_w o hq mkBl⟩
theorem opd_ne (hu : X.A.units + 64 < cLine) : OpR X (compareOp .NotEq) (r2 X.K N fNe) := OpR.imp (op_neD hu) fun x y H Q q => by
  obtain ⟨W, dx, dy, d, η', rfl, o, rx, ry, hf, hq⟩ := q
  unfold fNe at hf
  cases e : eqF W.η dx dy with
  | none => rw [e] at hf; cases hf
  | some b =>
    rw [e] at hf
    simp only [Option.some.injEq, Prod.mk.injEq] at hf
    obtain ⟨rfl, rfl⟩ := hf
    obtain ⟨p, q, h1, h2, rfl⟩ := eqF_py e
    obtain ⟨a1, a2⟩ := pyOf_dp o rx h1
    obtain ⟨b1, b2⟩ := pyOf_dp o ry h2
    exact ⟨p, q, a1, b1, a2, b2, same_w o hq mkBl⟩
/-! in: lists and tuples of pure data -/
def seqOf (η : Hd) : D → Option (List D)
  | .ref r => η.list r
  | .tup l => some l
  | _ => none
def inF (η : Hd) (x y : D) : Option Bool := match seqOf η y with
  | some a => match pur 8 x, purs 8 a with
    | true, true => some (a.any fun z => eqn 8 z x)
    | _, _ => none
  | none => none
def fIn : F2 := fun x y η => match inF η x y with
  | some b => some (.bl b, η)
  | none => none
def fNotIn : F2 := fun x y η => match inF η x y with
  | some b => some (.bl (!b), η)
  | none => none
theorem any_py (n : Nat) (x : D) (hx : pur n x = true) : ∀ a : List D, purs n a = true → (a.any fun z => eqn n z x) = ((toPys a).any fun z => PyData.eqv z (toPy x))
  | [], _ => by simp [toPys]
  | u :: us, h => by
    simp only [purs, List.all_cons, Bool.and_eq_true] at h
    simp only [toPys, List.any_cons]
    rw [eqn_py n u x h.1 hx, any_py n x hx us h.2]
/-- x in a list or a tuple, by data -/
def rInA (K : PySem.W.Frag) (neg : Bool) : R2 := fun x y H Q => ∃ d ds, Dp K H x d ∧ (Dp K H y (.list ds) ∨ Dp K H y (.tuple ds)) ∧ SeqAt.shaped d = true ∧ PyData.canLayAll0 ds = true ∧ Q (.bl (if neg then !(ds.any fun z => PyData.eqv z d) else (ds.any fun z => PyData.eqv z d))) H
theorem op_inA (hu : X.A.units + 65 < cLine) : OpR X (compareOp .In) (rInA X.K false) := by
  intro pins s σ H x y v u Q I rx ry h
  obtain ⟨d, ds, hd, he, sd, se, q⟩ := h
  obtain ⟨as, r1⟩ := Dp.reads I d x v hd rx
  rcases he with he | he
  · obtain ⟨bs, r2⟩ := Dp.reads I (.list ds) y u he ry
    exact SeqAt.in_list_reads r2 r1 se (SeqAt.canLay_of_shaped sd) (PyProof.Rows.room_in_shaped sd hu) ⟨.bl _, H, I, rfl, q⟩
  · obtain ⟨bs, r2⟩ := Dp.reads I (.tuple ds) y u he ry
    exact SeqAt.in_tuple_reads r2 r1 se (SeqAt.canLay_of_shaped sd) (PyProof.Rows.room_in_shaped sd hu) ⟨.bl _, H, I, rfl, q⟩
theorem op_notInA (hu : X.A.units + 65 < cLine) : OpR X (compareOp .NotIn) (rInA X.K true) := by
  intro pins s σ H x y v u Q I rx ry h
  obtain ⟨d, ds, hd, he, sd, se, q⟩ := h
  obtain ⟨as, r1⟩ := Dp.reads I d x v hd rx
  rcases he with he | he
  · obtain ⟨bs, r2⟩ := Dp.reads I (.list ds) y u he ry
    exact SeqAt.notIn_list_reads r2 r1 se (SeqAt.canLay_of_shaped sd) (PyProof.Rows.room_in_shaped sd hu) ⟨.bl _, H, I, rfl, q⟩
  · obtain ⟨bs, r2⟩ := Dp.reads I (.tuple ds) y u he ry
    exact SeqAt.notIn_tuple_reads r2 r1 se (SeqAt.canLay_of_shaped sd) (PyProof.Rows.room_in_shaped sd hu) ⟨.bl _, H, I, rfl, q⟩
theorem inF_py (o : W.Ok K N.toNames) {x y : D} {vx vy : V} {b : Bool} (rx : RelD W x vx) (ry : RelD W y vy) (h : inF W.η x y = some b) :
    ∃ d ds, Dp K W.H vx d ∧ (Dp K W.H vy (.list ds) ∨ Dp K W.H vy (.tuple ds)) ∧ SeqAt.shaped d = true ∧ PyData.canLayAll0 ds = true ∧ b = (ds.any fun z => PyData.eqv z d) := by
  unfold inF at h
  cases e : seqOf W.η y with
  | none => rw [e] at h; cases h
  | some a =>
    rw [e] at h
    simp only at h
    cases ex : pur 8 x with
    | false => rw [ex] at h; cases h
    | true =>
      cases ey : purs 8 a with
      | false => rw [ex, ey] at h; cases h
      | true =>
        rw [ex, ey] at h
        cases h
        obtain ⟨h1, h2, h3⟩ := pur_dp (K := K) 8 x vx ex rx
        refine ⟨toPy x, toPys a, h1, ?_, shaped_of h2 (by omega), ?_, any_py 8 x ex a ey⟩
        · cases y with
          | ref r =>
            obtain ⟨vs, g1, g2, g3⟩ := list_of o e
            rw [relRef ry]
            exact .inl (.lst g1 (purs_dp (K := K) 8 a vs ey g2).1)
          | tup l =>
            cases e
            obtain ⟨q, vs, rfl, hs, rs⟩ := relTup ry
            exact .inr (.tup (SqT.of hs) (purs_dp (K := K) 8 _ vs ey rs).1)
          | _ => cases e
        · cases y with
          | ref r =>
            obtain ⟨vs, g1, g2, g3⟩ := list_of o e
            exact (purs_dp (K := K) 8 a vs ey g2).2.1
          | tup l =>
            cases e
            obtain ⟨q, vs, rfl, hs, rs⟩ := relTup ry
            exact (purs_dp (K := K) 8 _ vs ey rs).2.1
          | _ => cases e
theorem opd_in (hu : X.A.units + 65 < cLine) : OpR X (compareOp .In) (r2 X.K N fIn) := OpR.imp (op_inA hu) fun x y H Q q => by
  obtain ⟨W, dx, dy, d, η', rfl, o, rx, ry, hf, hq⟩ := q
  unfold fIn at hf
  cases e : inF W.η dx dy with
  | none => rw [e] at hf; cases hf
  | some b =>
    rw [e] at hf
    simp only [Option.some.injEq, Prod.mk.injEq] at hf
    obtain ⟨rfl, rfl⟩ := hf
    obtain ⟨d, ds, h1, h2, h3, h4, rfl⟩ := inF_py o rx ry e
    exact ⟨d, ds, h1, h2, h3, h4, same_w o hq mkBl⟩
theorem opd_notIn (hu : X.A.units + 65 < cLine) : OpR X (compareOp .NotIn) (r2 X.K N fNotIn) := OpR.imp (op_notInA hu) fun x y H Q q => by
  obtain ⟨W, dx, dy, d, η', rfl, o, rx, ry, hf, hq⟩ := q
  unfold fNotIn at hf
  cases e : inF W.η dx dy with
  | none => rw [e] at hf; cases hf
  | some b =>
    rw [e] at hf
    simp only [Option.some.injEq, Prod.mk.injEq] at hf
    obtain ⟨rfl, rfl⟩ := hf
    obtain ⟨d, ds, h1, h2, h3, h4, rfl⟩ := inF_py o rx ry e
    exact ⟨d, ds, h1, h2, h3, h4, same_w o hq mkBl⟩
end
end DL

/-! expressions -/
namespace DL
open PySem PySem.Spec L2
section
variable {X : Cx} {N : Nm} {E : XK}

/-! ### arguments, displays -/
def cNil : CA := fun _ η k _ => k [] η
def cCons (a : CE) (r : CA) : CA := fun σ η k kx => a σ η (fun x η1 => r σ η1 (fun xs η2 => k (x :: xs) η2) kx) kx
theorem ja_nil : JA X N E [] cNil := PA.imp pa_nil fun σ H Q q => by
  obtain ⟨W, σd, kv, kx, rfl, o, s, h, hv, hx⟩ := q
  exact hv W [] [] (Ext.refl W) o .nil h
theorem ja_cons {e : Expr} {es : List Expr} {c : CE} {cs : CA} (ha : JE X N E e c) (hr : JA X N E es cs) (hs : starEach (e :: es) X.env = (false, eval e X.env) :: starEach es X.env := by rfl) : JA X N E (e :: es) (cCons c cs) :=
  PA.imp (pa_cons ha hr hs) fun σ H Q q => by
    obtain ⟨W, σd, kv, kx, rfl, o, s, h, hv, hx⟩ := q
    refine tE.bind o s hx h fun W1 d v x1 o1 r1 s1 hx1 h1 => ?_
    refine tAr.bind o1 s1 hx1 h1 fun W2 ds vs x2 o2 r2 s2 hx2 h2 => ?_
    exact hv W2 (d :: ds) (v :: vs) (x1.trans o o1 x2) o2 (.cons (r1.mono o1 x2) r2) h2
def cTup (a : CA) : CE := fun σ η kv kx => a σ η (fun ds η1 => match Nat.ble ds.length line with
  | true => kv (.tup ds) η1
  | false => false) kx
def cLst (a : CA) : CE := fun σ η kv kx => a σ η (fun ds η1 => match Nat.ble ds.length line with
  | true => kv (.ref η1.nx) (η1.new (.lst ds))
  | false => false) kx
theorem Vk.tup {K : PySem.W.Frag} {W W0 : Wl} {kv : KV} {Q : VK} {ds : List D} {vs : List V} {p : Addr} (o : W.Ok K N.toNames) (hv : Vk K N W kv Q) (h : kv (.tup ds) W.η = true) (hp : W.H p = none) (r : RelDs W ds vs) : Q (.ref p) (upd W.H p (.tup vs)) :=
  new_tup (N := N) o (fun W' v x o' e r' => hv W' _ v x o' r' (by rw [e]; exact h)) hp r
theorem Vk.lst {K : PySem.W.Frag} {W : Wl} {kv : KV} {Q : VK} {ds : List D} {vs : List V} {p : Addr} (o : W.Ok K N.toNames) (hv : Vk K N W kv Q) (h : kv (.ref W.η.nx) (W.η.new (.lst ds)) = true) (hp : W.H p = none) (r : RelDs W ds vs) (hl : ds.length ≤ sizeLine) : Q (.ref p) (upd W.H p (.lst vs)) :=
  new_lst (N := N) o (fun W' v x o' e r' => hv W' _ v x o' r' (by rw [e]; exact h)) hp r hl
theorem je_tup {es : List Expr} {x1 : Nat} {pos : Pos} {c : CA} (h : JA X N E es c) : JE X N E (.Tuple es x1 pos) (cTup c) := PE.imp (pe_tup h) fun σ H Q q => by
  obtain ⟨W, σd, kv, kx, rfl, o, s, h, hv, hx⟩ := q
  refine tAr.bind o s hx h fun W1 ds vs x1 o1 r1 s1 hx1 h1 => ?_
  cases e : Nat.ble ds.length line with
  | false => rw [e] at h1; cases h1
  | true =>
    rw [e] at h1
    exact ⟨by rw [← r1.length]; exact Nat.le_of_ble_eq_true e, fun p hp => Vk.tup (W0 := W) o1 (hv.mono o o1 x1) h1 hp r1⟩
theorem je_lst {es : List Expr} {pos : Pos} {c : CA} (h : JA X N E es c) : JE X N E (.List es pos) (cLst c) := PE.imp (pe_lst h) fun σ H Q q => by
  obtain ⟨W, σd, kv, kx, rfl, o, s, h, hv, hx⟩ := q
  refine tAr.bind o s hx h fun W1 ds vs x1 o1 r1 s1 hx1 h1 => ?_
  cases e : Nat.ble ds.length line with
  | false => rw [e] at h1; cases h1
  | true =>
    rw [e] at h1
    have hl : ds.length ≤ sizeLine := Nat.le_of_ble_eq_true e
    exact ⟨by rw [← r1.length]; exact hl, fun p hp => Vk.lst o1 (hv.mono o o1 x1) h1 hp r1 hl⟩

/-! ### unary -/
def cNeg (a : CE) : CE := fun σ η kv kx => a σ η (fun x η1 => match x with
  | .int i => kv (.int (Int.neg i)) η1
  | _ => false) kx
theorem je_neg {a : Expr} {c : CE} {pos : Pos} (h : JE X N E a c) : JE X N E (.UnaryOp .USub a pos) (cNeg c) := PE.imp (pe_un un_neg h) fun σ H Q q => by
  obtain ⟨W, σd, kv, kx, rfl, o, s, h, hv, hx⟩ := q
  refine tE.bind o s hx h fun W1 d v x1 o1 r1 s1 hx1 h1 => ?_
  cases d with
  | int i => rw [relInt r1]; exact ⟨i, rfl, (hv.mono o o1 x1).here o1 mkInt h1⟩
  | _ => cases h1
def cNot (a : CE) : CE := fun σ η kv kx => a σ η (fun x η1 => match x with
  | .bl b => kv (.bl (!b)) η1
  | _ => false) kx
theorem je_not {a : Expr} {c : CE} {pos : Pos} (h : JE X N E a c) : JE X N E (.UnaryOp .Not a pos) (cNot c) := PE.imp (pe_not h) fun σ H Q q => by
  obtain ⟨W, σd, kv, kx, rfl, o, s, h, hv, hx⟩ := q
  refine tE.bind o s hx h fun W1 d v x1 o1 r1 s1 hx1 h1 => ?_
  cases d with
  | bl i => rw [relBl r1]; exact ⟨i, rfl, (hv.mono o o1 x1).here o1 mkBl h1⟩
  | _ => cases h1

/-! ### tests -/
def cTst (a : CE) : CT := fun σ η k kx => a σ η (fun x η1 => match x with
  | .bl b => k b η1
  | _ => false) kx
theorem jt_val {e : Expr} {c : CE} (h : JE X N E e c) (he : ∀ whole, isTrue e X.env whole = (do let v ← whole; standAt e.pos; holding [v] (truthy v)) := by intro _; rfl) : JT X N E e (cTst c) := PT.imp (pt_val h he) fun σ H Q q => by
  obtain ⟨W, σd, kv, kx, rfl, o, s, h, hv, hx⟩ := q
  refine tE.bind o s hx h fun W1 d v x1 o1 r1 s1 hx1 h1 => ?_
  cases d with
  | bl i => rw [relBl r1]; exact ⟨i, rfl, hv W1 i x1 o1 h1⟩
  | _ => cases h1
def ctAnd (a b : CT) : CT := fun σ η k kx => a σ η (fun x η1 => match x with
  | true => b σ η1 k kx
  | false => k false η1) kx
def ctOr (a b : CT) : CT := fun σ η k kx => a σ η (fun x η1 => match x with
  | true => k true η1
  | false => b σ η1 k kx) kx
def ctNot (a : CT) : CT := fun σ η k kx => a σ η (fun x η1 => k (!x) η1) kx
def JW (X : Cx) (N : Nm) (E : XK) (e : Expr) (c : CT) : Prop := PW X e (tT X.K N E c)
theorem jt_of {e : Expr} {c : CT} (h : JW X N E e c) : JT X N E e c := PW.pt h
theorem jw_and1 {a : Expr} {c : CT} {pos : Pos} (h : JT X N E a c) : JW X N E (.BoolOp .And [a] pos) c := pw_and1 h
theorem jw_or1 {a : Expr} {c : CT} {pos : Pos} (h : JT X N E a c) : JW X N E (.BoolOp .Or [a] pos) c := pw_or1 h
theorem jw_and {a b : Expr} {rest : List Expr} {c d : CT} {pos : Pos} (h : JT X N E a c) (h2 : JW X N E (.BoolOp .And (b :: rest) pos) d) : JW X N E (.BoolOp .And (a :: b :: rest) pos) (ctAnd c d) := PW.imp (pw_and h h2) fun σ H Q q => by
  obtain ⟨W, σd, kv, kx, rfl, o, s, h, hv, hx⟩ := q
  refine tT.bind o s hx h fun W1 b x1 o1 s1 hx1 h1 => ?_
  cases b with
  | true => rw [if_pos rfl]; exact tT.bind o1 s1 hx1 h1 fun W2 b2 x2 o2 _ _ h2 => hv W2 b2 (x1.trans o o1 x2) o2 h2
  | false => rw [if_neg (by decide)]; exact hv W1 false x1 o1 h1
theorem jw_or {a b : Expr} {rest : List Expr} {c d : CT} {pos : Pos} (h : JT X N E a c) (h2 : JW X N E (.BoolOp .Or (b :: rest) pos) d) : JW X N E (.BoolOp .Or (a :: b :: rest) pos) (ctOr c d) := PW.imp (pw_or h h2) fun σ H Q q => by
  obtain ⟨W, σd, kv, kx, rfl, o, s, h, hv, hx⟩ := q
  refine tT.bind o s hx h fun W1 b x1 o1 s1 hx1 h1 => ?_
  cases b with
  | true => rw [if_pos rfl]; exact hv W1 true x1 o1 h1
  | false => rw [if_neg (by decide)]; exact tT.bind o1 s1 hx1 h1 fun W2 b2 x2 o2 _ _ h2 => hv W2 b2 (x1.trans o o1 x2) o2 h2
theorem jt_not {a : Expr} {c : CT} {pos : Pos} (h : JT X N E a c) : JT X N E (.UnaryOp .Not a pos) (ctNot c) := PT.imp (pt_not h) fun σ H Q q => by
  obtain ⟨W, σd, kv, kx, rfl, o, s, h, hv, hx⟩ := q
  exact tT.bind o s hx h fun W1 b x1 o1 s1 hx1 h1 => hv W1 (!b) x1 o1 h1
/-- and, or as values (bools) -/
def cAnd (a b : CE) : CE := fun σ η kv kx => a σ η (fun x η1 => match x with
  | .bl true => b σ η1 kv kx
  | .bl false => kv (.bl false) η1
  | _ => false) kx
def cOr (a b : CE) : CE := fun σ η kv kx => a σ η (fun x η1 => match x with
  | .bl true => kv (.bl true) η1
  | .bl false => b σ η1 kv kx
  | _ => false) kx
theorem je_one {a : Expr} {c : CE} {op : BoolOp} {pos : Pos} (h : JE X N E a c) : JE X N E (.BoolOp op [a] pos) c := pe_one h
theorem je_and {a b : Expr} {rest : List Expr} {c d : CE} {pos : Pos} (h : JE X N E a c) (h2 : JE X N E (.BoolOp .And (b :: rest) pos) d) : JE X N E (.BoolOp .And (a :: b :: rest) pos) (cAnd c d) := PE.imp (pe_and h h2) fun σ H Q q => by
  obtain ⟨W, σd, kv, kx, rfl, o, s, h, hv, hx⟩ := q
  refine tE.bind o s hx h fun W1 d v x1 o1 r1 s1 hx1 h1 => ?_
  cases d with
  | bl b =>
    rw [relBl r1]
    cases b with
    | true => exact ⟨true, rfl, by rw [if_pos rfl]; exact tE.bind o1 s1 hx1 h1 fun W2 d2 v2 x2 o2 r2 _ _ h2 => hv W2 d2 v2 (x1.trans o o1 x2) o2 r2 h2⟩
    | false => exact ⟨false, rfl, by rw [if_neg (by decide)]; exact (hv.mono o o1 x1).here o1 mkBl h1⟩
  | _ => cases h1
theorem je_or {a b : Expr} {rest : List Expr} {c d : CE} {pos : Pos} (h : JE X N E a c) (h2 : JE X N E (.BoolOp .Or (b :: rest) pos) d) : JE X N E (.BoolOp .Or (a :: b :: rest) pos) (cOr c d) := PE.imp (pe_or h h2) fun σ H Q q => by
  obtain ⟨W, σd, kv, kx, rfl, o, s, h, hv, hx⟩ := q
  refine tE.bind o s hx h fun W1 d v x1 o1 r1 s1 hx1 h1 => ?_
  cases d with
  | bl b =>
    rw [relBl r1]
    cases b with
    | true => exact ⟨true, rfl, by rw [if_pos rfl]; exact (hv.mono o o1 x1).here o1 mkBl h1⟩
    | false => exact ⟨false, rfl, by rw [if_neg (by decide)]; exact tE.bind o1 s1 hx1 h1 fun W2 d2 v2 x2 o2 r2 _ _ h2 => hv W2 d2 v2 (x1.trans o o1 x2) o2 r2 h2⟩
  | _ => cases h1
def cIf (t : CT) (a b : CE) : CE := fun σ η kv kx => t σ η (fun x η1 => match x with
  | true => a σ η1 kv kx
  | false => b σ η1 kv kx) kx
theorem je_if {c a b : Expr} {ct : CT} {ca cb : CE} {pos : Pos} (hc : JT X N E c ct) (ha : JE X N E a ca) (hb : JE X N E b cb) : JE X N E (.IfExp c a b pos) (cIf ct ca cb) := PE.imp (pe_ifExp hc ha hb) fun σ H Q q => by
  obtain ⟨W, σd, kv, kx, rfl, o, s, h, hv, hx⟩ := q
  refine tT.bind o s hx h fun W1 b x1 o1 s1 hx1 h1 => ?_
  cases b with
  | true => rw [if_pos rfl]; exact tE.bind o1 s1 hx1 h1 fun W2 d2 v2 x2 o2 r2 _ _ h2 => hv W2 d2 v2 (x1.trans o o1 x2) o2 r2 h2
  | false => rw [if_neg (by decide)]; exact tE.bind o1 s1 hx1 h1 fun W2 d2 v2 x2 o2 r2 _ _ h2 => hv W2 d2 v2 (x1.trans o o1 x2) o2 r2 h2
/-- a < b < c -/
def cChain (f g : F2) (a b c : CE) : CE := fun σ η kv kx => a σ η (fun x η1 => b σ η1 (fun y η2 => match f x y η2 with
  | some (.bl true, η3) => c σ η3 (fun z η4 => match g y z η4 with
    | some (d, η5) => kv d η5
    | none => false) kx
  | some (.bl false, η3) => kv (.bl false) η3
  | _ => false) kx) kx
theorem tChain_of {f g : F2} {ca cb cc : CE} {K : PySem.W.Frag} {σ : St} {H : Hp} {Q : VK} (h : tE K N E (cChain f g ca cb cc) σ H Q) : tChain (r2 K N f) (r2 K N g) (tE K N E ca) (tE K N E cb) (tE K N E cc) σ H Q := by
  obtain ⟨W, σd, kv, kx, rfl, o, s, h, hv, hx⟩ := h
  refine tE.bind o s hx h fun W1 dx x x1 o1 r1 s1 hx1 h1 => ?_
  refine tE.bind o1 s1 hx1 h1 fun W2 dy y x2 o2 r2' s2 hx2 h2 => ?_
  have x02 := x1.trans o o1 x2
  cases e : f dx dy W2.η with
  | none => rw [e] at h2; cases h2
  | some p =>
    obtain ⟨d, η'⟩ := p
    rw [e] at h2
    refine ⟨W2, dx, dy, d, η', rfl, o2, r1.mono o1 x2, r2', e, fun W3 v x3 o3 e3 r3 => ?_⟩
    cases d with
    | bl b =>
      rw [relBl r3]
      cases b with
      | true =>
        refine ⟨true, rfl, ?_⟩
        rw [if_pos rfl]
        refine tE.bind o3 (s2.mono o2 x3) (hx2.mono o2 o3 x3) (by rw [e3]; exact h2) fun W4 dz z x4 o4 r4 s4 hx4 h4 => ?_
        have ry : RelD W4 dy y := (r2'.mono o2 x3).mono o3 x4
        cases e4 : g dy dz W4.η with
        | none => rw [e4] at h4; cases h4
        | some p =>
          obtain ⟨d, η'⟩ := p
          rw [e4] at h4
          exact ⟨W4, dy, dz, d, η', rfl, o4, ry, r4, e4, fun W5 v x5 o5 e5 r5 => hv W5 d v (x02.trans o o2 (x3.trans o2 o3 (x4.trans o3 o4 x5))) o5 r5 (by rw [e5]; exact h4)⟩
      | false =>
        refine ⟨false, rfl, ?_⟩
        rw [if_neg (by decide)]
        exact (hv.mono o o3 (x02.trans o o2 x3)).here o3 mkBl (by rw [e3]; exact h2)
    | _ => cases h2
theorem je_chain {op op' : CmpOp} {f g : F2} {a b c : Expr} {ca cb cc : CE} {pos : Pos} (ho : OpR X (compareOp op) (r2 X.K N f)) (ho' : OpR X (compareOp op') (r2 X.K N g)) (ha : JE X N E a ca) (hb : JE X N E b cb) (hc : JE X N E c cc)
    (hm : lastMarks [op, op'] [b, c] = false := by rfl) : JE X N E (.Compare a [op, op'] [b, c] pos) (cChain f g ca cb cc) := by
  refine PE.imp (pe_chain ho ho' ha hb hc ?_) fun σ H Q q => tChain_of q
  all_goals first | exact hm | (intros; rfl)
end
end DL

/-! tests by comparison, subscripts, slices, built-ins, methods -/
namespace DL
open PySem PySem.Spec L2
section
variable {X : Cx} {N : Nm} {E : XK}
theorem tTest_of {c : CE} {K : PySem.W.Frag} {σ : St} {H : Hp} {Q : Bool → Hp → Prop} (h : tT K N E (cTst c) σ H Q) : tE K N E c σ H (fun x H' => ∃ k, x = .bl k ∧ Q k H') := by
  obtain ⟨W, σd, kv, kx, rfl, o, s, h, hv, hx⟩ := h
  refine tE.bind o s hx h fun W1 d v x1 o1 r1 s1 hx1 h1 => ?_
  cases d with
  | bl i => rw [relBl r1]; exact ⟨i, rfl, hv W1 i x1 o1 h1⟩
  | _ => cases h1
theorem jt_cmp {op : CmpOp} {f : F2} {a b : Expr} {ca cb : CE} {pos : Pos} (ho : OpR X (compareOp op) (r2 X.K N f)) (ha : JE X N E a ca) (hb : JE X N E b cb) (hm : behindInMarks op b = false) : JT X N E (.Compare a [op] [b] pos) (cTst (cOp f ca cb)) :=
  PT.imp (pt_cmpR ho ha hb hm) fun σ H Q q => tOp_of (tTest_of q)
theorem jt_chain {op op' : CmpOp} {f g : F2} {a b c : Expr} {ca cb cc : CE} {pos : Pos} (ho : OpR X (compareOp op) (r2 X.K N f)) (ho' : OpR X (compareOp op') (r2 X.K N g)) (ha : JE X N E a ca) (hb : JE X N E b cb) (hc : JE X N E c cc)
    (hm : lastMarks [op, op'] [b, c] = false := by with_unfolding_all rfl) : JT X N E (.Compare a [op, op'] [b, c] pos) (cTst (cChain f g ca cb cc)) :=
  PT.imp (pt_chain ho ho' ha hb hc hm) fun σ H Q q => tChain_of (tTest_of q)

/-! ### subscripts -/
def atD (l : List D) : Int → Option D
  | .ofNat n => l[n]?
  | .negSucc n => match Nat.ble (n + 1) l.length with
    | true => l[l.length - (n + 1)]?
    | false => none
theorem atD_atI {W : Wl} {l : List D} {vs : List V} {i : Int} {d : D} (r : RelDs W l vs) (h : atD l i = some d) : ∃ v, atI vs i = some v ∧ RelD W d v := by
  have hl := r.length
  cases i with
  | ofNat n =>
    have h' : l[n]? = some d := h
    obtain ⟨v, e, rv⟩ := r.get' h'
    have hn : n < vs.length := (List.getElem?_eq_some_iff.mp e).1
    refine ⟨v, ?_, rv⟩
    unfold atI ixN
    rw [if_pos (show (0 : Int) ≤ Int.ofNat n from Int.natCast_nonneg n), if_pos (show Int.ofNat n < (vs.length : Int) from by show ((n : Nat) : Int) < _; omega)]
    exact e
  | negSucc n =>
    simp only [atD] at h
    cases e : Nat.ble (n + 1) l.length with
    | false => rw [e] at h; cases h
    | true =>
      rw [e] at h
      have hb : n + 1 ≤ l.length := Nat.le_of_ble_eq_true e
      obtain ⟨v, ev, rv⟩ := r.get' h
      refine ⟨v, ?_, rv⟩
      unfold atI ixN
      have e1 : Int.negSucc n = -((n + 1 : Nat) : Int) := rfl
      rw [if_neg (show ¬ (0 : Int) ≤ Int.negSucc n from by rw [e1]; omega), if_pos (show -(vs.length : Int) ≤ Int.negSucc n from by rw [e1]; omega)]
      have e2 : (Int.negSucc n + (vs.length : Int)).toNat = l.length - (n + 1) := by rw [e1]; omega
      show vs[(Int.negSucc n + (vs.length : Int)).toNat]? = some v
      rw [e2]; exact ev
/-- the value under a key -/
def eqK1 : D → D → Bool
  | .int i, .int j => ieq i j
  | .str a, .str b => decide (a = b)
  | _, _ => false
def eqK : D → D → Bool
  | .tup a, .tup b => eqL eqK1 a b
  | x, y => eqK1 x y
def isKey : Bool → D → Bool
  | false, .int _ => true
  | false, .str _ => true
  | true, .tup l => l.all fun x => match x with
    | .int _ => true
    | .str _ => true
    | _ => false
  | _, _ => false
def dlook (k : D) : List (D × D) → Option D
  | [] => none
  | p :: r => match eqK p.1 k with
    | true => some p.2
    | false => dlook k r
theorem ieq_iff {i j : Int} : ieq i j = true ↔ i = j := by rw [ieq_eq]; exact beq_iff_eq
theorem key0_eq {x y : D} {a b : Key} (hx : D.key x = some a) (hy : D.key y = some b) : eqK1 x y = decide (a = b) := by
  cases x with
  | int i =>
    cases hx
    cases y with
    | int j =>
      cases hy
      show ieq i j = decide ((Sum.inl i : Key) = Sum.inl j)
      rw [ieq_eq, key_ll]
    | str s => cases hy; exact (key_lr i s).symm
    | _ => cases hy
  | str s =>
    cases hx
    cases y with
    | int j => cases hy; exact (key_rl s j).symm
    | str t => cases hy; exact (key_rr s t).symm
    | _ => cases hy
  | _ => cases hx
theorem key1_eq {x y : D} {a b : Key} (hx : D.key x = some a) (hy : D.key y = some b) : eqK x y = decide (a = b) := by
  rw [← key0_eq hx hy]
  cases x <;> cases y <;> first | rfl | (cases hx) | (cases hy)
theorem keysOf_cons {x : D} {xs : List D} {a : List Key} (h : keysOf (x :: xs) = some a) : ∃ k ks, a = k :: ks ∧ D.key x = some k ∧ keysOf xs = some ks := by
  simp only [keysOf] at h
  cases e : D.key x with
  | none => rw [e] at h; cases h
  | some k =>
    cases e2 : keysOf xs with
    | none => rw [e, e2] at h; cases h
    | some ks => rw [e, e2] at h; cases h; exact ⟨k, ks, rfl, rfl, rfl⟩
theorem keyT_eq : ∀ {l m : List D} {a b : List Key}, keysOf l = some a → keysOf m = some b → eqK (.tup l) (.tup m) = decide (a = b)
  | [], m, a, b, hx, hy => by
    cases hx
    cases m with
    | nil => cases hy; rfl
    | cons y ys => obtain ⟨k, ks, rfl, _, _⟩ := keysOf_cons hy; simp [eqK, eqL]
  | x :: xs, m, a, b, hx, hy => by
    obtain ⟨k, ks, rfl, h1, h2⟩ := keysOf_cons hx
    cases m with
    | nil => cases hy; simp [eqK, eqL]
    | cons y ys =>
      obtain ⟨k', ks', rfl, g1, g2⟩ := keysOf_cons hy
      have e1 := key0_eq h1 g1
      have e2 : eqL eqK1 xs ys = decide (ks = ks') := keyT_eq h2 g2
      show eqL eqK1 (x :: xs) (y :: ys) = _
      unfold eqL
      rw [e1]
      by_cases hk : k = k'
      · rw [decide_eq_true hk]
        show eqL eqK1 xs ys = _
        rw [e2]
        by_cases hks : ks = ks'
        · rw [decide_eq_true hks, decide_eq_true (by rw [hk, hks])]
        · rw [decide_eq_false hks, decide_eq_false (by intro z; cases z; exact hks rfl)]
      · rw [decide_eq_false hk]
        exact (decide_eq_false (by intro z; cases z; exact hk rfl)).symm
theorem dlookK {W : Wl} {k : D} {k' : Key} (hk : D.key k = some k') : ∀ {kvs : List (D × D)} {ps : List (Key × V)}, RelK W kvs ps → (∀ d, dlook k kvs = some d → ∃ v, valV ps k' = some v ∧ RelD W d v) ∧ (dlook k kvs = none → valV ps k' = none)
  | [], ps, h => by rw [RelK] at h; subst h; exact ⟨fun d e => (nomatch e), fun _ => rfl⟩
  | (a, b) :: r, ps, h => by
    rw [RelK] at h
    obtain ⟨a', v, ps', rfl, h1, h2, h3⟩ := h
    obtain ⟨ih1, ih2⟩ := dlookK hk h3
    have e := key1_eq h1 hk
    unfold dlook
    by_cases z : a' = k'
    · have e2 : eqK a k = true := by rw [e, decide_eq_true z]
      simp only [e2]
      exact ⟨fun d q => by cases q; exact ⟨v, valV_pos z, h2⟩, fun q => by cases q⟩
    · have e2 : eqK a k = false := by rw [e, decide_eq_false z]
      simp only [e2]
      rw [valV_neg z]
      exact ⟨ih1, ih2⟩
theorem dlookT {W : Wl} {k : D} {k' : List Key} (hk : D.tkey k = some k') : ∀ {kvs : List (D × D)} {ps : List (List Key × V)}, RelT W kvs ps → (∀ d, dlook k kvs = some d → ∃ v, valV ps k' = some v ∧ RelD W d v) ∧ (dlook k kvs = none → valV ps k' = none)
  | [], ps, h => by rw [RelT] at h; subst h; exact ⟨fun d e => (nomatch e), fun _ => rfl⟩
  | (a, b) :: r, ps, h => by
    rw [RelT] at h
    obtain ⟨a', v, ps', rfl, h1, h2, h3⟩ := h
    obtain ⟨ih1, ih2⟩ := dlookT hk h3
    have e : eqK a k = decide (a' = k') := by
      cases a with
      | tup l =>
        cases k with
        | tup m => exact keyT_eq h1 hk
        | _ => cases hk
      | _ => cases h1
    unfold dlook
    by_cases z : a' = k'
    · have e2 : eqK a k = true := by rw [e, decide_eq_true z]
      simp only [e2]
      exact ⟨fun d q => by cases q; exact ⟨v, valV_pos z, h2⟩, fun q => by cases q⟩
    · have e2 : eqK a k = false := by rw [e, decide_eq_false z]
      simp only [e2]
      rw [valV_neg z]
      exact ⟨ih1, ih2⟩
theorem key_rel {W : Wl} {k : D} {k' : Key} {v : V} (hk : D.key k = some k') (r : RelD W k v) : v = kV k' := by
  cases k with
  | int i => cases hk; exact relInt r
  | str i => cases hk; exact relStr r
  | _ => cases hk
theorem keys_rel {W : Wl} : ∀ {l : List D} {ks : List Key} {vs : List V}, keysOf l = some ks → RelDs W l vs → vs = ks.map kV
  | [], ks, vs, h, r => by cases h; rw [RelDs] at r; subst r; rfl
  | x :: xs, ks, vs, h, r => by
    obtain ⟨k, ks', rfl, h1, h2⟩ := keysOf_cons h
    rw [RelDs] at r
    obtain ⟨v, vs', rfl, r1, r2⟩ := r
    rw [key_rel h1 r1, keys_rel h2 r2]; rfl
theorem isKey_key {k : D} (h : isKey false k = true) : ∃ k', D.key k = some k' := by
  cases k with
  | int i => exact ⟨_, rfl⟩
  | str i => exact ⟨_, rfl⟩
  | _ => cases h
theorem isKey_keys : ∀ {l : List D}, isKey true (.tup l) = true → ∃ k', keysOf l = some k'
  | [], _ => ⟨[], rfl⟩
  | x :: xs, h => by
    simp only [isKey, List.all_cons, Bool.and_eq_true] at h
    obtain ⟨ks, e⟩ := isKey_keys (l := xs) h.2
    cases x with
    | int i => exact ⟨.inl i :: ks, by simp only [keysOf, D.key, e]⟩
    | str i => exact ⟨.inr i :: ks, by simp only [keysOf, D.key, e]⟩
    | _ => exact absurd h.1 (by simp)
theorem isKey_tkey {k : D} (h : isKey true k = true) : ∃ k', D.tkey k = some k' := by
  cases k with
  | tup l => exact isKey_keys h
  | _ => cases h
/-- what a dict's cell tells of a key -/
theorem dget_of {K : PySem.W.Frag} {W : Wl} {r : Nat} {t : Bool} {kvs : List (D × D)} {k : D} {v : V} (o : W.Ok K N.toNames) (h : W.η.get r = some (.dct t kvs)) (hk : isKey t k = true) (rk : RelD W k v) :
    (∀ d, dlook k kvs = some d → ∃ w, DGet W.H (W.μ r) v (some w) ∧ RelD W d w) ∧ (dlook k kvs = none → DGet W.H (W.μ r) v none) := by
  have c := o.cell r _ h
  cases t with
  | false =>
    obtain ⟨ps, h1, h2, h3⟩ := c
    obtain ⟨k', hk'⟩ := isKey_key hk
    obtain ⟨a, b⟩ := dlookK hk' h2
    have ev := key_rel hk' rk
    subst ev
    exact ⟨fun d e => by obtain ⟨w, e1, e2⟩ := a d e; exact ⟨w, .inl ⟨ps, k', .inl h1, rfl, e1.symm⟩, e2⟩, fun e => .inl ⟨ps, k', .inl h1, rfl, (b e).symm⟩⟩
  | true =>
    obtain ⟨ps, h1, h2, h3⟩ := c
    obtain ⟨k', hk'⟩ := isKey_tkey hk
    obtain ⟨a, b⟩ := dlookT hk' h2
    cases k with
    | tup l =>
      obtain ⟨q, vs, rfl, hq, rq⟩ := relTup rk
      have ev := keys_rel hk' rq
      subst ev
      exact ⟨fun d e => by obtain ⟨w, e1, e2⟩ := a d e; exact ⟨w, .inr ⟨ps, k', q, .inl h1, rfl, hq, e1.symm⟩, e2⟩, fun e => .inr ⟨ps, k', q, .inl h1, rfl, hq, (b e).symm⟩⟩
    | _ => cases hk
/-- o[i] -/
def fIx : F2 := fun x y η => match x, y with
  | .tup l, .int i => match atD l i with
    | some d => some (d, η)
    | none => none
  | .ref r, k => match η.get r with
    | some (.lst l) => match k with
      | .int i => match atD l i with
        | some d => some (d, η)
        | none => none
      | _ => none
    | some (.frz l) => match k with
      | .int i => match atD l i with
        | some d => some (d, η)
        | none => none
      | _ => none
    | some (.dct t kvs) => match isKey t k with
      | true => match dlook k kvs with
        | some d => some (d, η)
        | none => none
      | false => none
    | _ => none
  | _, _ => none
theorem ix_dict (hu : X.A.units + 1 < cLine) : IxR X (fun x y H Q => ∃ a v, x = .ref a ∧ DGet H a y (some v) ∧ Q v H) := by
  intro value slice pins s σ H x y v u Q I rx ry h hs
  obtain ⟨a, w, rfl, g, q⟩ := h
  obtain rfl : v = Value.ref a := rx
  have ht := dict_typeIs I g
  exact PyProof.Rows.tail_any ht PySem.F.slot_dict_getitem.lookup (d_getItem hu I g ry fun w' s3 I3 rw' => ⟨w, H, I3, rw', q⟩) hs
theorem IxR.or {r r' : R2} (h : IxR X r) (h' : IxR X r') : IxR X (fun x y H Q => r x y H Q ∨ r' x y H Q) := by
  intro value slice pins s σ H x y v u Q I rx ry hh hs
  rcases hh with hh | hh
  · exact h value slice pins s σ H x y v u Q I rx ry hh hs
  · exact h' value slice pins s σ H x y v u Q I rx ry hh hs
theorem fIx_ok {K : PySem.W.Frag} {x y : V} {H : Hp} {Q : VK} (q : r2 K N fIx x y H Q) : (rIxL K x y H Q ∨ rIxT K x y H Q) ∨ ∃ a v, x = .ref a ∧ DGet H a y (some v) ∧ Q v H := by
  obtain ⟨W, dx, dy, d, η', rfl, o, rx, ry, hf, hq⟩ := q
  have lcase : ∀ {r : Nat} {l : List D} {k : D}, W.η.list r = some l → RelD W (.ref r) x → RelD W k y → (match k with | .int i => (match atD l i with | some d => some (d, W.η) | none => none) | _ => none) = some (d, η') → rIxL K x y W.H Q := by
    intro r l k hl rx ry hf
    cases k with
    | int i =>
      simp only at hf
      cases e : atD l i with
      | none => rw [e] at hf; cases hf
      | some d' =>
        rw [e] at hf
        simp only [Option.some.injEq, Prod.mk.injEq] at hf
        obtain ⟨rfl, rfl⟩ := hf
        obtain ⟨vs, h1, h2, h3⟩ := list_of o hl
        obtain ⟨v, e1, e2⟩ := atD_atI h2 e
        rw [relRef rx, relInt ry]
        exact ⟨_, vs, i, v, rfl, rfl, h1, e1, same_w o hq e2⟩
    | _ => cases hf
  cases dx with
  | tup l =>
    cases dy with
    | int i =>
      simp only [fIx] at hf
      cases e : atD l i with
      | none => rw [e] at hf; cases hf
      | some d' =>
        rw [e] at hf
        simp only [Option.some.injEq, Prod.mk.injEq] at hf
        obtain ⟨rfl, rfl⟩ := hf
        obtain ⟨p, vs, rfl, hs, rs⟩ := relTup rx
        obtain ⟨v, e1, e2⟩ := atD_atI rs e
        rw [relInt ry]
        exact .inl (.inr ⟨p, vs, i, v, rfl, rfl, SqT.of hs, e1, same_w o hq e2⟩)
    | _ => cases hf
  | ref r =>
    simp only [fIx] at hf
    cases e : W.η.get r with
    | none => rw [e] at hf; cases hf
    | some c =>
      rw [e] at hf
      cases c with
      | lst l => exact .inl (.inl (lcase (r := r) (l := l) (k := dy) (by unfold Hd.list; rw [e]) rx ry hf))
      | frz l => exact .inl (.inl (lcase (r := r) (l := l) (k := dy) (by unfold Hd.list; rw [e]) rx ry hf))
      | dct t kvs =>
        simp only at hf
        cases ek : isKey t dy with
        | false => rw [ek] at hf; cases hf
        | true =>
          rw [ek] at hf
          simp only at hf
          cases el : dlook dy kvs with
          | none => rw [el] at hf; cases hf
          | some d' =>
            rw [el] at hf
            simp only [Option.some.injEq, Prod.mk.injEq] at hf
            obtain ⟨rfl, rfl⟩ := hf
            obtain ⟨w, g, rw'⟩ := (dget_of o e ek ry).1 _ el
            rw [relRef rx]
            exact .inr ⟨_, w, rfl, g, same_w o hq rw'⟩
      | _ => cases hf
  | _ => cases hf
theorem je_ix {a b : Expr} {ca cb : CE} {pos : Pos} (hu : X.A.units + 1 < cLine) (ha : JE X N E a ca) (hb : JE X N E b cb) (hs : PlainIx b) : JE X N E (.Subscript a b pos) (cOp fIx ca cb) :=
  PE.imp (pe_ix (IxR.or (IxR.or ix_list ix_tup) (ix_dict hu)) ha hb hs) fun σ H Q q => by
    have h := tOp_of q
    obtain ⟨W, σd, kv, kx, e1, o, s, h1, hv, hx⟩ := h
    exact ⟨W, σd, kv, kx, e1, o, s, h1, fun W1 d v x1 o1 r1 h2 => by
      obtain ⟨W', σd', kv', kx', e1', o', s', h1', hv', hx'⟩ := hv W1 d v x1 o1 r1 h2
      exact ⟨W', σd', kv', kx', e1', o', s', h1', fun W2 d2 v2 x2 o2 r2 h3 => fIx_ok (hv' W2 d2 v2 x2 o2 r2 h3), hx'⟩, hx⟩
end
end DL

/-! slices, built-ins, methods -/
namespace DL
open PySem PySem.Spec L2
section
variable {X : Cx} {N : Nm} {E : XK}
/-! ### slices -/
abbrev CO := SD → Hd → (Option Int → Hd → Bool) → KX → Bool
def tO (K : PySem.W.Frag) (N : Nm) (E : XK) (c : CO) : TO := fun σ H Q => ∃ W σd kv kx, W.H = H ∧ W.Ok K N.toNames ∧ RelS W σd σ ∧ c σd W.η kv kx = true ∧ (∀ W' b, Ext W W' → W'.Ok K N.toNames → kv b W'.η = true → Q b W'.H) ∧ Xk K N E W kx
def JO (X : Cx) (N : Nm) (E : XK) (e : Option Expr) (c : CO) : Prop := PO X e (tO X.K N E c)
theorem PO.imp {X : Cx} {e : Option Expr} {t t' : TO} (h : PO X e t) (f : ∀ σ H Q, t' σ H Q → t σ H Q) : PO X e t' := ⟨fun pins s σ H Q I q => h.run pins s σ H Q I (f σ H Q q)⟩
def coN : CO := fun _ η k _ => k none η
def coS (c : CE) : CO := fun σ η k kx => c σ η (fun x η1 => match x with
  | .int i => k (some i) η1
  | _ => false) kx
theorem jo_none : JO X N E none coN := PO.imp po_none fun σ H Q q => by
  obtain ⟨W, σd, kv, kx, rfl, o, s, h, hv, hx⟩ := q
  exact hv W none (Ext.refl W) o h
theorem jo_some {e : Expr} {c : CE} (h : JE X N E e c) : JO X N E (some e) (coS c) := PO.imp (po_some h) fun σ H Q q => by
  obtain ⟨W, σd, kv, kx, rfl, o, s, h, hv, hx⟩ := q
  refine tE.bind o s hx h fun W1 d v x1 o1 r1 s1 hx1 h1 => ?_
  cases d with
  | int i => rw [relInt r1]; exact ⟨i, rfl, hv W1 (some i) x1 o1 h1⟩
  | _ => cases h1
theorem tO.bind {K : PySem.W.Frag} {W : Wl} {kx : KX} {c : CO} {kt : Option Int → Hd → Bool} {σ : St} {σd : SD} {Q' : Option Int → Hp → Prop} (o : W.Ok K N.toNames) (s : RelS W σd σ) (hx : Xk K N E W kx) (h : c σd W.η kt kx = true)
    (hq : ∀ W' b, Ext W W' → W'.Ok K N.toNames → RelS W' σd σ → Xk K N E W' kx → kt b W'.η = true → Q' b W'.H) : tO K N E c σ W.H Q' :=
  ⟨W, σd, kt, kx, rfl, o, s, h, fun W' b x o' e => hq W' b x o' (s.mono o x) (hx.mono o o' x) e, hx⟩
def cutD (xs : List D) (lo hi : Option Int) : List D := (xs.drop (HT.sIx xs.length 0 lo)).take (HT.sIx xs.length xs.length hi - HT.sIx xs.length 0 lo)
theorem cutD_rel {W : Wl} {xs : List D} {vs : List V} (r : RelDs W xs vs) (lo hi : Option Int) : RelDs W (cutD xs lo hi) (cutV vs lo hi) := by
  unfold cutD cutV
  rw [r.length]
  exact (r.drop _).take _
theorem cutD_len (xs : List D) (lo hi : Option Int) : (cutD xs lo hi).length ≤ xs.length := by
  unfold cutD
  rw [List.length_take, List.length_drop]; omega
def slF (η : Hd) (x : D) (lo hi : Option Int) : Option (D × Hd) := match x with
  | .tup l => some (.tup (cutD l lo hi), η)
  | .ref r => match η.list r with
    | some l => some (.ref η.nx, η.new (.lst (cutD l lo hi)))
    | none => none
  | _ => none
def cSl (a : CE) (lo hi : CO) : CE := fun σ η kv kx => a σ η (fun x η1 => lo σ η1 (fun l η2 => hi σ η2 (fun h η3 => match slF η3 x l h with
  | some (d, η4) => kv d η4
  | none => false) kx) kx) kx
theorem SlR.or {r r' : V → Option Int → Option Int → Hp → VK → Prop} (h : SlR X r) (h' : SlR X r') : SlR X (fun x l u H Q => r x l u H Q ∨ r' x l u H Q) := by
  intro pins s σ H x v vl vu lo hi sl Q I rx hs p1 p2 hh
  rcases hh with hh | hh
  · exact h pins s σ H x v vl vu lo hi sl Q I rx hs p1 p2 hh
  · exact h' pins s σ H x v vl vu lo hi sl Q I rx hs p1 p2 hh
theorem je_slice {a : Expr} {lo hi : Option Expr} {ca : CE} {cl ch : CO} {pos p2 : Pos} (ha : JE X N E a ca) (hl : JO X N E lo cl) (hh : JO X N E hi ch) : JE X N E (.Subscript a (.Slice lo hi none p2) pos) (cSl ca cl ch) :=
  PE.imp (pe_slice (SlR.or sl_list sl_tupA) ha hl hh) fun σ H Q q => by
    obtain ⟨W, σd, kv, kx, rfl, o, s, h, hv, hx⟩ := q
    refine tE.bind o s hx h fun W1 d v x1 o1 r1 s1 hx1 h1 => ?_
    refine tO.bind o1 s1 hx1 h1 fun W2 l x2 o2 s2 hx2 h2 => ?_
    refine tO.bind o2 s2 hx2 h2 fun W3 u x3 o3 s3 hx3 h3 => ?_
    have r3 : RelD W3 d v := (r1.mono o1 x2).mono o2 x3
    have x03 := x1.trans o o1 (x2.trans o1 o2 x3)
    have hv3 := hv.mono o o3 x03
    cases e : slF W3.η d l u with
    | none => rw [e] at h3; cases h3
    | some p =>
      obtain ⟨d', η'⟩ := p
      rw [e] at h3
      cases d with
      | tup xs =>
        simp only [slF, Option.some.injEq, Prod.mk.injEq] at e
        obtain ⟨rfl, rfl⟩ := e
        obtain ⟨p, vs, rfl, hs, rs⟩ := relTup r3
        refine .inr ⟨p, vs, rfl, SqT.of hs, fun hc => ?_, fun _ p hp => Vk.tup (W0 := W) o3 hv3 h3 hp (cutD_rel rs l u)⟩
        have e1 : cutD xs l u = xs := by
          unfold cutD
          rw [rs.length, hc.1, hc.2, List.drop_zero]
          exact List.take_of_length_le (by rw [rs.length]; exact Nat.le_refl _)
        rw [e1] at h3
        exact hv3.here o3 (mkTup hs rs) h3
      | ref r =>
        simp only [slF] at e
        cases el : W3.η.list r with
        | none => rw [el] at e; cases e
        | some xs =>
          rw [el] at e
          simp only [Option.some.injEq, Prod.mk.injEq] at e
          obtain ⟨rfl, rfl⟩ := e
          obtain ⟨vs, g1, g2, g3⟩ := list_of o3 el
          rw [relRef r3]
          exact .inl ⟨_, vs, rfl, g1, fun p hp => Vk.lst o3 hv3 h3 hp (cutD_rel g2 l u) (Nat.le_trans (cutD_len xs l u) g3)⟩
      | _ => cases e

/-! ### built-ins by values -/
abbrev FN := List D → Hd → Option (D × Hd)
def rN (K : PySem.W.Frag) (N : Nm) (f : FN) : List V → Hp → VK → Prop := fun xs H Q => ∃ W ds d η', W.H = H ∧ W.Ok K N.toNames ∧ RelDs W ds xs ∧ f ds W.η = some (d, η') ∧
  (∀ W' v, Ext W W' → W'.Ok K N.toNames → W'.η = η' → RelD W' d v → Q v W'.H)
def cFn (f : FN) (a : CA) : CE := fun σ η kv kx => a σ η (fun ds η1 => match f ds η1 with
  | some (d, η2) => kv d η2
  | none => false) kx
theorem CallR.imp {f : Value} {r r' : List V → Hp → VK → Prop} (h : CallR X f r) (i : ∀ x H Q, r' x H Q → r x H Q) : CallR X f r' :=
  fun pins s σ H x v Q I rx q => h pins s σ H x v Q I rx (i x H Q q)
theorem CallR.or {f : Value} {r r' : List V → Hp → VK → Prop} (h : CallR X f r) (h' : CallR X f r') : CallR X f (fun x H Q => r x H Q ∨ r' x H Q) :=
  fun pins s σ H x v Q I rx q => q.elim (h pins s σ H x v Q I rx) (h' pins s σ H x v Q I rx)
theorem tCB_of {f : FN} {c : CA} {K : PySem.W.Frag} {σ : St} {H : Hp} {Q : VK} (h : tE K N E (cFn f c) σ H Q) : tCB (rN K N f) (tAr K N E c) σ H Q := by
  obtain ⟨W, σd, kv, kx, rfl, o, s, h, hv, hx⟩ := h
  refine tAr.bind o s hx h fun W1 ds vs x1 o1 r1 s1 hx1 h1 => ?_
  cases e : f ds W1.η with
  | none => rw [e] at h1; cases h1
  | some p =>
    obtain ⟨d, η'⟩ := p
    rw [e] at h1
    exact ⟨W1, ds, d, η', rfl, o1, r1, e, fun W' v x3 o3 e3 r3 => hv W' d v (x1.trans o o1 x3) o3 r3 (by rw [e3]; exact h1)⟩
theorem je_blt {x : Str} {id : String} {f : FN} {e : Expr} {es : List Expr} {c : CA} {p pos : Pos} (hc : CallR X (.builtin id) (rN X.K N f)) (hg : Gl X x) (hm : X.mg x = none) (hv : bootBuiltins x = some (.builtin id)) (ha : JA X N E (e :: es) c)
    (hn : x ≠ "__name__" := by decide) (hdb : (x == ("__debug__" : Str)) = false := by decide) (hs : starEach (e :: es) X.env = (false, eval e X.env) :: starEach es X.env := by rfl)
    (hpl : (backTo pos (starEach es X.env)).any (·.1) = false := by rfl) : JE X N E (.Call (.Name x p) (e :: es) [] pos) (cFn f c) :=
  PE.imp (pe_callB hc hg hm hv ha hn hdb hs hpl) fun σ H Q q => tCB_of q
theorem je_ty {x : Str} {T : String} {f : FN} {e : Expr} {es : List Expr} {c : CA} {p pos : Pos} (hc : CallR X (.type T) (rN X.K N f)) (hg : Gl X x) (hm : X.mg x = none) (hv : bootBuiltins x = some (.type T)) (ha : JA X N E (e :: es) c)
    (hn : x ≠ "__name__" := by decide) (hdb : (x == ("__debug__" : Str)) = false := by decide) (hs : starEach (e :: es) X.env = (false, eval e X.env) :: starEach es X.env := by rfl)
    (hpl : (backTo pos (starEach es X.env)).any (·.1) = false := by rfl) : JE X N E (.Call (.Name x p) (e :: es) [] pos) (cFn f c) :=
  PE.imp (pe_callTy hc hg hm hv ha hn hdb hs hpl) fun σ H Q q => tCB_of q
theorem rel1 {W : Wl} {d : D} {vs : List V} (h : RelDs W [d] vs) : ∃ v, vs = [v] ∧ RelD W d v := by
  rw [RelDs] at h
  obtain ⟨v, vs', rfl, h1, h2⟩ := h
  rw [RelDs] at h2
  subst h2
  exact ⟨v, rfl, h1⟩
theorem rel2 {W : Wl} {d e : D} {vs : List V} (h : RelDs W [d, e] vs) : ∃ v u, vs = [v, u] ∧ RelD W d v ∧ RelD W e u := by
  rw [RelDs] at h
  obtain ⟨v, vs', rfl, h1, h2⟩ := h
  obtain ⟨u, rfl, h3⟩ := rel1 h2
  exact ⟨v, u, rfl, h1, h3⟩
/-- f(one thing) -/
def f1 (g : D → Hd → Option (D × Hd)) : FN := fun ds η => match ds with
  | [d] => g d η
  | _ => none
theorem f1_inv {g : D → Hd → Option (D × Hd)} {ds : List D} {η : Hd} {p : D × Hd} (h : f1 g ds η = some p) : ∃ d, ds = [d] ∧ g d η = some p := by
  match ds, h with
  | [d], h => exact ⟨d, rfl, h⟩
  | [], h => cases h
  | _ :: _ :: _, h => cases h
def gLen (d : D) (η : Hd) : Option (D × Hd) := match d with
  | .tup l => some (.int (Int.ofNat l.length), η)
  | .ref r => match η.get r with
    | some (.lst l) => some (.int (Int.ofNat l.length), η)
    | some (.frz l) => some (.int (Int.ofNat l.length), η)
    | _ => none
  | .str z => match Nat.ble z.length line with
    | true => some (.int (Int.ofNat z.length), η)
    | false => none
  | _ => none
def fLen : FN := f1 gLen
theorem blt_len : CallR X (.builtin "len") (rN X.K N fLen) := CallR.imp (CallR.or call_len_seq call_len_str) fun xs H Q q => by
  obtain ⟨W, ds, d, η', rfl, o, rs, hf, hq⟩ := q
  obtain ⟨x, rfl, hg⟩ := f1_inv hf
  clear hf
  have hf := hg
  clear hg
  obtain ⟨v, rfl, rx⟩ := rel1 rs
  cases x with
  | tup l =>
    simp only [gLen, Option.some.injEq, Prod.mk.injEq] at hf
    obtain ⟨rfl, rfl⟩ := hf
    obtain ⟨p, vs, rfl, hs, rs⟩ := relTup rx
    refine .inl ⟨p, vs, rfl, .inr (SqT.of hs), ?_⟩
    rw [← rs.length]; exact same_w o hq mkInt
  | ref r =>
    simp only [gLen] at hf
    cases e : W.η.get r with
    | none => rw [e] at hf; cases hf
    | some c =>
      rw [e] at hf
      have go : ∀ {l : List D}, W.η.list r = some l → some (D.int (Int.ofNat l.length), W.η) = some (d, η') → (∃ p ys, [v] = [V.ref p] ∧ (SqL X.K W.H p ys ∨ SqT X.K W.H p ys) ∧ Q (.int ys.length) W.H) ∨ (∃ z, [v] = [V.str z] ∧ z.length ≤ sizeLine ∧ Q (.int z.length) W.H) := fun {l} hl hf => by
        simp only [Option.some.injEq, Prod.mk.injEq] at hf
        obtain ⟨rfl, rfl⟩ := hf
        obtain ⟨vs, g1, g2, g3⟩ := list_of o hl
        rw [relRef rx]
        refine .inl ⟨_, vs, rfl, .inl g1, ?_⟩
        rw [← g2.length]; exact same_w o hq mkInt
      cases c with
      | lst l => exact go (by unfold Hd.list; rw [e]) hf
      | frz l => exact go (by unfold Hd.list; rw [e]) hf
      | _ => cases hf
  | str z =>
    simp only [gLen] at hf
    cases e : Nat.ble z.length line with
    | false => rw [e] at hf; cases hf
    | true =>
      rw [e] at hf
      simp only [Option.some.injEq, Prod.mk.injEq] at hf
      obtain ⟨rfl, rfl⟩ := hf
      rw [relStr rx]
      exact .inr ⟨z, rfl, Nat.le_of_ble_eq_true e, same_w o hq mkInt⟩
  | _ => cases hf
def gAbs (d : D) (η : Hd) : Option (D × Hd) := match d with
  | .int i => some (.int (if i < 0 then -i else i), η)
  | _ => none
theorem blt_abs : CallR X (.builtin "abs") (rN X.K N (f1 gAbs)) := CallR.imp call_abs fun xs H Q q => by
  obtain ⟨W, ds, d, η', rfl, o, rs, hf, hq⟩ := q
  obtain ⟨x, rfl, hg⟩ := f1_inv hf
  clear hf
  have hf := hg
  clear hg
  obtain ⟨v, rfl, rx⟩ := rel1 rs
  cases x with
  | int i =>
    simp only [gAbs, Option.some.injEq, Prod.mk.injEq] at hf
    obtain ⟨rfl, rfl⟩ := hf
    rw [relInt rx]
    exact ⟨i, rfl, same_w o hq mkInt⟩
  | _ => cases hf
def gInt (d : D) (η : Hd) : Option (D × Hd) := match d with
  | .int i => some (.int i, η)
  | .bl true => some (.int 1, η)
  | .bl false => some (.int 0, η)
  | _ => none
theorem ty_int : CallR X (.type "int") (rN X.K N (f1 gInt)) := CallR.imp call_int1 fun xs H Q q => by
  obtain ⟨W, ds, d, η', rfl, o, rs, hf, hq⟩ := q
  obtain ⟨x, rfl, hg⟩ := f1_inv hf
  clear hf
  have hf := hg
  clear hg
  obtain ⟨v, rfl, rx⟩ := rel1 rs
  cases x with
  | int i =>
    simp only [gInt, Option.some.injEq, Prod.mk.injEq] at hf
    obtain ⟨rfl, rfl⟩ := hf
    rw [relInt rx]
    exact .inl ⟨i, rfl, same_w o hq mkInt⟩
  | bl b =>
    rw [relBl rx]
    cases b with
    | true =>
      simp only [gInt, Option.some.injEq, Prod.mk.injEq] at hf
      obtain ⟨rfl, rfl⟩ := hf
      exact .inr ⟨true, rfl, same_w o hq mkInt⟩
    | false =>
      simp only [gInt, Option.some.injEq, Prod.mk.injEq] at hf
      obtain ⟨rfl, rfl⟩ := hf
      exact .inr ⟨false, rfl, same_w o hq mkInt⟩
  | _ => cases hf
/-- tuple(x), list(x) of a list, a tuple -/
def gTuple (d : D) (η : Hd) : Option (D × Hd) := match d with
  | .tup l => some (.tup l, η)
  | .ref r => match η.list r with
    | some l => some (.tup l, η)
    | none => none
  | _ => none
theorem ty_tuple : CallR X (.type "tuple") (rN X.K N (f1 gTuple)) := CallR.imp call_tuple_of fun xs H Q q => by
  obtain ⟨W, ds, d, η', rfl, o, rs, hf, hq⟩ := q
  obtain ⟨x, rfl, hg⟩ := f1_inv hf
  clear hf
  have hf := hg
  clear hg
  obtain ⟨v, rfl, rx⟩ := rel1 rs
  cases x with
  | tup l =>
    simp only [gTuple, Option.some.injEq, Prod.mk.injEq] at hf
    obtain ⟨rfl, rfl⟩ := hf
    obtain ⟨p, vs, rfl, hs, rs⟩ := relTup rx
    exact ⟨p, vs, rfl, .inr ⟨SqT.of hs, same_w o hq (mkTup hs rs)⟩⟩
  | ref r =>
    simp only [gTuple] at hf
    cases e : W.η.list r with
    | none => rw [e] at hf; cases hf
    | some l =>
      rw [e] at hf
      simp only [Option.some.injEq, Prod.mk.injEq] at hf
      obtain ⟨rfl, rfl⟩ := hf
      obtain ⟨vs, g1, g2, g3⟩ := list_of o e
      rw [relRef rx]
      exact ⟨_, vs, rfl, .inl ⟨g1, fun p hp => new_tup o hq hp g2⟩⟩
  | _ => cases hf
def gList (d : D) (η : Hd) : Option (D × Hd) := match d with
  | .tup l => match Nat.ble l.length line with
    | true => some (.ref η.nx, η.new (.lst l))
    | false => none
  | .ref r => match η.list r with
    | some l => some (.ref η.nx, η.new (.lst l))
    | none => none
  | _ => none
theorem ty_list : CallR X (.type "list") (rN X.K N (f1 gList)) := CallR.imp call_list_of fun xs H Q q => by
  obtain ⟨W, ds, d, η', rfl, o, rs, hf, hq⟩ := q
  obtain ⟨x, rfl, hg⟩ := f1_inv hf
  clear hf
  have hf := hg
  clear hg
  obtain ⟨v, rfl, rx⟩ := rel1 rs
  cases x with
  | tup l =>
    simp only [gList] at hf
    cases e : Nat.ble l.length line with
    | false => rw [e] at hf; cases hf
    | true =>
      rw [e] at hf
      simp only [Option.some.injEq, Prod.mk.injEq] at hf
      obtain ⟨rfl, rfl⟩ := hf
      obtain ⟨p, vs, rfl, hs, rs⟩ := relTup rx
      exact ⟨p, vs, rfl, .inr (SqT.of hs), fun p hp => new_lst o hq hp rs (Nat.le_of_ble_eq_true e)⟩
  | ref r =>
    simp only [gList] at hf
    cases e : W.η.list r with
    | none => rw [e] at hf; cases hf
    | some l =>
      rw [e] at hf
      simp only [Option.some.injEq, Prod.mk.injEq] at hf
      obtain ⟨rfl, rfl⟩ := hf
      obtain ⟨vs, g1, g2, g3⟩ := list_of o e
      rw [relRef rx]
      exact ⟨_, vs, rfl, .inl g1, fun p hp => new_lst o hq hp g2 g3⟩
  | _ => cases hf

/-! ### methods of lists -/
abbrev FM := D → List D → Hd → Option (D × Hd)
def rM (K : PySem.W.Frag) (N : Nm) (f : FM) : V → List V → Hp → VK → Prop := fun x xs H Q => ∃ W dx ds d η', W.H = H ∧ W.Ok K N.toNames ∧ RelD W dx x ∧ RelDs W ds xs ∧ f dx ds W.η = some (d, η') ∧
  (∀ W' v, Ext W W' → W'.Ok K N.toNames → W'.η = η' → RelD W' d v → Q v W'.H)
def isL (η : Hd) : D → Bool
  | .ref r => (η.list r).isSome
  | _ => false
def cMt (f : FM) (o : CE) (a : CA) : CE := fun σ η kv kx => o σ η (fun x η1 => match isL η1 x with
  | true => a σ η1 (fun ds η2 => match f x ds η2 with
    | some (d, η3) => kv d η3
    | none => false) kx
  | false => false) kx
theorem MtR.imp {id : String} {r r' : V → List V → Hp → VK → Prop} (h : MtR X id r) (i : ∀ x xs H Q, r' x xs H Q → r x xs H Q) : MtR X id r' :=
  fun pins s σ H x xs v us Q I rx rxs q => h pins s σ H x xs v us Q I rx rxs (i x xs H Q q)
theorem isL_ty {K : PySem.W.Frag} {W : Wl} {d : D} {v : V} (o : W.Ok K N.toNames) (r : RelD W d v) (h : isL W.η d = true) : tyV K "list" v W.H := by
  cases d with
  | ref q =>
    simp only [isL] at h
    obtain ⟨l, e⟩ := Option.isSome_iff_exists.mp h
    obtain ⟨vs, g1, g2, g3⟩ := list_of o e
    rw [relRef r]
    exact .inl ⟨rfl, vs, g1⟩
  | _ => cases h
theorem tBM_of {f : FM} {co : CE} {c : CA} {K : PySem.W.Frag} {σ : St} {H : Hp} {Q : VK} (h : tE K N E (cMt f co c) σ H Q) : tBM K "list" (rM K N f) (tE K N E co) (tAr K N E c) σ H Q := by
  obtain ⟨W, σd, kv, kx, rfl, o, s, h, hv, hx⟩ := h
  refine tE.bind o s hx h fun W1 d v x1 o1 r1 s1 hx1 h1 => ?_
  cases el : isL W1.η d with
  | false => rw [el] at h1; cases h1
  | true =>
    rw [el] at h1
    refine ⟨isL_ty o1 r1 el, ?_⟩
    refine tAr.bind o1 s1 hx1 h1 fun W2 ds vs x2 o2 r2 s2 hx2 h2 => ?_
    cases e : f d ds W2.η with
    | none => rw [e] at h2; cases h2
    | some p =>
      obtain ⟨d', η'⟩ := p
      rw [e] at h2
      exact ⟨W2, d, ds, d', η', rfl, o2, r1.mono o1 x2, r2, e, fun W' v x3 o3 e3 r3 => hv W' d' v ((x1.trans o o1 x2).trans o o2 x3) o3 r3 (by rw [e3]; exact h2)⟩
/-- a list's cell changed -/
theorem put_lst {K : PySem.W.Frag} {W : Wl} {Q : VK} {r : Nat} {l l' : List D} {vs' : List V} {d : D} {v : V} (o : W.Ok K N.toNames) (e : W.η.get r = some (.lst l))
    (q : ∀ W' v, Ext W W' → W'.Ok K N.toNames → W'.η = W.η.set r (.lst l') → RelD W' d v → Q v W'.H) (rl : RelDs W l' vs') (hl : l'.length ≤ sizeLine) (rd : RelD W d v) : Q v (upd W.H (W.μ r) (.lst vs')) := by
  obtain ⟨x, o'⟩ := o.put (c := .lst l') (ob := .lst vs') e rfl (fun x => ⟨vs', upd_same, rl.mono o x, hl⟩)
  exact q (W.put r (.lst l') (.lst vs')) v x o' rfl (rd.mono o x)
def fAppend : FM := fun x ds η => match x, ds with
  | .ref r, [d] => match η.get r with
    | some (.lst l) => match Nat.blt l.length line with
      | true => some (.non, η.set r (.lst (l ++ [d])))
      | false => none
    | _ => none
  | _, _ => none
theorem mtd_append : MtR X "list.append" (rM X.K N fAppend) := MtR.imp mt_append fun x xs H Q q => by
  obtain ⟨W, dx, ds, d, η', rfl, o, rx, rs, hf, hq⟩ := q
  cases dx with
  | ref r =>
    match ds, rs, hf with
    | [y], rs, hf =>
      obtain ⟨v, rfl, ry⟩ := rel1 rs
      simp only [fAppend] at hf
      cases e : W.η.get r with
      | none => rw [e] at hf; cases hf
      | some c =>
        rw [e] at hf
        cases c with
        | lst l =>
          simp only at hf
          cases eb : Nat.blt l.length line with
          | false => rw [eb] at hf; cases hf
          | true =>
            rw [eb] at hf
            simp only [Option.some.injEq, Prod.mk.injEq] at hf
            obtain ⟨rfl, rfl⟩ := hf
            obtain ⟨vs, g1, g2, g3⟩ := o.cell r _ e
            have hb : l.length < sizeLine := Nat.le_of_ble_eq_true eb
            rw [relRef rx]
            refine ⟨_, vs, v, rfl, rfl, g1, by rw [← g2.length]; exact hb, ?_⟩
            exact put_lst o e hq (g2.append (.cons ry .nil)) (by rw [List.length_append]; show l.length + 1 ≤ sizeLine; omega) mkNon
        | _ => cases hf
    | [], rs, hf => cases hf
    | _ :: _ :: _, rs, hf => cases hf
  | _ => cases hf
def fPop : FM := fun x ds η => match x, ds with
  | .ref r, [] => match η.get r with
    | some (.lst l) => match l[l.length - 1]? with
      | some d => some (d, η.set r (.lst l.dropLast))
      | none => none
    | _ => none
  | _, _ => none
theorem RelDs.dropLast {W : Wl} {ds : List D} {vs : List V} (h : RelDs W ds vs) : RelDs W ds.dropLast vs.dropLast := by
  rw [List.dropLast_eq_take, List.dropLast_eq_take, h.length]; exact h.take _
theorem mtd_pop : MtR X "list.pop" (rM X.K N fPop) := MtR.imp mt_pop fun x xs H Q q => by
  obtain ⟨W, dx, ds, d, η', rfl, o, rx, rs, hf, hq⟩ := q
  cases dx with
  | ref r =>
    match ds, rs, hf with
    | [], rs, hf =>
      rw [RelDs] at rs; subst rs
      simp only [fPop] at hf
      cases e : W.η.get r with
      | none => rw [e] at hf; cases hf
      | some c =>
        rw [e] at hf
        cases c with
        | lst l =>
          simp only at hf
          cases eb : l[l.length - 1]? with
          | none => rw [eb] at hf; cases hf
          | some y =>
            rw [eb] at hf
            simp only [Option.some.injEq, Prod.mk.injEq] at hf
            obtain ⟨rfl, rfl⟩ := hf
            obtain ⟨vs, g1, g2, g3⟩ := o.cell r _ e
            obtain ⟨v, ev, rv⟩ := g2.get' eb
            rw [relRef rx]
            refine ⟨_, vs, v, rfl, rfl, g1, by rw [← g2.length]; exact ev, ?_⟩
            exact put_lst o e hq g2.dropLast (by rw [List.length_dropLast]; omega) rv
        | _ => cases hf
    | _ :: _, rs, hf => cases hf
  | _ => cases hf
def ixD (n : Nat) : Int → Option Nat
  | .ofNat k => match Nat.blt k n with
    | true => some k
    | false => none
  | .negSucc k => match Nat.ble (k + 1) n with
    | true => some (n - (k + 1))
    | false => none
theorem ixD_seq {n : Nat} {i : Int} {k : Nat} (hn : n ≤ sizeLine) (h : ixD n i = some k) : seqIndex? i n = some k ∧ -2 ^ 63 ≤ i ∧ i < 2 ^ 63 ∧ k < n := by
  have hs : sizeLine = 16777216 := rfl
  cases i with
  | ofNat j =>
    simp only [ixD] at h
    cases e : Nat.blt j n with
    | false => rw [e] at h; cases h
    | true =>
      rw [e] at h
      have ek : j = k := Option.some.inj h
      subst ek
      have hb : j < n := Nat.le_of_ble_eq_true e
      have e1 : Int.ofNat j = (j : Int) := rfl
      refine ⟨?_, by rw [e1]; omega, by rw [e1]; omega, hb⟩
      unfold seqIndex?
      rw [e1]
      simp only [show ¬ ((j : Int) < 0) from by omega, if_false]
      rw [if_pos (by simp; omega)]
      simp
  | negSucc j =>
    simp only [ixD] at h
    cases e : Nat.ble (j + 1) n with
    | false => rw [e] at h; cases h
    | true =>
      rw [e] at h; cases h
      have hb : j + 1 ≤ n := Nat.le_of_ble_eq_true e
      have e1 : Int.negSucc j = -((j + 1 : Nat) : Int) := rfl
      refine ⟨?_, by rw [e1]; omega, by rw [e1]; omega, by omega⟩
      unfold seqIndex?
      rw [e1]
      simp only [show (-((j + 1 : Nat) : Int) < 0) from by omega, if_true]
      rw [if_pos (by simp; omega)]
      congr 1; omega
def fPopAt : FM := fun x ds η => match x, ds with
  | .ref r, [.int i] => match η.get r with
    | some (.lst l) => match ixD l.length i with
      | some k => match l[k]? with
        | some d => some (d, η.set r (.lst (l.eraseIdx k)))
        | none => none
      | none => none
    | _ => none
  | _, _ => none
theorem RelDs.erase {W : Wl} : ∀ {ds : List D} {vs : List V} (k : Nat), RelDs W ds vs → RelDs W (ds.eraseIdx k) (vs.eraseIdx k)
  | [], _, _, h => by rw [RelDs] at h; subst h; exact .nil
  | d :: ds, _, 0, h => by
    rw [RelDs] at h
    obtain ⟨v', vs', rfl, h1, h3⟩ := h
    exact h3
  | d :: ds, _, n + 1, h => by
    rw [RelDs] at h
    obtain ⟨v', vs', rfl, h1, h3⟩ := h
    exact RelDs.cons h1 (RelDs.erase n h3)
theorem mtd_popAt : MtR X "list.pop" (rM X.K N fPopAt) := MtR.imp mt_popAt fun x xs H Q q => by
  obtain ⟨W, dx, ds, d, η', rfl, o, rx, rs, hf, hq⟩ := q
  cases dx with
  | ref r =>
    match ds, rs, hf with
    | [.int i], rs, hf =>
      obtain ⟨v, rfl, ry⟩ := rel1 rs
      rw [relInt ry]
      simp only [fPopAt] at hf
      cases e : W.η.get r with
      | none => rw [e] at hf; cases hf
      | some c =>
        rw [e] at hf
        cases c with
        | lst l =>
          simp only at hf
          cases ek : ixD l.length i with
          | none => rw [ek] at hf; cases hf
          | some k =>
            rw [ek] at hf
            simp only at hf
            cases eb : l[k]? with
            | none => rw [eb] at hf; cases hf
            | some y =>
              rw [eb] at hf
              simp only [Option.some.injEq, Prod.mk.injEq] at hf
              obtain ⟨rfl, rfl⟩ := hf
              obtain ⟨vs, g1, g2, g3⟩ := o.cell r _ e
              obtain ⟨w, ev, rv⟩ := g2.get' eb
              obtain ⟨i1, i2, i3, i4⟩ := ixD_seq g3 ek
              rw [relRef rx]
              refine ⟨_, vs, i, k, w, rfl, rfl, g1, i2, i3, by rw [← g2.length]; exact i1, ev, ?_⟩
              exact put_lst o e hq (g2.erase k) (by rw [List.length_eraseIdx]; split <;> omega) rv
        | _ => cases hf
    | [], rs, hf => cases hf
    | [.non], rs, hf => cases hf
    | [.bl _], rs, hf => cases hf
    | [.str _], rs, hf => cases hf
    | [.tup _], rs, hf => cases hf
    | [.ref _], rs, hf => cases hf
    | _ :: _ :: _, rs, hf => simp [fPopAt] at hf
  | _ => cases hf
/-- l.index(x): pure data -/
def idxOf (f : D → Bool) : List D → Nat → Option Nat
  | [], _ => none
  | x :: xs, n => match f x with
    | true => some n
    | false => idxOf f xs (Nat.succ n)
def fIndex : FM := fun x ds η => match x, ds with
  | .ref r, [d] => match η.list r with
    | some l => match pur 8 d, purs 8 l with
      | true, true => match idxOf (fun z => eqn 8 z d) l 0 with
        | some k => some (.int (Int.ofNat k), η)
        | none => none
      | _, _ => none
    | none => none
  | _, _ => none
theorem toPys_map : ∀ l : List D, toPys l = l.map toPy
  | [] => by simp [toPys]
  | x :: xs => by simp [toPys, toPys_map xs]
theorem idxOf_spec {f : D → Bool} : ∀ {l : List D} {n k : Nat}, idxOf f l n = some k → ∃ j, k = n + j ∧ (∃ z, l[j]? = some z ∧ f z = true) ∧ ∀ m z, m < j → l[m]? = some z → f z = false
  | [], n, k, h => by cases h
  | x :: xs, n, k, h => by
    simp only [idxOf] at h
    cases e : f x with
    | true => rw [e] at h; cases h; exact ⟨0, rfl, ⟨x, rfl, e⟩, fun m z hm => absurd hm (by omega)⟩
    | false =>
      rw [e] at h
      obtain ⟨j, h1, ⟨z, h2, h3⟩, h4⟩ := idxOf_spec h
      refine ⟨j + 1, by omega, ⟨z, by simpa using h2, h3⟩, fun m z' hm hz => ?_⟩
      cases m with
      | zero => simp at hz; subst hz; exact e
      | succ m => exact h4 m z' (by omega) (by simpa using hz)
theorem mtd_index (hu : X.A.units + 65 < cLine) : MtR X "list.index" (rM X.K N fIndex) := MtR.imp (mt_indexD hu) fun x xs H Q q => by
  obtain ⟨W, dx, ds, d, η', rfl, o, rx, rs, hf, hq⟩ := q
  cases dx with
  | ref r =>
    match ds, rs, hf with
    | [y], rs, hf =>
      obtain ⟨v, rfl, ry⟩ := rel1 rs
      simp only [fIndex] at hf
      cases e : W.η.list r with
      | none => rw [e] at hf; cases hf
      | some l =>
        rw [e] at hf
        simp only at hf
        cases ex : pur 8 y with
        | false => rw [ex] at hf; cases hf
        | true =>
          cases ey : purs 8 l with
          | false => rw [ex, ey] at hf; cases hf
          | true =>
            rw [ex, ey] at hf
            simp only at hf
            cases ei : idxOf (fun z => eqn 8 z y) l 0 with
            | none => rw [ei] at hf; cases hf
            | some k =>
              rw [ei] at hf
              simp only [Option.some.injEq, Prod.mk.injEq] at hf
              obtain ⟨rfl, rfl⟩ := hf
              obtain ⟨j, h1, ⟨z, h2, h3⟩, h4⟩ := idxOf_spec ei
              obtain ⟨vs, g1, g2, g3⟩ := list_of o e
              obtain ⟨a1, a2, a3⟩ := purs_dp (K := X.K) 8 l vs ey g2
              obtain ⟨b1, b2, b3⟩ := pur_dp (K := X.K) 8 y v ex ry
              have ep : ∀ z ∈ l, pur 8 z = true := fun z hz => List.all_eq_true.mp ey z hz
              have hj : k = j := by omega
              subst hj
              rw [relRef rx]
              refine ⟨_, v, toPy y, toPys l, k, toPy z, rfl, rfl, .lst g1 a1, b1, shaped_of (by simpa [PyData.canLay0] using a2) (by simp only [PyData.depth]; omega), shaped_of b2 (by omega), ?_, ?_, fun m z' hm hz => ?_, same_w o hq mkInt⟩
              · rw [toPys_map, List.getElem?_map, h2]; rfl
              · rw [← eqn_py 8 z y (ep z (List.mem_of_getElem? h2)) ex]; exact h3
              · rw [toPys_map, List.getElem?_map] at hz
                cases el : l[m]? with
                | none => rw [el] at hz; cases hz
                | some u =>
                  rw [el] at hz
                  cases hz
                  rw [← eqn_py 8 u y (ep u (List.mem_of_getElem? el)) ex]; exact h4 m u hm el
    | [], rs, hf => cases hf
    | _ :: _ :: _, rs, hf => cases hf
  | _ => cases hf
end
end DL

/-! cells frozen, dropped and laid again -/
namespace DL
open PySem PySem.Spec L2
section
variable {K : PySem.W.Frag} {N : Names} {W W1 W2 Wg : Wl}
/-! ### what a value's relation leans on -/
structure Tx (W W' : Wl) : Prop where
  nx : W.η.nx ≤ W'.η.nx
  mu : ∀ r, r < W.η.nx → W'.μ r = W.μ r
  tp : ∀ a vs, W.H a = some (.tup vs) → W'.H a = some (.tup vs)
theorem Ext.tx (o : W.Ok K N) (x : Ext W W1) : Tx W W1 := ⟨x.nx, x.mu, fun a vs h => x.sqT o h⟩
mutual
theorem RelD.tx (x : Tx W W1) : ∀ {d : D} {v : V}, RelD W d v → RelD W1 d v
  | .non, v, h => by rw [RelD] at *; exact h
  | .bl b, v, h => by rw [RelD] at *; exact h
  | .int i, v, h => by rw [RelD] at *; exact h
  | .str s, v, h => by rw [RelD] at *; exact h
  | .ref r, v, h => by rw [RelD] at *; exact ⟨Nat.lt_of_lt_of_le h.1 x.nx, by rw [x.mu r h.1]; exact h.2⟩
  | .tup ds, v, h => by
    rw [RelD] at *
    obtain ⟨a, vs, e, h1, h2⟩ := h
    exact ⟨a, vs, e, x.tp a vs h1, RelDs.tx x h2⟩
theorem RelDs.tx (x : Tx W W1) : ∀ {ds : List D} {vs : List V}, RelDs W ds vs → RelDs W1 ds vs
  | [], vs, h => by rw [RelDs] at *; exact h
  | d :: ds, vs, h => by
    rw [RelDs] at *
    obtain ⟨v, vs', e, h1, h2⟩ := h
    exact ⟨v, vs', e, RelD.tx x h1, RelDs.tx x h2⟩
end
theorem RelFs.tx (x : Tx W W1) : ∀ {fs : List (Nat × D)} {gs : List (Str × V)}, RelFs W N fs gs → RelFs W1 N fs gs
  | [], vs, h => by rw [RelFs] at *; exact h
  | (k, d) :: ds, vs, h => by
    rw [RelFs] at *
    obtain ⟨v, vs', e, h1, h2⟩ := h
    exact ⟨v, vs', e, RelD.tx x h1, RelFs.tx x h2⟩
theorem RelK.tx (x : Tx W W1) : ∀ {fs : List (D × D)} {gs : List (Key × V)}, RelK W fs gs → RelK W1 fs gs
  | [], vs, h => by rw [RelK] at *; exact h
  | (k, d) :: ds, vs, h => by
    rw [RelK] at *
    obtain ⟨k', v, vs', e, h0, h1, h2⟩ := h
    exact ⟨k', v, vs', e, h0, RelD.tx x h1, RelK.tx x h2⟩
theorem RelT.tx (x : Tx W W1) : ∀ {fs : List (D × D)} {gs : List (List Key × V)}, RelT W fs gs → RelT W1 fs gs
  | [], vs, h => by rw [RelT] at *; exact h
  | (k, d) :: ds, vs, h => by
    rw [RelT] at *
    obtain ⟨k', v, vs', e, h0, h1, h2⟩ := h
    exact ⟨k', v, vs', e, h0, RelD.tx x h1, RelT.tx x h2⟩
theorem RelC.tx (x : Tx W W1) {a : Addr} {c : Cell} (h : RelC K N W a c) (e : ∀ ob, noT ob → W.H a = some ob → W1.H a = some ob) : RelC K N W1 a c := by
  cases c with
  | lst l => obtain ⟨vs, h1, h2, h3⟩ := h; exact ⟨vs, e _ (fun _ z => nomatch z) h1, h2.tx x, h3⟩
  | frz l => obtain ⟨vs, h1, h2, h3⟩ := h; exact ⟨vs, e _ (fun _ z => nomatch z) h1, h2.tx x, h3⟩
  | dice => obtain ⟨p, q, r, h⟩ := h; exact ⟨p, q, r, e _ (fun _ z => nomatch z) h⟩
  | dct t l =>
    cases t
    · obtain ⟨vs, h1, h2, h3⟩ := h; exact ⟨vs, e _ (fun _ z => nomatch z) h1, h2.tx x, h3⟩
    · obtain ⟨vs, h1, h2, h3⟩ := h; exact ⟨vs, e _ (fun _ z => nomatch z) h1, h2.tx x, h3⟩
  | ins c l => obtain ⟨dx, vs, h1, h2, h3⟩ := h; exact ⟨dx, vs, e _ (fun _ z => nomatch z) h1, h2.tx x, h3⟩
/-! ### a cell dropped and laid again -/
def Hd.add (η : Hd) (g : Nat) (c : Cell) : Hd := ⟨η.nx, (g, c) :: η.cs⟩
theorem Hd.get_add (η : Hd) (g : Nat) (c : Cell) (q : Nat) : (η.add g c).get q = if q = g then some c else η.get q := by
  unfold Hd.get Hd.add
  by_cases h : q = g
  · subst h
    have e2 : Nat.beq q q = true := Nat.beq_refl _
    simp [look, e2]
  · have e2 : Nat.beq g q = false := by
      cases z : Nat.beq g q with
      | false => rfl
      | true => exact absurd (Nat.eq_of_beq_eq_true z).symm h
    simp [look, e2, h]
/-- W is Wg without the cell g; behind a step the cell is laid again -/
theorem Wl.Ok.readd (o : Wg.Ok K N) {g : Nat} {c : Cell} (h : Wg.η.get g = some c) {η0 : Hd} (hn : η0.nx = Wg.η.nx) (h0 : ∀ q, η0.get q = if q = g then none else Wg.η.get q)
    (x : Ext ⟨Wg.μ, η0, Wg.H⟩ W2) (o2 : W2.Ok K N) : Ext Wg ⟨W2.μ, W2.η.add g c, W2.H⟩ ∧ Wl.Ok K N ⟨W2.μ, W2.η.add g c, W2.H⟩ := by
  have hg : g < Wg.η.nx := o.lt g c h
  have nx : Wg.η.nx ≤ W2.η.nx := by have := x.nx; show Wg.η.nx ≤ _; rw [← hn]; exact this
  have mu : ∀ r, r < Wg.η.nx → W2.μ r = Wg.μ r := fun r hr => x.mu r (by show r < η0.nx; rw [hn]; exact hr)
  have keep : ∀ ob, noT ob → Wg.H (Wg.μ g) = some ob → W2.H (Wg.μ g) = some ob := fun ob ht hb => x.fr _ _ hb ht fun q d e md => by
    have e' : η0.get q = some d := e
    rw [h0] at e'
    by_cases z : q = g
    · rw [if_pos z] at e'; cases e'
    · rw [if_neg z] at e'; exact o.apart h e' z
  have ga : ∀ q, (W2.η.add g c).get q = if q = g then some c else W2.η.get q := fun q => Hd.get_add _ _ _ _
  have xx : Ext Wg ⟨W2.μ, W2.η.add g c, W2.H⟩ := by
    refine ⟨nx, mu, fun a u ha ht hna => ?_, fun a u ha => x.th a u ha, fun q d e => ?_⟩
    · exact x.fr a u ha ht fun q d e md => by
        have e' : η0.get q = some d := e
        rw [h0] at e'
        by_cases z : q = g
        · rw [if_pos z] at e'; cases e'
        · rw [if_neg z] at e'; exact hna q d e' md
    · have e' : (W2.η.add g c).get q = some d := e
      rw [ga] at e'
      by_cases z : q = g
      · rw [if_pos z] at e'; cases e'; exact .inl ⟨c, by rw [z]; exact h, id⟩
      · rw [if_neg z] at e'
        rcases x.cs q d e' with ⟨c0, e0, m0⟩ | ⟨h1, h2⟩
        · have e0' : η0.get q = some c0 := e0
          rw [h0, if_neg z] at e0'
          exact .inl ⟨c0, e0', m0⟩
        · exact .inr ⟨by have : η0.nx ≤ q := h1; omega, h2⟩
  have tg : Tx Wg ⟨W2.μ, W2.η.add g c, W2.H⟩ := xx.tx o
  have t2 : Tx W2 ⟨W2.μ, W2.η.add g c, W2.H⟩ := ⟨Nat.le_refl _, fun _ _ => rfl, fun _ _ e => e⟩
  have ap : ∀ q d, W2.η.get q = some d → q ≠ g → W2.μ q ≠ Wg.μ g := fun q d e y z => by
    rcases x.cs q d e with ⟨c0, e0, m0⟩ | ⟨h1, h2⟩
    · have e0' : η0.get q = some c0 := e0
      rw [h0, if_neg y] at e0'
      rw [mu q (o.lt q c0 e0')] at z
      exact o.apart h e0' y z
    · obtain ⟨ob, hob, ht⟩ := o.there h
      have h2' : NoC Wg.H (W2.μ q) := h2
      rw [z] at h2'; exact h2' ob hob ht
  refine ⟨xx, fun q d e => ?_, fun q d e => ?_, fun q s d1 d2 e1 e2 e => ?_, o2.tab⟩
  · have e' : (W2.η.add g c).get q = some d := e
    rw [ga] at e'
    show q < W2.η.nx
    by_cases z : q = g
    · omega
    · rw [if_neg z] at e'; exact o2.lt q d e'
  · have e' : (W2.η.add g c).get q = some d := e
    rw [ga] at e'
    by_cases z : q = g
    · rw [if_pos z] at e'; cases e'
      show RelC K N _ (W2.μ q) c
      rw [z, mu g hg]
      exact (o.cell g c h).tx tg keep
    · rw [if_neg z] at e'; exact (o2.cell q d e').tx t2 (fun _ _ e => e)
  · have e1' : (W2.η.add g c).get q = some d1 := e1
    have e2' : (W2.η.add g c).get s = some d2 := e2
    have e' : W2.μ q = W2.μ s := e
    rw [ga] at e1' e2'
    by_cases z : q = g
    · by_cases y : s = g
      · exact z.trans y.symm
      · rw [if_neg y] at e2'
        rw [z, mu g hg] at e'
        exact absurd e'.symm (ap s d2 e2' y)
    · rw [if_neg z] at e1'
      by_cases y : s = g
      · rw [y, mu g hg] at e'
        exact absurd e' (ap q d1 e1' z)
      · rw [if_neg y] at e2'
        exact o2.inj q s d1 d2 e1' e2' e'
/-! ### freeze -/
def frzAt (r : Nat) (l : List D) (η : Hd) : Hd := η.set r (.frz l)
def unfAt (r : Nat) (l : List D) (η : Hd) : Hd := η.set r (.lst l)
theorem Wl.Ok.freeze (o : W.Ok K N) {r : Nat} {l : List D} (h : W.η.get r = some (.lst l)) : Ext W ⟨W.μ, frzAt r l W.η, W.H⟩ ∧ Wl.Ok K N ⟨W.μ, frzAt r l W.η, W.H⟩ := by
  have gs : ∀ q, (frzAt r l W.η).get q = if q = r then some (.frz l) else W.η.get q := fun q => by
    have := Hd.get_set W.η r (.frz l) q
    rw [h] at this
    exact this
  have x : Ext W ⟨W.μ, frzAt r l W.η, W.H⟩ := by
    refine ⟨Nat.le_refl _, fun _ _ => rfl, fun _ _ e _ _ => e, fun a u e t => ⟨u, e, t⟩, fun q c e => ?_⟩
    have e' : (frzAt r l W.η).get q = some c := e
    rw [gs] at e'
    by_cases z : q = r
    · rw [if_pos z] at e'; cases e'; exact .inl ⟨.lst l, by rw [z]; exact h, fun m => by cases m⟩
    · rw [if_neg z] at e'; exact .inl ⟨c, e', id⟩
  have orig : ∀ q c, (frzAt r l W.η).get q = some c → ∃ c0, W.η.get q = some c0 := fun q c e => by
    rw [gs] at e
    by_cases z : q = r
    · exact ⟨_, by rw [z]; exact h⟩
    · rw [if_neg z] at e; exact ⟨c, e⟩
  refine ⟨x, fun q c e => ?_, fun q c e => ?_, fun q s c d e1 e2 e => ?_, o.tab⟩
  · obtain ⟨c0, e0⟩ := orig q c e; exact o.lt q c0 e0
  · have e' : (frzAt r l W.η).get q = some c := e
    rw [gs] at e'
    by_cases z : q = r
    · rw [if_pos z] at e'; cases e'
      obtain ⟨vs, h1, h2, h3⟩ := o.cell r _ h
      exact ⟨vs, by rw [z]; exact h1, h2.mono o x, h3⟩
    · rw [if_neg z] at e'; exact (o.cell q c e').mono o x (fun _ _ e => e)
  · obtain ⟨c0, e0⟩ := orig q c e1
    obtain ⟨d0, f0⟩ := orig s d e2
    exact o.inj q s c0 d0 e0 f0 e
theorem Wl.Ok.unfreeze (o : W.Ok K N) {r : Nat} {l : List D} (h : W.η.get r = some (.lst l)) (x1 : Ext ⟨W.μ, frzAt r l W.η, W.H⟩ W1) (o1 : W1.Ok K N) : Ext W ⟨W1.μ, unfAt r l W1.η, W1.H⟩ ∧ Wl.Ok K N ⟨W1.μ, unfAt r l W1.η, W1.H⟩ := by
  obtain ⟨xf, of⟩ := o.freeze h
  have x01 : Ext W W1 := xf.trans o of x1
  have hr : r < W.η.nx := o.lt r _ h
  have hm : W1.μ r = W.μ r := x01.mu r hr
  obtain ⟨vs, h1, h2, h3⟩ := o.cell r _ h
  have gf : ∀ q, (frzAt r l W.η).get q = if q = r then some (.frz l) else W.η.get q := fun q => by
    have := Hd.get_set W.η r (.frz l) q
    rw [h] at this
    exact this
  have hH : W1.H (W.μ r) = some (.lst vs) := x1.fr _ _ h1 (fun _ z => nomatch z) fun q c e m z => by
    have e' : (frzAt r l W.η).get q = some c := e
    rw [gf] at e'
    by_cases y : q = r
    · rw [if_pos y] at e'; cases e'; cases m
    · rw [if_neg y] at e'
      exact o.apart h e' y z
  have gs : ∀ q, (unfAt r l W1.η).get q = if q = r then (W1.η.get r).map (fun _ => Cell.lst l) else W1.η.get q := fun q => Hd.get_set W1.η r (.lst l) q
  have x2 : Ext W ⟨W1.μ, unfAt r l W1.η, W1.H⟩ := by
    refine ⟨x01.nx, x01.mu, x01.fr, x01.th, fun q c e => ?_⟩
    have e' : (unfAt r l W1.η).get q = some c := e
    rw [gs] at e'
    by_cases z : q = r
    · exact .inl ⟨.lst l, by rw [z]; exact h, fun _ => rfl⟩
    · rw [if_neg z] at e'; exact x01.cs q c e'
  have t2 : Tx W1 ⟨W1.μ, unfAt r l W1.η, W1.H⟩ := ⟨Nat.le_refl _, fun _ _ => rfl, fun _ _ e => e⟩
  have orig : ∀ q c, (unfAt r l W1.η).get q = some c → ∃ c0, W1.η.get q = some c0 := fun q c e => by
    rw [gs] at e
    by_cases z : q = r
    · rw [if_pos z] at e
      cases y : W1.η.get r with
      | none => rw [y] at e; cases e
      | some c0 => exact ⟨c0, by rw [z]; exact y⟩
    · rw [if_neg z] at e; exact ⟨c, e⟩
  refine ⟨x2, fun q c e => ?_, fun q c e => ?_, fun q s c d e1 e2 e => ?_, o1.tab⟩
  · obtain ⟨c0, e0⟩ := orig q c e; exact o1.lt q c0 e0
  · have e' : (unfAt r l W1.η).get q = some c := e
    rw [gs] at e'
    by_cases z : q = r
    · rw [if_pos z] at e'
      cases y : W1.η.get r with
      | none => rw [y] at e'; cases e'
      | some c0 =>
        rw [y] at e'; cases e'
        refine ⟨vs, ?_, h2.mono o x2, h3⟩
        show W1.H (W1.μ q) = some (.lst vs)
        rw [z, hm]; exact hH
    · rw [if_neg z] at e'; exact (o1.cell q c e').tx t2 (fun _ _ e => e)
  · obtain ⟨c0, e0⟩ := orig q c e1
    obtain ⟨d0, f0⟩ := orig s d e2
    exact o1.inj q s c0 d0 e0 f0 e
end
end DL

/-! statements, loops -/
namespace DL
open PySem PySem.Spec L2
section
variable {X : Cx} {N : Nm} {E : XK}
/-! ### blocks -/
def sNil : CS := fun σ η k => k.nx σ η
def sSeq (a b : CS) : CS := fun σ η k => a σ η { k with nx := fun σ1 η1 => b σ1 η1 k }
theorem Sk.next {K : PySem.W.Frag} {W : Wl} {k : KS} {Z : Ends} {nx : SD → Hd → Bool} {Qn : St → Hp → Prop} (h : Sk K N E W k Z) (hn : ∀ W' σd σ, Ext W W' → W'.Ok K N.toNames → RelS W' σd σ → nx σd W'.η = true → Qn σ W'.H) : Sk K N E W { k with nx := nx } { Z with nx := Qn } :=
  ⟨hn, h.rt, h.bk, h.ct, h.xc⟩
theorem jb_nil : JB X N E [] sNil := PSs.imp pss_nil fun Z σ H q => by
  obtain ⟨W, σd, k, rfl, o, s, h, hk⟩ := q
  exact hk.nx W σd σ (Ext.refl W) o s h
theorem jb_cons {st : Stmt} {rest : List Stmt} {a b : CS} (h1 : JS X N E st a) (h2 : JB X N E rest b) : JB X N E (st :: rest) (sSeq a b) := PSs.imp (pss_cons h1 h2) fun Z σ H q => by
  obtain ⟨W, σd, k, rfl, o, s, h, hk⟩ := q
  exact ⟨W, σd, { k with nx := fun σ1 η1 => b σ1 η1 k }, rfl, o, s, h, hk.next fun W1 σd1 σ1 x1 o1 s1 e1 => ⟨W1, σd1, k, rfl, o1, s1, e1, hk.mono o o1 x1⟩⟩
theorem jb_one {st : Stmt} {a : CS} (h1 : JS X N E st a) : JB X N E [st] a := pss_one h1
def sPass : CS := fun σ η k => k.nx σ η
theorem js_pass {pos : Pos} : JS X N E (.Pass pos) sPass := PS.imp ps_pass fun Z σ H q => by
  obtain ⟨W, σd, k, rfl, o, s, h, hk⟩ := q
  exact hk.nx W σd σ (Ext.refl W) o s h
def sBreak : CS := fun σ η k => k.bk σ η
theorem js_break {pos : Pos} : JS X N E (.Break pos) sBreak := PS.imp ps_break fun Z σ H q => by
  obtain ⟨W, σd, k, rfl, o, s, h, hk⟩ := q
  exact hk.bk W σd σ (Ext.refl W) o s h
def sCont : CS := fun σ η k => k.ct σ η
theorem js_cont {pos : Pos} : JS X N E (.Continue pos) sCont := PS.imp ps_continue fun Z σ H q => by
  obtain ⟨W, σd, k, rfl, o, s, h, hk⟩ := q
  exact hk.ct W σd σ (Ext.refl W) o s h
def sNever : CS := fun _ _ _ => false
theorem js_never {st : Stmt} : JS X N E st sNever := PS.imp ps_never fun Z σ H q => by
  obtain ⟨W, σd, k, rfl, o, s, h, hk⟩ := q
  cases h
theorem jb_never {st : List Stmt} : JB X N E st sNever := PSs.imp pss_never fun Z σ H q => by
  obtain ⟨W, σd, k, rfl, o, s, h, hk⟩ := q
  cases h
def sExpr (c : CE) : CS := fun σ η k => c σ η (fun _ η1 => k.nx σ η1) k.xc
theorem js_expr {e : Expr} {c : CE} {pos : Pos} (h : JE X N E e c) (hs : swapsWith e none pos.line X.env = pure false := by rfl) : JS X N E (.Expr e pos) (sExpr c) := PS.imp (ps_expr h hs) fun Z σ H q => by
  obtain ⟨W, σd, k, rfl, o, s, h, hk⟩ := q
  exact tE.bind o s hk.xc h fun W1 d v x1 o1 r1 s1 hx1 h1 => hk.nx W1 σd σ x1 o1 s1 h1
def sRet (c : CE) : CS := fun σ η k => c σ η k.rt k.xc
theorem js_ret {e : Expr} {c : CE} {pos : Pos} (h : JE X N E e c) : JS X N E (.Return (some e) pos) (sRet c) := PS.imp (ps_ret h) fun Z σ H q => by
  obtain ⟨W, σd, k, rfl, o, s, h, hk⟩ := q
  exact tE.bind o s hk.xc h fun W1 d v x1 o1 r1 s1 hx1 h1 => hk.rt W1 d v x1 o1 r1 h1
def sRetN : CS := fun _ η k => k.rt .non η
theorem js_retN {pos : Pos} : JS X N E (.Return none pos) sRetN := PS.imp ps_retN fun Z σ H q => by
  obtain ⟨W, σd, k, rfl, o, s, h, hk⟩ := q
  exact hk.rt.here o mkNon h
def sIf (t : CT) (a b : CS) : CS := fun σ η k => t σ η (fun x η1 => match x with
  | true => a σ η1 k
  | false => b σ η1 k) k.xc
theorem js_if {c : Expr} {a b : List Stmt} {ct : CT} {ca cb : CS} {pos : Pos} (hc : JT X N E c ct) (ha : JB X N E a ca) (hb : JB X N E b cb) : JS X N E (.If c a b pos) (sIf ct ca cb) := PS.imp (ps_if hc ha hb) fun Z σ H q => by
  obtain ⟨W, σd, k, rfl, o, s, h, hk⟩ := q
  refine tT.bind o s hk.xc h fun W1 b x1 o1 s1 hx1 h1 => ?_
  cases b with
  | true => rw [if_pos rfl]; exact ⟨W1, σd, k, rfl, o1, s1, h1, hk.mono o o1 x1⟩
  | false => rw [if_neg (by decide)]; exact ⟨W1, σd, k, rfl, o1, s1, h1, hk.mono o o1 x1⟩

/-! ### targets -/
abbrev CG := D → SD → Hd → (SD → Hd → Bool) → KX → Bool
abbrev CGs := List D → SD → Hd → (SD → Hd → Bool) → KX → Bool
def Gk (K : PySem.W.Frag) (N : Nm) (W : Wl) (k : SD → Hd → Bool) (Q : St → Hp → Prop) : Prop := ∀ W' σd σ, Ext W W' → W'.Ok K N.toNames → RelS W' σd σ → k σd W'.η = true → Q σ W'.H
theorem Gk.mono {K : PySem.W.Frag} {W W' : Wl} {k : SD → Hd → Bool} {Q : St → Hp → Prop} (o : W.Ok K N.toNames) (o' : W'.Ok K N.toNames) (x : Ext W W') (h : Gk K N W k Q) : Gk K N W' k Q := fun W2 a b y => h W2 a b (x.trans o o' y)
def tG (K : PySem.W.Frag) (N : Nm) (E : XK) (c : CG) : TG := fun v σ H Q => ∃ W d σd k kx, W.H = H ∧ W.Ok K N.toNames ∧ RelD W d v ∧ RelS W σd σ ∧ c d σd W.η k kx = true ∧ Gk K N W k Q ∧ Xk K N E W kx
def tGs (K : PySem.W.Frag) (N : Nm) (E : XK) (c : CGs) : TGs := fun vs σ H Q => ∃ W ds σd k kx, W.H = H ∧ W.Ok K N.toNames ∧ RelDs W ds vs ∧ RelS W σd σ ∧ c ds σd W.η k kx = true ∧ Gk K N W k Q ∧ Xk K N E W kx
def JG (X : Cx) (N : Nm) (E : XK) (e : Expr) (c : CG) : Prop := PG X e (tG X.K N E c)
def JGs (X : Cx) (N : Nm) (E : XK) (e : List Expr) (c : CGs) : Prop := PGs X e (tGs X.K N E c)
theorem PG.imp {e : Expr} {t t' : TG} (h : PG X e t) (f : ∀ v σ H Q, t' v σ H Q → t v σ H Q) : PG X e t' := ⟨fun pins s σ H v u Q I r q => h.run pins s σ H v u Q I r (f v σ H Q q)⟩
theorem PGs.imp {e : List Expr} {t t' : TGs} (h : PGs X e t) (f : ∀ v σ H Q, t' v σ H Q → t v σ H Q) : PGs X e t' := ⟨fun pins s σ H v u Q I r q => h.run pins s σ H v u Q I r (f v σ H Q q)⟩
def gNm (i : Nat) : CG := fun d σ η k _ => k (σ.set i (some d)) η
theorem jg_name {i : Nat} {x : Str} {pos : Pos} (h : PG X (.Name x pos) (gName i)) : JG X N E (.Name x pos) (gNm i) := PG.imp h fun v σ H Q q => by
  obtain ⟨W, d, σd, k, kx, rfl, o, r, s, h, hk, hx⟩ := q
  exact hk W _ _ (Ext.refl W) o (s.set i r) h
def gsNil : CGs := fun ds σ η k _ => match ds with
  | [] => k σ η
  | _ => false
def gsCons (g : CG) (r : CGs) : CGs := fun ds σ η k kx => match ds with
  | d :: ds' => g d σ η (fun σ1 η1 => r ds' σ1 η1 k kx) kx
  | [] => false
theorem jgs_nil : JGs X N E [] gsNil := PGs.imp pgs_nil fun v σ H Q q => by
  obtain ⟨W, ds, σd, k, kx, rfl, o, r, s, h, hk, hx⟩ := q
  cases ds with
  | nil => rw [RelDs] at r; exact ⟨r, hk W _ _ (Ext.refl W) o s h⟩
  | cons _ _ => cases h
theorem jgs_cons {e : Expr} {es : List Expr} {g : CG} {r : CGs} (hg : JG X N E e g) (hr : JGs X N E es r) (ha : ((assignEach (e :: es) X.env).map (·.2)) = assign e X.env :: ((assignEach es X.env).map (·.2)) := by rfl) : JGs X N E (e :: es) (gsCons g r) := PGs.imp (pgs_cons hg hr ha) fun v σ H Q q => by
  obtain ⟨W, ds, σd, k, kx, rfl, o, rr, s, h, hk, hx⟩ := q
  cases ds with
  | nil => cases h
  | cons d ds =>
    rw [RelDs] at rr
    obtain ⟨v, vs, rfl, r1, r2⟩ := rr
    exact ⟨v, vs, rfl, W, d, σd, _, kx, rfl, o, r1, s, h, fun W1 σd1 σ1 x1 o1 s1 h1 => ⟨W1, ds, σd1, k, kx, rfl, o1, r2.mono o x1, s1, h1, hk.mono o o1 x1, hx.mono o o1 x1⟩, hx⟩
def gTp (n : Nat) (r : CGs) : CG := fun d σ η k kx => match d with
  | .tup ds => match Nat.beq ds.length n with
    | true => r ds σ η k kx
    | false => false
  | _ => false
theorem jg_tup {es : List Expr} {kk : Nat} {pos : Pos} {r : CGs} {n : Nat} (hc : X.calm = true) (h : JGs X N E es r) (hl : (assignEach es X.env).length = n := by rfl) (hf : (assignEach es X.env).findIdx? (·.1) = none := by rfl) : JG X N E (.Tuple es kk pos) (gTp n r) :=
  PG.imp (pg_tup (n := n) hc h hl hf) fun v σ H Q q => by
    obtain ⟨W, d, σd, k, kx, rfl, o, rr, s, h, hk, hx⟩ := q
    cases d with
    | tup ds =>
      simp only [gTp] at h
      cases e : Nat.beq ds.length n with
      | false => rw [e] at h; cases h
      | true =>
        rw [e] at h
        obtain ⟨a, vs, rfl, hs, rs⟩ := relTup rr
        exact ⟨a, vs, rfl, SqT.of hs, by rw [← rs.length]; exact Nat.eq_of_beq_eq_true e, W, ds, σd, k, kx, rfl, o, rs, s, h, hk, hx⟩
    | _ => cases h
def gUl (n : Nat) (r : CGs) : CG := fun d σ η k kx => match d with
  | .ref q => match η.list q with
    | some ds => match Nat.beq ds.length n with
      | true => r ds σ η k kx
      | false => false
    | none => false
  | _ => false
theorem jg_unl {es : List Expr} {kk : Nat} {pos : Pos} {r : CGs} {n : Nat} (hc : X.calm = true) (h : JGs X N E es r) (hl : (assignEach es X.env).length = n := by rfl) (hf : (assignEach es X.env).findIdx? (·.1) = none := by rfl) : JG X N E (.Tuple es kk pos) (gUl n r) :=
  PG.imp (pg_unl (n := n) hc h hl hf) fun v σ H Q q => by
    obtain ⟨W, d, σd, k, kx, rfl, o, rr, s, h, hk, hx⟩ := q
    cases d with
    | ref q =>
      simp only [gUl] at h
      cases el : W.η.list q with
      | none => rw [el] at h; cases h
      | some ds =>
        rw [el] at h
        simp only at h
        cases e : Nat.beq ds.length n with
        | false => rw [e] at h; cases h
        | true =>
          rw [e] at h
          obtain ⟨vs, g1, g2, g3⟩ := list_of o el
          rw [relRef rr]
          exact ⟨_, vs, rfl, g1, by rw [← g2.length]; exact Nat.eq_of_beq_eq_true e, W, ds, σd, k, kx, rfl, o, g2, s, h, hk, hx⟩
    | _ => cases h
/-! a store to o[i] -/
def dput (k v : D) (kvs : List (D × D)) : List (D × D) := match kvs.any (fun p => eqK p.1 k) with
  | true => kvs.map fun p => match eqK p.1 k with
    | true => (p.1, v)
    | false => p
  | false => kvs ++ [(k, v)]
theorem any_relK {W : Wl} {k : D} {k' : Key} (hk : D.key k = some k') : ∀ {kvs : List (D × D)} {ps : List (Key × V)}, RelK W kvs ps → kvs.any (fun p => eqK p.1 k) = ps.any (fun kv => decide (kv.1 = k'))
  | [], ps, h => by rw [RelK] at h; subst h; rfl
  | (a, b) :: r, ps, h => by
    rw [RelK] at h
    obtain ⟨a', v, ps', rfl, h1, h2, h3⟩ := h
    simp only [List.any_cons]
    rw [key1_eq h1 hk, any_relK hk h3]
theorem any_relT {W : Wl} {l : List D} {k' : List Key} (hk : keysOf l = some k') : ∀ {kvs : List (D × D)} {ps : List (List Key × V)}, RelT W kvs ps → kvs.any (fun p => eqK p.1 (.tup l)) = ps.any (fun kv => decide (kv.1 = k'))
  | [], ps, h => by rw [RelT] at h; subst h; rfl
  | (a, b) :: r, ps, h => by
    rw [RelT] at h
    obtain ⟨a', v, ps', rfl, h1, h2, h3⟩ := h
    simp only [List.any_cons]
    cases a with
    | tup m => rw [keyT_eq h1 hk, any_relT hk h3]
    | _ => cases h1
theorem map_relK {W : Wl} {k : D} {k' : Key} {d : D} {w : V} (hk : D.key k = some k') (rd : RelD W d w) : ∀ {kvs : List (D × D)} {ps : List (Key × V)}, RelK W kvs ps →
    RelK W (kvs.map fun p => match eqK p.1 k with | true => (p.1, d) | false => p) (ps.map fun kv => if kv.1 = k' then (kv.1, w) else kv)
  | [], ps, h => by rw [RelK] at h; subst h; rw [List.map_nil, List.map_nil, RelK]
  | (a, b) :: r, ps, h => by
    rw [RelK] at h
    obtain ⟨a', v, ps', rfl, h1, h2, h3⟩ := h
    rw [List.map_cons, List.map_cons]
    have e := key1_eq h1 hk
    by_cases z : a' = k'
    · have e2 : eqK a k = true := by rw [e, decide_eq_true z]
      simp only [e2, if_pos z]
      rw [RelK]; exact ⟨a', w, _, rfl, h1, rd, map_relK hk rd h3⟩
    · have e2 : eqK a k = false := by rw [e, decide_eq_false z]
      simp only [e2, if_neg z]
      rw [RelK]; exact ⟨a', v, _, rfl, h1, h2, map_relK hk rd h3⟩
theorem map_relT {W : Wl} {l : List D} {k' : List Key} {d : D} {w : V} (hk : keysOf l = some k') (rd : RelD W d w) : ∀ {kvs : List (D × D)} {ps : List (List Key × V)}, RelT W kvs ps →
    RelT W (kvs.map fun p => match eqK p.1 (.tup l) with | true => (p.1, d) | false => p) (ps.map fun kv => if kv.1 = k' then (kv.1, w) else kv)
  | [], ps, h => by rw [RelT] at h; subst h; rw [List.map_nil, List.map_nil, RelT]
  | (a, b) :: r, ps, h => by
    rw [RelT] at h
    obtain ⟨a', v, ps', rfl, h1, h2, h3⟩ := h
    rw [List.map_cons, List.map_cons]
    have e : eqK a (.tup l) = decide (a' = k') := by
      cases a with
      | tup m => exact keyT_eq h1 hk
      | _ => cases h1
    by_cases z : a' = k'
    · have e2 : eqK a (.tup l) = true := by rw [e, decide_eq_true z]
      simp only [e2, if_pos z]
      rw [RelT]; exact ⟨a', w, _, rfl, h1, rd, map_relT hk rd h3⟩
    · have e2 : eqK a (.tup l) = false := by rw [e, decide_eq_false z]
      simp only [e2, if_neg z]
      rw [RelT]; exact ⟨a', v, _, rfl, h1, h2, map_relT hk rd h3⟩
theorem app_relK {W : Wl} {k : D} {k' : Key} {d : D} {w : V} (hk : D.key k = some k') (rd : RelD W d w) : ∀ {kvs : List (D × D)} {ps : List (Key × V)}, RelK W kvs ps → RelK W (kvs ++ [(k, d)]) (ps ++ [(k', w)])
  | [], ps, h => by rw [RelK] at h; subst h; rw [List.nil_append, List.nil_append, RelK]; exact ⟨k', w, [], rfl, hk, rd, by rw [RelK]⟩
  | (a, b) :: r, ps, h => by
    rw [RelK] at h
    obtain ⟨a', v, ps', rfl, h1, h2, h3⟩ := h
    rw [List.cons_append, List.cons_append, RelK]
    exact ⟨a', v, _, rfl, h1, h2, app_relK hk rd h3⟩
theorem app_relT {W : Wl} {k : D} {k' : List Key} {d : D} {w : V} (hk : D.tkey k = some k') (rd : RelD W d w) : ∀ {kvs : List (D × D)} {ps : List (List Key × V)}, RelT W kvs ps → RelT W (kvs ++ [(k, d)]) (ps ++ [(k', w)])
  | [], ps, h => by rw [RelT] at h; subst h; rw [List.nil_append, List.nil_append, RelT]; exact ⟨k', w, [], rfl, hk, rd, by rw [RelT]⟩
  | (a, b) :: r, ps, h => by
    rw [RelT] at h
    obtain ⟨a', v, ps', rfl, h1, h2, h3⟩ := h
    rw [List.cons_append, List.cons_append, RelT]
    exact ⟨a', v, _, rfl, h1, h2, app_relT hk rd h3⟩
theorem dput_relK {W : Wl} {k : D} {k' : Key} {d : D} {w : V} {kvs : List (D × D)} {ps : List (Key × V)} (hk : D.key k = some k') (rd : RelD W d w) (h : RelK W kvs ps) : RelK W (dput k d kvs) (putK ps k' w) := by
  unfold dput putK
  rw [any_relK hk h]
  cases e : ps.any (fun kv => decide (kv.1 = k')) with
  | true => rw [if_pos rfl]; exact map_relK hk rd h
  | false => rw [if_neg (by decide)]; exact app_relK hk rd h
theorem dput_relT {W : Wl} {l : List D} {k' : List Key} {d : D} {w : V} {kvs : List (D × D)} {ps : List (List Key × V)} (hk : keysOf l = some k') (rd : RelD W d w) (h : RelT W kvs ps) : RelT W (dput (.tup l) d kvs) (putK ps k' w) := by
  unfold dput putK
  rw [any_relT hk h]
  cases e : ps.any (fun kv => decide (kv.1 = k')) with
  | true => rw [if_pos rfl]; exact map_relT hk rd h
  | false => rw [if_neg (by decide)]; exact app_relT (k := .tup l) hk rd h
theorem dput_len (k d : D) (kvs : List (D × D)) : (dput k d kvs).length ≤ kvs.length + 1 := by
  unfold dput
  split
  · rw [List.length_map]; omega
  · rw [List.length_append]; exact Nat.le_refl _
theorem relK_len {W : Wl} : ∀ {kvs : List (D × D)} {ps : List (Key × V)}, RelK W kvs ps → kvs.length = ps.length
  | [], ps, h => by rw [RelK] at h; subst h; rfl
  | (a, b) :: r, ps, h => by rw [RelK] at h; obtain ⟨a', v, ps', rfl, h1, h2, h3⟩ := h; simp [relK_len h3]
theorem relT_len {W : Wl} : ∀ {kvs : List (D × D)} {ps : List (List Key × V)}, RelT W kvs ps → kvs.length = ps.length
  | [], ps, h => by rw [RelT] at h; subst h; rfl
  | (a, b) :: r, ps, h => by rw [RelT] at h; obtain ⟨a', v, ps', rfl, h1, h2, h3⟩ := h; simp [relT_len h3]
def fSet (o i v : D) (η : Hd) : Option Hd := match o with
  | .ref r => match η.get r with
    | some (.lst l) => match i with
      | .int j => match ixD l.length j with
        | some n => some (η.set r (.lst (l.set n v)))
        | none => none
      | _ => none
    | some (.dct t kvs) => match isKey t i, Nat.blt kvs.length line with
      | true, true => some (η.set r (.dct t (dput i v kvs)))
      | _, _ => none
    | _ => none
  | _ => none
theorem ixD_ixN {n : Nat} {i : Int} {k : Nat} (h : ixD n i = some k) : ixN n i = some k := by
  unfold ixN
  cases i with
  | ofNat j =>
    simp only [ixD] at h
    cases e : Nat.blt j n with
    | false => rw [e] at h; cases h
    | true =>
      rw [e] at h
      have hb : j < n := Nat.le_of_ble_eq_true e
      rw [if_pos (show (0 : Int) ≤ Int.ofNat j from Int.natCast_nonneg j), if_pos (show Int.ofNat j < (n : Int) from by show ((j : Nat) : Int) < _; omega)]
      exact h
  | negSucc j =>
    simp only [ixD] at h
    cases e : Nat.ble (j + 1) n with
    | false => rw [e] at h; cases h
    | true =>
      rw [e] at h
      have hb : j + 1 ≤ n := Nat.le_of_ble_eq_true e
      have e1 : Int.negSucc j = -((j + 1 : Nat) : Int) := rfl
      rw [if_neg (show ¬ (0 : Int) ≤ Int.negSucc j from by rw [e1]; omega), if_pos (show -(n : Int) ≤ Int.negSucc j from by rw [e1]; omega), ← h]
      congr 1; rw [e1]; omega
def tSet (K : PySem.W.Frag) (N : Nm) : TSet := fun o i v H Q => ∃ W dq di dv η', W.H = H ∧ W.Ok K N.toNames ∧ RelD W dq o ∧ RelD W di i ∧ RelD W dv v ∧ fSet dq di dv W.η = some η' ∧ (∀ W', Ext W W' → W'.Ok K N.toNames → W'.η = η' → Q W'.H)
theorem PSet.or {t t' : TSet} (h : PSet X t) (h' : PSet X t') : PSet X (fun o i v H Q => t o i v H Q ∨ t' o i v H Q) :=
  fun pins s σ H o i v ov iv u Q I r1 r2 r3 q => q.elim (h pins s σ H o i v ov iv u Q I r1 r2 r3) (h' pins s σ H o i v ov iv u Q I r1 r2 r3)
theorem PSet.imp {t t' : TSet} (h : PSet X t) (f : ∀ o i v H Q, t' o i v H Q → t o i v H Q) : PSet X t' :=
  fun pins s σ H o i v ov iv u Q I r1 r2 r3 q => h pins s σ H o i v ov iv u Q I r1 r2 r3 (f o i v H Q q)
theorem pset_all (hu : X.A.units + 1 < cLine) : PSet X (tSet X.K N) := PSet.imp (PSet.or set_list (set_dict hu)) fun vo vi vv H Q q => by
  obtain ⟨W, dq, di, dv, η', rfl, o, ro, ri, rv, hf, hq⟩ := q
  cases dq with
  | ref r =>
    simp only [fSet] at hf
    cases e : W.η.get r with
    | none => rw [e] at hf; cases hf
    | some c =>
      rw [e] at hf
      rw [relRef ro]
      cases c with
      | lst l =>
        cases di with
        | int j =>
          simp only at hf
          cases ek : ixD l.length j with
          | none => rw [ek] at hf; cases hf
          | some n =>
            rw [ek] at hf
            cases hf
            obtain ⟨vs, g1, g2, g3⟩ := o.cell r _ e
            rw [relInt ri]
            refine .inl ⟨_, vs, j, n, rfl, rfl, g1, by rw [← g2.length]; exact ixD_ixN ek, ?_⟩
            obtain ⟨x, o'⟩ := o.put (c := .lst (l.set n dv)) (ob := .lst (vs.set n vv)) e rfl (fun x => ⟨_, upd_same, (g2.mono o x).set (rv.mono o x) n, by rw [List.length_set]; exact g3⟩)
            exact hq _ x o' rfl
        | _ => cases hf
      | dct t kvs =>
        simp only at hf
        cases ek : isKey t di with
        | false => rw [ek] at hf; cases hf
        | true =>
          cases el : Nat.blt kvs.length line with
          | false => rw [ek, el] at hf; cases hf
          | true =>
            rw [ek, el] at hf
            cases hf
            have hl : kvs.length < sizeLine := Nat.le_of_ble_eq_true el
            have hl2 : (dput di dv kvs).length ≤ sizeLine := Nat.le_trans (dput_len _ _ _) hl
            have c := o.cell r _ e
            cases t with
            | false =>
              obtain ⟨ps, h1, h2, h3⟩ := c
              obtain ⟨k', hk'⟩ := isKey_key ek
              have ev := key_rel hk' ri
              subst ev
              refine .inr ⟨W.μ r, _, rfl, .inl ⟨ps, k', h1, rfl, by rw [← relK_len h2]; exact hl, rfl⟩, ?_⟩
              obtain ⟨x, o'⟩ := o.put (c := .dct false (dput di dv kvs)) (ob := .dK (putK ps k' vv)) e rfl (fun x => ⟨_, upd_same, dput_relK hk' (rv.mono o x) (h2.mono o x), hl2⟩)
              exact hq _ x o' rfl
            | true =>
              obtain ⟨ps, h1, h2, h3⟩ := c
              cases di with
              | tup l =>
                obtain ⟨k', hk'⟩ := isKey_keys ek
                obtain ⟨q, vs, rfl, hqs, rq⟩ := relTup ri
                have ev := keys_rel hk' rq
                subst ev
                refine .inr ⟨W.μ r, _, rfl, .inr ⟨ps, k', q, h1, rfl, hqs, by rw [← relT_len h2]; exact hl, rfl⟩, ?_⟩
                obtain ⟨x, o'⟩ := o.put (c := .dct true (dput (.tup l) dv kvs)) (ob := .dT (putK ps k' vv)) e rfl (fun x => ⟨_, upd_same, dput_relT hk' (rv.mono o x) (h2.mono o x), hl2⟩)
                exact hq _ x o' rfl
              | _ => cases ek
      | _ => cases hf
  | _ => cases hf
def gSb (co ci : CE) : CG := fun d σ η k kx => co σ η (fun x η1 => ci σ η1 (fun y η2 => match fSet x y d η2 with
  | some η3 => k σ η3
  | none => false) kx) kx
theorem jg_sub {o i : Expr} {co ci : CE} {pos : Pos} (hu : X.A.units + 1 < cLine) (ho : JE X N E o co) (hi : JE X N E i ci)
    (hs : ∀ v, assign (.Subscript o i pos) X.env v = (do let ov ← holding [v] (eval o X.env); let iv ← holding [v, ov] (eval i X.env); standAt pos; holding [v, ov, iv] (setItem ov iv v); release [v, ov, iv] []) := by intro _; rfl) : JG X N E (.Subscript o i pos) (gSb co ci) :=
  PG.imp (pg_sub ho hi (pset_all (N := N) hu) hs) fun v σ H Q q => by
    obtain ⟨W, d, σd, k, kx, rfl, o, r, s, h, hk, hx⟩ := q
    refine tE.bind o s hx h fun W1 dx x x1 o1 r1 s1 hx1 h1 => ?_
    refine tE.bind o1 s1 hx1 h1 fun W2 dy y x2 o2 r2 s2 hx2 h2 => ?_
    cases e : fSet dx dy d W2.η with
    | none => rw [e] at h2; cases h2
    | some η' =>
      rw [e] at h2
      have x02 := x1.trans o o1 x2
      exact ⟨W2, dx, dy, d, η', rfl, o2, r1.mono o1 x2, r2, r.mono o x02, e, fun W3 x3 o3 e3 => hk W3 σd σ (x02.trans o o2 x3) o3 (s2.mono o2 x3) (by rw [e3]; exact h2)⟩

/-! ### assignments -/
def sAsg (c : CE) (g : CG) : CS := fun σ η k => c σ η (fun d η1 => g d σ η1 k.nx k.xc) k.xc
theorem tAsg_of {K : PySem.W.Frag} {c : CE} {g : CG} {Z : Ends} {σ : St} {H : Hp} (h : tS K N E (sAsg c g) Z σ H) : tAsg (tE K N E c) (tG K N E g) Z σ H := by
  obtain ⟨W, σd, k, rfl, o, s, h, hk⟩ := h
  exact tE.bind o s hk.xc h fun W1 d v x1 o1 r1 s1 hx1 h1 => ⟨W1, d, σd, k.nx, k.xc, rfl, o1, r1, s1, h1, fun W2 σd2 σ2 x2 o2 s2 h2 => hk.nx W2 σd2 σ2 (x1.trans o o1 x2) o2 s2 h2, hx1⟩
theorem js_asg {tg e : Expr} {c : CE} {g : CG} {pos : Pos} (he : JE X N E e c) (hg : JG X N E tg g) (h1 : swapsWithSole [tg] e pos.line X.env = pure false := by rfl) (h2 : swappedStores [tg] e X.env = pure none := by rfl)
    (h3 : (assignEach [tg] X.env).map (·.2) = [assign tg X.env] := by rfl) : JS X N E (.Assign [tg] e pos) (sAsg c g) := PS.imp (ps_asg he hg h1 h2 h3) fun Z σ H q => tAsg_of q
theorem tAsg_name {K : PySem.W.Frag} {c : CE} {i : Nat} {te : TE} {Z : Ends} {σ : St} {H : Hp} (ht : ∀ σ H Q, tE K N E c σ H Q → te σ H Q) (h : tS K N E (sAsg c (gNm i)) Z σ H) : tAsg te (gName i) Z σ H := by
  obtain ⟨W, σd, k, rfl, o, s, h, hk⟩ := h
  exact ht _ _ _ (tE.bind o s hk.xc h fun W1 d v x1 o1 r1 s1 hx1 h1 => hk.nx W1 _ _ x1 o1 (s1.set i r1) h1)
theorem js_set {i : Nat} {x : Str} {e : Expr} {c : CE} {pos pos' : Pos} (hN : X.N.Nodup) (hi : X.N[i]? = some x) (hx : L2.Loc X.env.scope x) (he : JE X N E e c) (h1 : swapsWith e (some (.Name x pos')) pos.line X.env = pure false := by rfl)
    (hf : X.fn x = true ∨ X.env.scope.names.lookup x = some .local := by first | exact .inl rfl | exact .inr rfl | assumption) : JS X N E (.Assign [.Name x pos'] e pos) (sAsg c (gNm i)) := PS.imp (ps_set hN hi hx he h1 hf) fun Z σ H q => tAsg_name (fun _ _ _ h => h) q
def sPar (i j : Nat) (a : CA) : CS := fun σ η k => a σ η (fun ds η1 => match ds with
  | [x, y] => k.nx ((σ.set i (some x)).set j (some y)) η1
  | _ => false) k.xc
theorem js_par {i j : Nat} {x y : Str} {a b : Expr} {ca : CA} {px py pt pos : Pos} {kt k2 pt2} (hc : X.calm = true) (hN : X.N.Nodup) (hi : X.N[i]? = some x) (hj : X.N[j]? = some y) (hij : i ≠ j) (hx : X.env.scope.names.lookup x = some .local) (hy : X.env.scope.names.lookup y = some .local)
    (ha : JA X N E [a, b] ca) (hw : swappedStores [.Tuple [.Name x px, .Name y py] kt pt] (.Tuple [a, b] k2 pt2) X.env = pure (some [x, y])) : JS X N E (.Assign [.Tuple [.Name x px, .Name y py] kt pt] (.Tuple [a, b] k2 pt2) pos) (sPar i j ca) :=
  PS.imp (ps_par hc hN hi hj hij hx hy ha hw) fun Z σ H q => by
    obtain ⟨W, σd, k, rfl, o, s, h, hk⟩ := q
    refine tAr.bind o s hk.xc h fun W1 ds vs x1 o1 r1 s1 hx1 h1 => ?_
    match ds, r1, h1 with
    | [d, e], r1, h1 =>
      obtain ⟨v, u, rfl, ra, rb⟩ := rel2 r1
      exact ⟨v, u, rfl, hk.nx W1 _ _ x1 o1 ((s1.set i ra).set j rb) h1⟩
    | [], _, h1 => cases h1
    | [_], _, h1 => cases h1
    | _ :: _ :: _ :: _, _, h1 => cases h1
theorem rel3 {W : Wl} {d e f : D} {vs : List V} (h : RelDs W [d, e, f] vs) : ∃ v u w, vs = [v, u, w] ∧ RelD W d v ∧ RelD W e u ∧ RelD W f w := by
  rw [RelDs] at h
  obtain ⟨v, vs', rfl, h1, h2⟩ := h
  obtain ⟨u, w, rfl, h3, h4⟩ := rel2 h2
  exact ⟨v, u, w, rfl, h1, h3, h4⟩
def sPar3 (i j l : Nat) (a : CA) : CS := fun σ η k => a σ η (fun ds η1 => match ds with
  | [x, y, z] => k.nx (((σ.set i (some x)).set j (some y)).set l (some z)) η1
  | _ => false) k.xc
/-! x op= e -/
def sAug (i : Nat) (f : F2) (c : CE) : CS := fun σ η k => match σ[i]? with
  | some (some x) => c σ η (fun y η1 => match f x y η1 with
    | some (d, η2) => k.nx (σ.set i (some d)) η2
    | none => false) k.xc
  | _ => false
theorem js_aug {i : Nat} {x : Str} {e : Expr} {c : CE} {op : Operator} {f : F2} {pos pos' : Pos} (hN : X.N.Nodup) (hi : X.N[i]? = some x) (hx : L2.Loc X.env.scope x) (he : JE X N E e c) (ho : OpR X (inplaceOp op) (r2 X.K N f))
    (hf : X.fn x = true ∨ X.env.scope.names.lookup x = some .local := by first | exact .inl rfl | exact .inr rfl | assumption) : JS X N E (.AugAssign (.Name x pos') op e pos) (sAug i f c) :=
  PS.imp (ps_aug hN hi hx he ho hf) fun Z σ H q => by
    obtain ⟨W, σd, k, rfl, o, s, h, hk⟩ := q
    simp only [sAug] at h
    cases e : σd[i]? with
    | none => rw [e] at h; cases h
    | some y =>
      cases y with
      | none => rw [e] at h; cases h
      | some d =>
        rw [e] at h
        obtain ⟨v, ev, rv⟩ := s.get i d e
        refine ⟨v, ev, tE.bind o s hk.xc h fun W1 dy y x1 o1 r1 s1 hx1 h1 => ?_⟩
        cases ef : f d dy W1.η with
        | none => rw [ef] at h1; cases h1
        | some p =>
          obtain ⟨z, η'⟩ := p
          rw [ef] at h1
          exact ⟨W1, d, dy, z, η', rfl, o1, rv.mono o x1, r1, ef, fun W' w x3 o3 e3 r3 => hk.nx W' _ _ (x1.trans o o1 x3) o3 ((s1.mono o1 x3).set i r3) (by rw [e3]; exact h1)⟩
theorem opd_iadd : OpR X (inplaceOp .Add) (r2 X.K N (fI2 iadd)) := opd_int iop_add fun _ _ => rfl
theorem opd_isub : OpR X (inplaceOp .Sub) (r2 X.K N (fI2 isub)) := opd_int iop_sub fun _ _ => rfl
theorem opd_imul : OpR X (inplaceOp .Mult) (r2 X.K N (fI2c mulOk imul)) := opd_intc iop_mul mulOk_ok fun _ _ => rfl
theorem opd_idiv : OpR X (inplaceOp .FloorDiv) (r2 X.K N (fI2c divOk idiv)) := opd_intc iop_fdiv divOk_ok fun _ _ => rfl
end
end DL

/-! what a for walks, for, while, comprehensions -/
namespace DL
open PySem PySem.Spec L2
/-- what is walked: the items; a cell that must not change meanwhile, with its list -/
structure Its where
  l : List D
  fz : Option (Nat × List D)
def Its.fr (it : Its) (η : Hd) : Hd := match it.fz with
  | none => η
  | some (r, l) => frzAt r l η
def Its.un (it : Its) (η : Hd) : Hd := match it.fz with
  | none => η
  | some (r, l) => unfAt r l η
def FzOk (W : Wl) (it : Its) : Prop := ∀ r l, it.fz = some (r, l) → W.η.get r = some (.lst l)
def Its.w (it : Its) (W : Wl) : Wl := ⟨W.μ, it.fr W.η, W.H⟩
/-- what a walk leans on stays -/
structure Sty (Wf W1 : Wl) : Prop where
  tx : Tx Wf W1
  fz : ∀ r l vs, Wf.η.get r = some (.frz l) → Wf.H (Wf.μ r) = some (.lst vs) → W1.H (Wf.μ r) = some (.lst vs)
theorem Ext.sty {K : PySem.W.Frag} {N : Names} {W W1 : Wl} (o : W.Ok K N) (x : Ext W W1) : Sty W W1 := ⟨x.tx o, fun r l vs h hv => x.fr _ _ hv (fun _ z => nomatch z) fun q c e m z => by
  by_cases y : q = r
  · rw [y, h] at e; cases e; cases m
  · exact o.apart h e y z⟩
structure WalkD (K : PySem.W.Frag) (N : Nm) (Wf : Wl) (l : List D) (J : It) : Prop where
  go : ∀ W1 i, Sty Wf W1 → W1.Ok K N.toNames → i < l.length → J.go i W1.H
  stop : ∀ W1, Sty Wf W1 → W1.Ok K N.toNames → J.stop l.length W1.H
  yld : ∀ W1 i x H', Sty Wf W1 → W1.Ok K N.toNames → i < l.length → J.yld i W1.H x H' → ∃ W2 d, l[i]? = some d ∧ Ext W1 W2 ∧ W2.Ok K N.toNames ∧ W2.H = H' ∧ W2.η = W1.η ∧ RelD W2 d x
abbrev CI := SD → Hd → (Its → Hd → Bool) → KX → Bool
def tI (K : PySem.W.Frag) (N : Nm) (E : XK) (c : CI) : TI := fun σ H R => ∃ W σd k kx, W.H = H ∧ W.Ok K N.toNames ∧ RelS W σd σ ∧ c σd W.η k kx = true ∧
  (∀ W' it J, Ext W W' → W'.Ok K N.toNames → FzOk W' it → WalkD K N (it.w W') it.l J → k it W'.η = true → R J W'.H) ∧ Xk K N E W kx
def JI (X : Cx) (N : Nm) (E : XK) (tg iter : Expr) (c : CI) : Prop := PI X tg iter (tI X.K N E c)
section
variable {X : Cx} {N : Nm} {E : XK}
theorem PI.imp {tg iter : Expr} {t t' : TI} (h : PI X tg iter t) (f : ∀ σ H R, t' σ H R → t σ H R) : PI X tg iter t' := ⟨fun pins s σ H R I q => h.run pins s σ H R I (f σ H R q)⟩
/-- frozen and thawed -/
theorem Its.froze {K : PySem.W.Frag} {W : Wl} {it : Its} (o : W.Ok K N.toNames) (h : FzOk W it) : Ext W (it.w W) ∧ (it.w W).Ok K N.toNames := by
  unfold Its.w Its.fr
  cases e : it.fz with
  | none => exact ⟨Ext.refl W, o⟩
  | some p => obtain ⟨r, l⟩ := p; exact o.freeze (h r l e)
theorem Its.thaw {K : PySem.W.Frag} {W W1 : Wl} {it : Its} (o : W.Ok K N.toNames) (h : FzOk W it) (x : Ext (it.w W) W1) (o1 : W1.Ok K N.toNames) : Ext W ⟨W1.μ, it.un W1.η, W1.H⟩ ∧ Wl.Ok K N.toNames ⟨W1.μ, it.un W1.η, W1.H⟩ := by
  unfold Its.un
  unfold Its.w Its.fr at x
  cases e : it.fz with
  | none => rw [e] at x; exact ⟨x, o1⟩
  | some p => obtain ⟨r, l⟩ := p; rw [e] at x; exact o.unfreeze (h r l e) x o1
theorem Its.un_nx (it : Its) (η : Hd) : (it.un η).nx = η.nx := by
  unfold Its.un; cases it.fz with
  | none => rfl
  | some p => rfl
theorem thaw_tx {W1 : Wl} (it : Its) : Tx W1 ⟨W1.μ, it.un W1.η, W1.H⟩ := ⟨Nat.le_of_eq (Its.un_nx it W1.η).symm, fun _ _ => rfl, fun _ _ e => e⟩
theorem RelS.tx {W W1 : Wl} {σd : SD} {σ : St} (x : Tx W W1) (h : RelS W σd σ) : RelS W1 σd σ := ⟨h.len, fun i d e => by obtain ⟨v, e', r⟩ := h.get i d e; exact ⟨v, e', r.tx x⟩⟩
theorem RelX.tx {W W1 : Wl} {x : Xc} {cls : Value} {dd : Option Addr} (t : Tx W W1) (hx : ∀ a f, W.H a = some (.xd f) → W1.H a = some (.xd f)) (h : RelX N W x cls dd) : RelX N W1 x cls dd := by
  obtain ⟨h1, h2⟩ := h
  refine ⟨h1, ?_⟩
  cases e : x.p with
  | none => rw [e] at h2; exact h2
  | some d => rw [e] at h2; obtain ⟨a, v, q1, q2, q3⟩ := h2; exact ⟨a, v, q1, hx a _ q2, q3.tx t⟩
/-- what is wanted behind, where a cell is frozen meanwhile -/
def KS.thaw (k : KS) (it : Its) : KS := ⟨fun σ η => k.nx σ (it.un η), fun d η => k.rt d (it.un η), fun σ η => k.bk σ (it.un η), fun σ η => k.ct σ (it.un η), fun x η => k.xc x (it.un η)⟩
theorem Sk.thaw {K : PySem.W.Frag} {W : Wl} {k : KS} {Z : Ends} {it : Its} (o : W.Ok K N.toNames) (h : FzOk W it) (hk : Sk K N E W k Z) : Sk K N E (it.w W) (k.thaw it) Z where
  nx := fun W1 σd σ x o1 s e => by
    obtain ⟨x2, o2⟩ := Its.thaw o h x o1
    exact hk.nx ⟨W1.μ, it.un W1.η, W1.H⟩ σd σ x2 o2 (s.tx (thaw_tx it)) e
  rt := fun W1 d v x o1 r e => by
    obtain ⟨x2, o2⟩ := Its.thaw o h x o1
    exact hk.rt ⟨W1.μ, it.un W1.η, W1.H⟩ d v x2 o2 (r.tx (thaw_tx it)) e
  bk := fun W1 σd σ x o1 s e => by
    obtain ⟨x2, o2⟩ := Its.thaw o h x o1
    exact hk.bk ⟨W1.μ, it.un W1.η, W1.H⟩ σd σ x2 o2 (s.tx (thaw_tx it)) e
  ct := fun W1 σd σ x o1 s e => by
    obtain ⟨x2, o2⟩ := Its.thaw o h x o1
    exact hk.ct ⟨W1.μ, it.un W1.η, W1.H⟩ σd σ x2 o2 (s.tx (thaw_tx it)) e
  xc := fun W1 xx cls dd x o1 r e => by
    obtain ⟨x2, o2⟩ := Its.thaw o h x o1
    exact hk.xc ⟨W1.μ, it.un W1.η, W1.H⟩ xx cls dd x2 o2 (r.tx (thaw_tx it) fun _ _ e => e) e

/-! ### the sources -/
/-- a list or a tuple -/
def iSeq (K : PySem.W.Frag) (tl : TE) : TI := fun σ H R => tl σ H fun x H1 => (∃ a, x = .ref a ∧ (∃ xs, SqL K H1 a xs) ∧ R (Itl K a) H1) ∨ (∃ a, x = .ref a ∧ (∃ xs, SqT K H1 a xs) ∧ R (Itt K a) H1)
theorem pi_seq {tg l : Expr} {tl : TE} (hl : PE X l tl) : PI X tg l (iSeq X.K tl) := by
  refine ⟨fun pins s σ H R I h => ?_⟩
  refine thn (hl.run pins s σ H _ I h) fun v s1 ⟨x, H1, I1, r1, q1⟩ => ?_
  rcases q1 with ⟨a, e, ⟨xs, hq⟩, q⟩ | ⟨a, e, ⟨xs, hq⟩, q⟩
  · subst e
    cases r1
    obtain ⟨its, rv, p, hz⟩ := I1.list hq
    refine wpAny_pyIter_list p.isList ?_
    refine ⟨s1.heap.objs.size, [s1.heap.objs.size], _, _, H1, rfl, I1.kept (t' := s1.toks) fun b o e => Heap.get?_push_of_some _ e, turn_list a _, ⟨_, Heap.get?_push_size _ rfl, rfl, rfl⟩, fun b hb => ?_, q⟩
    have e : b = s1.heap.objs.size := by simpa using hb
    subst e
    exact I1.fpOk (Nat.le_refl _) (I1.hok.fresh (Nat.le_refl _))
  · subst e
    cases r1
    obtain ⟨its, rv, p, hz⟩ := I1.tuple hq
    refine wpAny_pyIter_tuple (show s1.heap.IsTuple a its.toArray from p) ?_
    refine ⟨s1.heap.objs.size, [s1.heap.objs.size], _, _, H1, rfl, I1.kept (t' := s1.toks) fun b o e => Heap.get?_push_of_some _ e, turn_tuple a _, ⟨_, Heap.get?_push_size _ rfl, rfl, rfl⟩, fun b hb => ?_, q⟩
    have e : b = s1.heap.objs.size := by simpa using hb
    subst e
    exact I1.fpOk (Nat.le_refl _) (I1.hok.fresh (Nat.le_refl _))
/-- what a value gives to walk -/
def itsOf (η : Hd) : D → Option Its
  | .tup l => some ⟨l, none⟩
  | .ref r => match η.get r with
    | some (.lst l) => some ⟨l, some (r, l)⟩
    | some (.frz l) => some ⟨l, none⟩
    | _ => none
  | _ => none
def ciSeq (c : CE) : CI := fun σ η k kx => c σ η (fun d η1 => match itsOf η1 d with
  | some it => k it η1
  | none => false) kx
/-- a list that stays -/
theorem walkD_list {K : PySem.W.Frag} {Wf : Wl} {a : Addr} {l : List D} {vs : List V} (st : ∀ W1, Sty Wf W1 → W1.H a = some (.lst vs)) (r : RelDs Wf l vs) : WalkD K N Wf l (Itl K a) := by
  have hl := r.length
  refine ⟨fun W1 i x o hi => ?_, fun W1 x o => ?_, fun W1 i y H' x o hi hy => ?_⟩
  · exact ⟨vs, vs[i]'(by omega), SqL.of (st W1 x), by simp [show i < vs.length by omega]⟩
  · exact ⟨vs, SqL.of (st W1 x), by omega⟩
  · obtain ⟨e1, e2⟩ := hy
    obtain ⟨d, e3, e4⟩ := (r.tx x.tx).get (e2 vs (SqL.of (st W1 x)))
    exact ⟨W1, d, e3, Ext.refl W1, o, e1.symm, rfl, e4⟩
theorem walkD_tup {K : PySem.W.Frag} {Wf : Wl} {a : Addr} {l : List D} {vs : List V} (h : Wf.H a = some (.tup vs)) (r : RelDs Wf l vs) : WalkD K N Wf l (Itt K a) := by
  have hl := r.length
  refine ⟨fun W1 i x o hi => ?_, fun W1 x o => ?_, fun W1 i y H' x o hi hy => ?_⟩
  · exact ⟨vs, vs[i]'(by omega), SqT.of (x.tx.tp _ _ h), by simp [show i < vs.length by omega]⟩
  · exact ⟨vs, SqT.of (x.tx.tp _ _ h), by omega⟩
  · obtain ⟨e1, e2⟩ := hy
    obtain ⟨d, e3, e4⟩ := (r.tx x.tx).get (e2 vs (SqT.of (x.tx.tp _ _ h)))
    exact ⟨W1, d, e3, Ext.refl W1, o, e1.symm, rfl, e4⟩
theorem its_walk {K : PySem.W.Frag} {W : Wl} {d : D} {v : V} {it : Its} (o : W.Ok K N.toNames) (r : RelD W d v) (h : itsOf W.η d = some it) : FzOk W it ∧
    ((∃ a, v = .ref a ∧ (∃ xs, SqL K W.H a xs) ∧ WalkD K N (it.w W) it.l (Itl K a)) ∨ (∃ a, v = .ref a ∧ (∃ xs, SqT K W.H a xs) ∧ WalkD K N (it.w W) it.l (Itt K a))) := by
  cases d with
  | tup l =>
    cases h
    obtain ⟨a, vs, rfl, hs, rs⟩ := relTup r
    exact ⟨(fun r l e => nomatch e), .inr ⟨a, rfl, ⟨vs, SqT.of hs⟩, walkD_tup (Wf := W) hs rs⟩⟩
  | ref q =>
    simp only [itsOf] at h
    cases e : W.η.get q with
    | none => rw [e] at h; cases h
    | some c =>
      rw [e] at h
      rw [relRef r]
      cases c with
      | lst l =>
        cases h
        have fz : FzOk W ⟨l, some (q, l)⟩ := fun r l' e' => by cases e'; exact e
        obtain ⟨vs, h1, h2, h3⟩ := o.cell q _ e
        obtain ⟨xf, of⟩ := Its.froze o fz
        have gq : (Its.w ⟨l, some (q, l)⟩ W).η.get q = some (.frz l) := by
          show (frzAt q l W.η).get q = some (.frz l)
          unfold frzAt
          rw [Hd.get_set, if_pos rfl, e]; rfl
        exact ⟨fz, .inl ⟨_, rfl, ⟨vs, SqL.of h1⟩, walkD_list (fun W1 x => x.fz q l _ gq h1) (h2.mono o xf)⟩⟩
      | frz l =>
        cases h
        obtain ⟨vs, h1, h2, h3⟩ := o.cell q _ e
        exact ⟨(fun r l e => nomatch e), .inl ⟨_, rfl, ⟨vs, SqL.of h1⟩, walkD_list (Wf := W) (fun W1 x => x.fz q l _ e h1) h2⟩⟩
      | _ => cases h
  | _ => cases h
theorem ji_seq {tg e : Expr} {c : CE} (h : JE X N E e c) : JI X N E tg e (ciSeq c) := PI.imp (pi_seq h) fun σ H R q => by
  obtain ⟨W, σd, k, kx, rfl, o, s, h, hk, hx⟩ := q
  refine tE.bind o s hx h fun W1 d v x1 o1 r1 s1 hx1 h1 => ?_
  cases e : itsOf W1.η d with
  | none => rw [e] at h1; cases h1
  | some it =>
    rw [e] at h1
    obtain ⟨fz, h | h⟩ := its_walk o1 r1 e
    · obtain ⟨a, e1, e2, e3⟩ := h
      exact .inl ⟨a, e1, e2, hk W1 it _ x1 o1 fz e3 h1⟩
    · obtain ⟨a, e1, e2, e3⟩ := h
      exact .inr ⟨a, e1, e2, hk W1 it _ x1 o1 fz e3 h1⟩
/-- range -/
def rangeD : Nat → Int → List D
  | 0, _ => []
  | n + 1, i => .int i :: rangeD n (i + 1)
theorem rangeD_len : ∀ (n : Nat) (i : Int), (rangeD n i).length = n
  | 0, _ => rfl
  | n + 1, i => by rw [rangeD, List.length_cons, rangeD_len n (i + 1)]
theorem rangeD_get : ∀ (n : Nat) (i : Int) (k : Nat), k < n → (rangeD n i)[k]? = some (.int (i + k))
  | 0, _, k, h => absurd h (by omega)
  | n + 1, i, 0, h => by rw [rangeD]; simp
  | n + 1, i, k + 1, h => by
    rw [rangeD]
    show (rangeD n (i + 1))[k]? = _
    rw [rangeD_get n (i + 1) k (by omega)]
    congr 2; omega
def rOk (i : Int) : Bool := Nat.ble i.natAbs 1000000000000000000
theorem rOk_ok {i : Int} (h : rOk i = true) : -(2 ^ 62) ≤ i ∧ i < 2 ^ 62 := by
  have := Nat.le_of_ble_eq_true h
  omega
def ciR1 (a : CA) : CI := fun σ η k kx => a σ η (fun ds η1 => match ds with
  | [.int j] => match rOk j with
    | true => k ⟨rangeD j.toNat 0, none⟩ η1
    | false => false
  | _ => false) kx
def ciR2 (a : CA) : CI := fun σ η k kx => a σ η (fun ds η1 => match ds with
  | [.int i, .int j] => match rOk i, rOk j with
    | true, true => k ⟨rangeD (j - i).toNat i, none⟩ η1
    | _, _ => false
  | _ => false) kx
theorem walkD_range {K : PySem.W.Frag} {Wf : Wl} {n : Nat} {i : Int} : WalkD K N Wf (rangeD n i) (Itr i n) := by
  refine ⟨fun W1 k x o hi => ?_, fun W1 x o => ?_, fun W1 k y H' x o hi hy => ?_⟩
  · rw [rangeD_len] at hi; exact hi
  · rw [rangeD_len]; exact Nat.le_refl _
  · obtain ⟨e1, e2⟩ := hy
    rw [rangeD_len] at hi
    exact ⟨W1, .int (i + k), rangeD_get n i k hi, Ext.refl W1, o, e1.symm, rfl, by rw [e2]; exact mkInt⟩
theorem ji_range1 {tg a : Expr} {ca : CA} {p pos : Pos} (hg : Gl X "range") (hm : X.mg "range" = none) (ha : JA X N E [a] ca) (hs : starEach [a] X.env = [(false, eval a X.env)] := by rfl) : JI X N E tg (.Call (.Name "range" p) [a] [] pos) (ciR1 ca) :=
  PI.imp (pi_range1 hg hm ha hs) fun σ H R q => by
    obtain ⟨W, σd, k, kx, rfl, o, s, h, hk, hx⟩ := q
    refine tAr.bind o s hx h fun W1 ds vs x1 o1 r1 s1 hx1 h1 => ?_
    match ds, r1, h1 with
    | [.int j], r1, h1 =>
      simp only at h1
      cases e : rOk j with
      | false => rw [e] at h1; cases h1
      | true =>
        rw [e] at h1
        obtain ⟨v, rfl, r⟩ := rel1 r1
        rw [relInt r]
        exact ⟨j, rfl, (rOk_ok e).1, (rOk_ok e).2, hk W1 _ _ x1 o1 (by intro r l e; cases e) walkD_range h1⟩
    | [], _, h1 => cases h1
    | [.non], _, h1 => cases h1
    | [.bl _], _, h1 => cases h1
    | [.str _], _, h1 => cases h1
    | [.tup _], _, h1 => cases h1
    | [.ref _], _, h1 => cases h1
    | _ :: _ :: _, _, h1 => simp at h1
theorem ji_range2 {tg a b : Expr} {ca : CA} {p pos : Pos} (hg : Gl X "range") (hm : X.mg "range" = none) (ha : JA X N E [a, b] ca) (hs : starEach [a, b] X.env = [(false, eval a X.env), (false, eval b X.env)] := by rfl) (hs2 : starEach [b] X.env = [(false, eval b X.env)] := by rfl) : JI X N E tg (.Call (.Name "range" p) [a, b] [] pos) (ciR2 ca) :=
  PI.imp (pi_range2 hg hm ha hs hs2) fun σ H R q => by
    obtain ⟨W, σd, k, kx, rfl, o, s, h, hk, hx⟩ := q
    refine tAr.bind o s hx h fun W1 ds vs x1 o1 r1 s1 hx1 h1 => ?_
    match ds, r1, h1 with
    | [x, y], r1, h1 =>
      obtain ⟨v, u, rfl, ra, rb⟩ := rel2 r1
      cases x with
      | int i =>
        cases y with
        | int j =>
          simp only at h1
          cases e : rOk i with
          | false => rw [e] at h1; cases h1
          | true =>
            cases e2 : rOk j with
            | false => rw [e, e2] at h1; cases h1
            | true =>
              rw [e, e2] at h1
              rw [relInt ra, relInt rb]
              exact ⟨i, j, rfl, ⟨(rOk_ok e).1, (rOk_ok e).2, (rOk_ok e2).1, (rOk_ok e2).2⟩, hk W1 _ _ x1 o1 (by intro r l e; cases e) walkD_range h1⟩
        | _ => cases h1
      | _ => cases h1
    | [], _, h1 => cases h1
    | [_], _, h1 => simp at h1
    | _ :: _ :: _ :: _, _, h1 => simp at h1
/-- reversed(list or tuple) -/
def itsRev (η : Hd) (d : D) : Option Its := match itsOf η d with
  | some it => some ⟨it.l.reverse, it.fz⟩
  | none => none
def ciRev (c : CE) : CI := fun σ η k kx => c σ η (fun d η1 => match itsRev η1 d with
  | some it => k it η1
  | none => false) kx
theorem rev_get {W : Wl} {l : List D} {vs : List V} {i : Nat} {x : V} (r : RelDs W l vs) (hi : i < l.length) (h : vs[vs.length - 1 - i]? = some x) : ∃ d, l.reverse[i]? = some d ∧ RelD W d x := by
  obtain ⟨d, e1, e2⟩ := r.get h
  refine ⟨d, ?_, e2⟩
  rw [List.getElem?_reverse hi, r.length]; exact e1
theorem ji_rev {tg e : Expr} {c : CE} {p pos : Pos} (hg : Gl X "reversed") (hm : X.mg "reversed" = none) (he : JE X N E e c) (hs : starEach [e] X.env = (false, eval e X.env) :: starEach [] X.env := by rfl) : JI X N E tg (.Call (.Name "reversed" p) [e] [] pos) (ciRev c) :=
  PI.imp (RT.pi_revA hg hm he hs) fun σ H R q => by
    obtain ⟨W, σd, k, kx, rfl, o, s, h, hk, hx⟩ := q
    refine tE.bind o s hx h fun W1 d v x1 o1 r1 s1 hx1 h1 => ?_
    unfold itsRev at h1
    cases e : itsOf W1.η d with
    | none => rw [e] at h1; cases h1
    | some it =>
      rw [e] at h1
      simp only at h1
      cases d with
      | tup l =>
        cases e
        obtain ⟨a, vs, rfl, hs, rs⟩ := relTup r1
        refine ⟨a, vs, rfl, .inr ⟨SqT.of hs, hk W1 ⟨l.reverse, none⟩ _ x1 o1 (fun r l e => nomatch e) ?_ h1⟩⟩
        have hl := rs.length
        refine ⟨fun W2 i x o hi => ?_, fun W2 x o => ?_, fun W2 i y H' x o hi hy => ?_⟩
        · rw [List.length_reverse] at hi
          exact ⟨by omega, vs, vs[vs.length - 1 - i]'(by omega), SqT.of (x.tx.tp _ _ hs), by simp [show vs.length - 1 - i < vs.length by omega]⟩
        · show vs.length ≤ l.reverse.length
          rw [List.length_reverse]; omega
        · rw [List.length_reverse] at hi
          obtain ⟨e1, e2⟩ := hy
          obtain ⟨d, e3, e4⟩ := rev_get (rs.tx x.tx) hi (e2 vs (SqT.of (x.tx.tp _ _ hs)))
          exact ⟨W2, d, e3, Ext.refl W2, o, e1.symm, rfl, e4⟩
      | ref q =>
        rw [relRef r1]
        have go : ∀ (it : Its) (vs : List V), FzOk W1 it → W1.H (W1.μ q) = some (.lst vs) → RelDs (it.w W1) it.l vs → (it.w W1).Ok X.K N.toNames → (∀ W2, Sty (it.w W1) W2 → W2.H (W1.μ q) = some (.lst vs)) → k ⟨it.l.reverse, it.fz⟩ W1.η = true → RT.iRevA X.K (fun σ H Q => Q (.ref (W1.μ q)) H) σ W1.H R := by
          intro it vs fz h1 rs of st hk1
          have hl := rs.length
          refine ⟨W1.μ q, vs, rfl, .inl ⟨SqL.of h1, hk W1 ⟨it.l.reverse, it.fz⟩ _ x1 o1 fz ?_ hk1⟩⟩
          show WalkD X.K N (it.w W1) it.l.reverse (Itv X.K (W1.μ q) vs.length)
          refine ⟨fun W2 i x o hi => ?_, fun W2 x o => ?_, fun W2 i y H' x o hi hy => ?_⟩
          · rw [List.length_reverse] at hi
            exact ⟨by omega, vs, vs[vs.length - 1 - i]'(by omega), SqL.of (st W2 x), by simp [show vs.length - 1 - i < vs.length by omega]⟩
          · show vs.length ≤ it.l.reverse.length
            rw [List.length_reverse]; omega
          · rw [List.length_reverse] at hi
            obtain ⟨e1, e2⟩ := hy
            obtain ⟨d, e3, e4⟩ := rev_get (rs.tx x.tx) hi (e2 vs (SqL.of (st W2 x)))
            exact ⟨W2, d, e3, Ext.refl W2, o, e1.symm, rfl, e4⟩
        simp only [itsOf] at e
        cases eg : W1.η.get q with
        | none => rw [eg] at e; cases e
        | some c =>
          rw [eg] at e
          cases c with
          | lst l =>
            cases e
            have fz : FzOk W1 ⟨l, some (q, l)⟩ := fun r l' e' => by cases e'; exact eg
            obtain ⟨vs, g1, g2, g3⟩ := o1.cell q _ eg
            obtain ⟨xf, of⟩ := Its.froze o1 fz
            have gq : (Its.w ⟨l, some (q, l)⟩ W1).η.get q = some (.frz l) := by
              show (frzAt q l W1.η).get q = some (.frz l)
              unfold frzAt
              rw [Hd.get_set, if_pos rfl, eg]; rfl
            exact go ⟨l, some (q, l)⟩ vs fz g1 (g2.mono o1 xf) of (fun W2 x => x.fz q l _ gq g1) h1
          | frz l =>
            cases e
            obtain ⟨vs, g1, g2, g3⟩ := o1.cell q _ eg
            exact go ⟨l, none⟩ vs (fun r l e => nomatch e) g1 g2 o1 (fun W2 x => x.fz q l _ eg g1) h1
          | _ => cases e
      | _ => cases e

/-! ### for -/
def forD (g : CG) (b : CS) (k : KS) : List D → SD → Hd → Bool
  | [], σ, η => k.nx σ η
  | d :: ds, σ, η => g d σ η (fun σ1 η1 => b σ1 η1 { k with nx := forD g b k ds, ct := forD g b k ds, bk := k.nx }) k.xc
def sFor (i : CI) (g : CG) (b : CS) : CS := fun σ η k => i σ η (fun it η1 => forD g b (k.thaw it) it.l σ (it.fr η1)) k.xc
theorem js_for {tg iter : Expr} {body : List Stmt} {ci : CI} {g : CG} {b : CS} {pos : Pos} (hp : PassesOwn (model X.prog X.w) X.A X.env X.xe) (hc : X.calm = true) (hi : JI X N E tg iter ci) (hg : JG X N E tg g) (hb : JB X N E body b)
    (hs : ∀ x, foldedSetIterable iter X.env x = pure x := by intro _; rfl) : JS X N E (.For tg iter body [] pos) (sFor ci g b) := PS.imp (ps_for hp hc hi hg hb hs) fun Z σ H q => by
  obtain ⟨W, σd, k, rfl, o, s, h, hk⟩ := q
  refine ⟨W, σd, _, k.xc, rfl, o, s, h, fun W1 it J x1 o1 fz wk h1 => ?_, hk.xc⟩
  obtain ⟨xf, of⟩ := Its.froze o1 fz
  have hk1 : Sk X.K N E (it.w W1) (k.thaw it) Z := (hk.mono o o1 x1).thaw o1 fz
  have s1 : RelS (it.w W1) σd σ := ((s.mono o x1).mono o1 xf)
  refine ⟨fun i m σ2 H2 => m = it.l.length - i ∧ i ≤ it.l.length ∧ ∃ W2 σd2, W2.H = H2 ∧ Ext (it.w W1) W2 ∧ W2.Ok X.K N.toNames ∧ RelS W2 σd2 σ2 ∧ forD g b (k.thaw it) (it.l.drop i) σd2 W2.η = true,
    ⟨it.l.length, by omega, Nat.zero_le _, it.w W1, σd, rfl, Ext.refl _, of, s1, h1⟩, ?_⟩
  rintro i m σ2 H2 ⟨rfl, hi, W2, σd2, rfl, x2, o2, s2, h2⟩
  by_cases hlt : i < it.l.length
  · refine .inr ⟨wk.go W2 i (x2.sty of) o2 hlt, fun σ3 H3 => ∃ W3 σd3, W3.H = H3 ∧ Ext (it.w W1) W3 ∧ W3.Ok X.K N.toNames ∧ RelS W3 σd3 σ3 ∧ forD g b (k.thaw it) (it.l.drop (i + 1)) σd3 W3.η = true, fun σ3 H3 p3 => ⟨it.l.length - (i + 1), by omega, rfl, hlt, p3⟩, fun y H3 hy => ?_⟩
    obtain ⟨W3, d, e3, x3, o3, eH, eη, r3⟩ := wk.yld W2 i y H3 (x2.sty of) o2 hlt hy
    subst eH
    have ed : it.l.drop i = d :: it.l.drop (i + 1) := by
      rw [List.drop_eq_getElem_cons hlt]
      have : it.l[i] = d := by
        have := List.getElem?_eq_getElem hlt
        rw [this] at e3; exact Option.some.inj e3
      rw [this]
    rw [ed] at h2
    have x03 := x2.trans of o2 x3
    have hk3 := hk1.mono of o3 x03
    refine ⟨W3, d, σd2, _, (k.thaw it).xc, rfl, o3, r3, s2.mono o2 x3, (by rw [eη]; exact h2), fun W4 σd4 σ4 x4 o4 s4 h4 => ?_, hk3.xc⟩
    have hk4 := hk3.mono o3 o4 x4
    have x04 := x03.trans of o3 x4
    exact ⟨W4, σd4, _, rfl, o4, s4, h4, ⟨fun W5 σd5 σ5 x5 o5 s5 h5 => ⟨W5, σd5, rfl, x04.trans of o4 x5, o5, s5, h5⟩, hk4.rt, hk4.nx, fun W5 σd5 σ5 x5 o5 s5 h5 => ⟨W5, σd5, rfl, x04.trans of o4 x5, o5, s5, h5⟩, hk4.xc⟩⟩
  · have e : i = it.l.length := by omega
    subst e
    rw [List.drop_length] at h2
    exact .inl ⟨wk.stop W2 (x2.sty of) o2, hk1.nx W2 σd2 σ2 x2 o2 s2 h2⟩

/-! ### while -/
def whileD (t : CT) (b : CS) (k : KS) : Nat → SD → Hd → Bool
  | 0, _, _ => false
  | n + 1, σ, η => t σ η (fun x η1 => match x with
    | true => b σ η1 { k with nx := whileD t b k n, ct := whileD t b k n, bk := k.nx }
    | false => k.nx σ η1) k.xc
def fuelW : Nat := 1000000
def sWhile (t : CT) (b : CS) : CS := fun σ η k => whileD t b k fuelW σ η
theorem js_while {c : Expr} {body : List Stmt} {t : CT} {b : CS} {pos : Pos} (hp : PassesOwn (model X.prog X.w) X.A X.env X.xe) (hc : JT X N E c t) (hb : JB X N E body b) : JS X N E (.While c body [] pos) (sWhile t b) := PS.imp (ps_while hp hc hb) fun Z σ H q => by
  obtain ⟨W, σd, k, rfl, o, s, h, hk⟩ := q
  refine ⟨fun m σ2 H2 => ∃ W2 σd2, W2.H = H2 ∧ Ext W W2 ∧ W2.Ok X.K N.toNames ∧ RelS W2 σd2 σ2 ∧ whileD t b k m σd2 W2.η = true, ⟨fuelW, W, σd, rfl, Ext.refl W, o, s, h⟩, ?_⟩
  rintro m σ2 H2 ⟨W2, σd2, rfl, x2, o2, s2, h2⟩
  cases m with
  | zero => cases h2
  | succ m =>
    have hk2 := hk.mono o o2 x2
    refine tT.bind o2 s2 hk2.xc h2 fun W3 y x3 o3 s3 hx3 h3 => ?_
    have x03 := x2.trans o o2 x3
    have hk3 := hk2.mono o2 o3 x3
    cases y with
    | true =>
      rw [if_pos rfl]
      refine ⟨fun σ4 H4 => ∃ W4 σd4, W4.H = H4 ∧ Ext W W4 ∧ W4.Ok X.K N.toNames ∧ RelS W4 σd4 σ4 ∧ whileD t b k m σd4 W4.η = true, fun σ4 H4 p => ⟨m, Nat.lt_succ_self m, p⟩, ?_⟩
      exact ⟨W3, σd2, _, rfl, o3, s3, h3, ⟨fun W5 σd5 σ5 x5 o5 s5 h5 => ⟨W5, σd5, rfl, x03.trans o o3 x5, o5, s5, h5⟩, hk3.rt, hk3.nx, fun W5 σd5 σ5 x5 o5 s5 h5 => ⟨W5, σd5, rfl, x03.trans o o3 x5, o5, s5, h5⟩, hk3.xc⟩⟩
    | false =>
      rw [if_neg (by decide)]
      exact hk3.nx W3 σd2 σ2 (Ext.refl W3) o3 s3 h3
end
end DL

/-! comprehensions -/
namespace DL
open PySem PySem.Spec L2
section
variable {X : Cx} {N : Nm} {E : XK}
/-! ### targets that store to slots of vs alone -/
def tGw (K : PySem.W.Frag) (N : Nm) (vs : List Nat) (c : CG) : TG := fun v σ H Q => ∃ W d σd k, W.H = H ∧ W.Ok K N.toNames ∧ RelD W d v ∧ RelS W σd σ ∧ c d σd W.η k (fun _ _ => false) = true ∧
  (∀ W' σd' σ', Ext W W' → W'.Ok K N.toNames → RelS W' σd' σ' → wipe σ' vs = wipe σ vs → k σd' W'.η = true → Q σ' W'.H)
def tGsw (K : PySem.W.Frag) (N : Nm) (vs : List Nat) (c : CGs) : TGs := fun us σ H Q => ∃ W ds σd k, W.H = H ∧ W.Ok K N.toNames ∧ RelDs W ds us ∧ RelS W σd σ ∧ c ds σd W.η k (fun _ _ => false) = true ∧
  (∀ W' σd' σ', Ext W W' → W'.Ok K N.toNames → RelS W' σd' σ' → wipe σ' vs = wipe σ vs → k σd' W'.η = true → Q σ' W'.H)
def JGw (X : Cx) (N : Nm) (vs : List Nat) (e : Expr) (c : CG) : Prop := PG X e (tGw X.K N vs c)
def JGsw (X : Cx) (N : Nm) (vs : List Nat) (e : List Expr) (c : CGs) : Prop := PGs X e (tGsw X.K N vs c)
theorem set_comm' {α : Type} (l : List α) (i j : Nat) (a b : α) (h : i ≠ j) : (l.set i a).set j b = (l.set j b).set i a := List.set_comm a b h
theorem wipe_set : ∀ (vs : List Nat) (σ : St) (i : Nat) (x : Option V), i ∈ vs → wipe (σ.set i x) vs = wipe σ vs
  | [], σ, i, x, h => nomatch h
  | v :: vs, σ, i, x, h => by
    by_cases z : i ∈ vs
    · show (wipe (σ.set i x) vs).set v none = (wipe σ vs).set v none
      rw [wipe_set vs σ i x z]
    · have e : i = v := by
        rcases List.mem_cons.mp h with e | e
        · exact e
        · exact absurd e z
      subst e
      show (wipe (σ.set i x) vs).set i none = (wipe σ vs).set i none
      have gen : ∀ (vs : List Nat) (σ : St), i ∉ vs → (wipe (σ.set i x) vs).set i none = (wipe σ vs).set i none := by
        intro vs
        induction vs with
        | nil => intro σ _; show (σ.set i x).set i none = σ.set i none; exact List.set_set _
        | cons u us ih =>
          intro σ hn
          have hu : u ≠ i := fun z => hn (by rw [z]; exact List.mem_cons_self)
          have hus : i ∉ us := fun z => hn (List.mem_cons_of_mem _ z)
          show ((wipe (σ.set i x) us).set u none).set i none = ((wipe σ us).set u none).set i none
          rw [set_comm' _ _ _ _ _ hu, set_comm' _ _ _ _ _ hu, ih σ hus]
      exact gen vs σ z
theorem wipe_wipe : ∀ (us : List Nat) (σ : St), wipe (wipe σ us) us = wipe σ us := by
  intro us
  induction us with
  | nil => intro σ; rfl
  | cons u us ih =>
    intro σ
    show (wipe ((wipe σ us).set u none) us).set u none = (wipe σ us).set u none
    by_cases z : u ∈ us
    · rw [wipe_set us _ u none z, ih]
    · have gen : ∀ (us : List Nat) (σ : St), u ∉ us → wipe (σ.set u none) us = (wipe σ us).set u none := by
        intro us
        induction us with
        | nil => intro σ _; rfl
        | cons a us ih2 =>
          intro σ hn
          have ha : u ≠ a := fun z => hn (by rw [z]; exact List.mem_cons_self)
          show (wipe (σ.set u none) us).set a none = ((wipe σ us).set a none).set u none
          rw [ih2 σ (fun z => hn (List.mem_cons_of_mem _ z)), set_comm' _ _ _ _ _ ha]
      rw [gen us _ z, ih, List.set_set]
theorem jgw_name {vs : List Nat} {i : Nat} {x : Str} {pos : Pos} (h : PG X (.Name x pos) (gName i)) (hi : i ∈ vs := by decide) : JGw X N vs (.Name x pos) (gNm i) := PG.imp h fun v σ H Q q => by
  obtain ⟨W, d, σd, k, rfl, o, r, s, h, hk⟩ := q
  exact hk W _ _ (Ext.refl W) o (s.set i r) (wipe_set vs σ i _ hi) h
theorem jgsw_nil {vs : List Nat} : JGsw X N vs [] gsNil := PGs.imp pgs_nil fun v σ H Q q => by
  obtain ⟨W, ds, σd, k, rfl, o, r, s, h, hk⟩ := q
  cases ds with
  | nil => rw [RelDs] at r; exact ⟨r, hk W _ _ (Ext.refl W) o s rfl h⟩
  | cons _ _ => cases h
theorem jgsw_cons {vs : List Nat} {e : Expr} {es : List Expr} {g : CG} {r : CGs} (hg : JGw X N vs e g) (hr : JGsw X N vs es r) (ha : ((assignEach (e :: es) X.env).map (·.2)) = assign e X.env :: ((assignEach es X.env).map (·.2)) := by rfl) : JGsw X N vs (e :: es) (gsCons g r) := PGs.imp (pgs_cons hg hr ha) fun v σ H Q q => by
  obtain ⟨W, ds, σd, k, rfl, o, rr, s, h, hk⟩ := q
  cases ds with
  | nil => cases h
  | cons d ds =>
    rw [RelDs] at rr
    obtain ⟨v, vs', rfl, r1, r2⟩ := rr
    exact ⟨v, vs', rfl, W, d, σd, _, rfl, o, r1, s, h, fun W1 σd1 σ1 x1 o1 s1 w1 h1 => ⟨W1, ds, σd1, k, rfl, o1, r2.mono o x1, s1, h1, fun W2 σd2 σ2 x2 o2 s2 w2 h2 => hk W2 σd2 σ2 (x1.trans o o1 x2) o2 s2 (w2.trans w1) h2⟩⟩
theorem jgw_tup {vs : List Nat} {es : List Expr} {kk : Nat} {pos : Pos} {r : CGs} {n : Nat} (hc : X.calm = true) (h : JGsw X N vs es r) (hl : (assignEach es X.env).length = n := by rfl) (hf : (assignEach es X.env).findIdx? (·.1) = none := by rfl) : JGw X N vs (.Tuple es kk pos) (gTp n r) :=
  PG.imp (pg_tup (n := n) hc h hl hf) fun v σ H Q q => by
    obtain ⟨W, d, σd, k, rfl, o, rr, s, h, hk⟩ := q
    cases d with
    | tup ds =>
      simp only [gTp] at h
      cases e : Nat.beq ds.length n with
      | false => rw [e] at h; cases h
      | true =>
        rw [e] at h
        obtain ⟨a, vs', rfl, hs, rs⟩ := relTup rr
        exact ⟨a, vs', rfl, SqT.of hs, by rw [← rs.length]; exact Nat.eq_of_beq_eq_true e, W, ds, σd, k, rfl, o, rs, s, h, hk⟩
    | _ => cases h
/-! ### the tests -/
def JTs (X : Cx) (N : Nm) (E : XK) (ifs : List Expr) (c : CT) : Prop := PTs X ifs (tT X.K N E c)
theorem PTs.imp {ifs : List Expr} {t t' : TT} (h : PTs X ifs t) (f : ∀ σ H Q, t' σ H Q → t σ H Q) : PTs X ifs t' := ⟨fun pins s σ H Q I q => h.run pins s σ H Q I (f σ H Q q)⟩
def ctYes : CT := fun _ η k _ => k true η
theorem jts_nil : JTs X N E [] ctYes := PTs.imp pts_nil fun σ H Q q => by
  obtain ⟨W, σd, k, kx, rfl, o, s, h, hk, hx⟩ := q
  exact hk W true (Ext.refl W) o h
theorem jts_one {c : Expr} {t : CT} (h : JT X N E c t) : JTs X N E [c] t := pts_one h
/-! ### the block -/
def wipeD (σ : SD) : List Nat → SD
  | [] => σ
  | v :: vs => (wipeD σ vs).set v none
theorem RelS.wipe {W : Wl} {σd : SD} {σ : St} (h : RelS W σd σ) : ∀ vs : List Nat, RelS W (wipeD σd vs) (L2.wipe σ vs)
  | [] => h
  | v :: vs => (RelS.wipe h vs).none_at v none
def kF : KX := fun _ _ => false
theorem Xk.never {K : PySem.W.Frag} {W : Wl} : Xk K N E W kF := fun _ _ _ _ _ _ _ h => nomatch h
def lcD (g : CG) (t : CT) (e : CE) (σ : SD) (k : List D → Hd → Bool) : List D → Nat → List D → Hd → Bool
  | [], _, acc, η => k acc.reverse η
  | _ :: _, 0, _, _ => false
  | d :: ds, n + 1, acc, η => g d σ η (fun σ1 η1 => t σ1 η1 (fun b η2 => match b with
    | true => e σ1 η2 (fun y η3 => lcD g t e σ k ds n (y :: acc) η3) kF
    | false => lcD g t e σ k ds n acc η2) kF) kF
def Hd.bump (η : Hd) : Hd := ⟨Nat.succ η.nx, η.cs⟩
def line1 : Nat := 16777215
def cLc (i : CI) (g : CG) (t : CT) (e : CE) (vs : List Nat) : CE := fun σ η kv kx => i σ η (fun it η1 => lcD g t e (wipeD σ vs) (fun acc η2 => kv (.ref η1.nx) ((it.un η2).add η1.nx (.lst acc))) it.l line1 [] (Hd.bump (it.fr η1))) kx
/-- the worlds of a comprehension's loop: the list's own cell g laid aside -/
structure Lc (K : PySem.W.Frag) (N : Nm) (Wb : Wl) (g : Nat) (Da : Addr) (W : Wl) (acc : List D) : Prop where
  ok : W.Ok K N.toNames
  off : W.η.get g = none
  x : Ext Wb ⟨W.μ, W.η.add g (.lst acc.reverse), W.H⟩
  og : Wl.Ok K N.toNames ⟨W.μ, W.η.add g (.lst acc.reverse), W.H⟩
  at_ : W.μ g = Da
theorem Lc.drop {K : PySem.W.Frag} {Wb W0 : Wl} {g : Nat} {Da : Addr} {W : Wl} {acc : List D} (h : Lc K N Wb g Da W acc) (ob : Wb.Ok K N.toNames) (o0 : W0.Ok K N.toNames) (x0 : Ext W0 Wb) : Ext W0 W := by
  have := (x0.trans o0 ob h.x).drop (η' := W.η) h.og rfl (fun r c e => by
    show (W.η.add g (.lst acc.reverse)).get r = some c
    rw [Hd.get_add]
    by_cases z : r = g
    · rw [z, h.off] at e; cases e
    · rw [if_neg z]; exact e)
  exact this.1
theorem Hd.set_add (η : Hd) (g : Nat) (c c' : Cell) : (η.add g c).set g c' = η.add g c' := by
  unfold Hd.add Hd.set put
  simp [Nat.beq_refl]
/-- behind a step, the list's cell laid again and one item more -/
theorem Lc.grow {K : PySem.W.Frag} {Wb : Wl} {g : Nat} {Da : Addr} {W W2 : Wl} {acc : List D} {y : D} {v : V} (h : Lc K N Wb g Da W acc) (ob : Wb.Ok K N.toNames) (x : Ext W W2) (o2 : W2.Ok K N.toNames) (r : RelD W2 y v) (hl : acc.length < sizeLine) :
    ∃ vs, W2.H Da = some (.lst vs) ∧ vs.length < sizeLine ∧ Lc K N Wb g Da ⟨W2.μ, W2.η, upd W2.H Da (.lst (vs ++ [v]))⟩ (y :: acc) ∧ Tx W2 ⟨W2.μ, W2.η, upd W2.H Da (.lst (vs ++ [v]))⟩ := by
  have gg : (W.η.add g (.lst acc.reverse)).get g = some (.lst acc.reverse) := by rw [Hd.get_add, if_pos rfl]
  have gnx : g < W.η.nx := h.og.lt g _ gg
  obtain ⟨x2, og2⟩ := h.og.readd (W2 := W2) (g := g) gg (η0 := W.η) rfl (fun q => by
    show W.η.get q = if q = g then none else (W.η.add g (.lst acc.reverse)).get q
    by_cases z : q = g
    · rw [if_pos z, z, h.off]
    · rw [if_neg z, Hd.get_add, if_neg z]) x o2
  have gg2 : (W2.η.add g (.lst acc.reverse)).get g = some (.lst acc.reverse) := by rw [Hd.get_add, if_pos rfl]
  have ma : W2.μ g = Da := by rw [x.mu g gnx, h.at_]
  obtain ⟨vs, h1, h2, h3⟩ := og2.cell g _ gg2
  have h1' : W2.H Da = some (.lst vs) := by rw [← ma]; exact h1
  have hlen : vs.length = acc.length := by rw [← h2.length, List.length_reverse]
  have t2 : Tx W2 ⟨W2.μ, W2.η.add g (.lst acc.reverse), W2.H⟩ := ⟨Nat.le_refl _, fun _ _ => rfl, fun _ _ e => e⟩
  obtain ⟨x3, og3⟩ := og2.put (r := g) (c0 := .lst acc.reverse) (c := .lst (acc.reverse ++ [y])) (ob := .lst (vs ++ [v])) gg2 rfl (fun xx => ⟨_, upd_same, (h2.mono og2 xx).append (.cons ((r.tx t2).mono og2 xx) .nil), by rw [List.length_append, List.length_reverse]; show acc.length + 1 ≤ sizeLine; omega⟩)
  have eW : Wl.put ⟨W2.μ, W2.η.add g (.lst acc.reverse), W2.H⟩ g (.lst (acc.reverse ++ [y])) (.lst (vs ++ [v])) = ⟨W2.μ, W2.η.add g (.lst (y :: acc).reverse), upd W2.H Da (.lst (vs ++ [v]))⟩ := by
    unfold Wl.put
    show Wl.mk W2.μ ((W2.η.add g (.lst acc.reverse)).set g (.lst (acc.reverse ++ [y]))) (upd W2.H (W2.μ g) (.lst (vs ++ [v]))) = _
    rw [Hd.set_add, ma, List.reverse_cons]
  rw [eW] at x3 og3
  have off2 : W2.η.get g = none := by
    cases e : W2.η.get g with
    | none => rfl
    | some c =>
      rcases x.cs g c e with ⟨c0, e0, _⟩ | ⟨h4, _⟩
      · rw [h.off] at e0; cases e0
      · omega
  have xb : Ext Wb ⟨W2.μ, W2.η.add g (.lst (y :: acc).reverse), upd W2.H Da (.lst (vs ++ [v]))⟩ := (h.x.trans ob h.og x2).trans ob og2 x3
  have sub : ∀ r c, W2.η.get r = some c → (W2.η.add g (.lst (y :: acc).reverse)).get r = some c := fun r c e => by
    rw [Hd.get_add]
    by_cases z : r = g
    · rw [z, off2] at e; cases e
    · rw [if_neg z]; exact e
  have dr := xb.drop (η' := W2.η) og3 rfl sub
  refine ⟨vs, h1', by omega, ⟨dr.2, off2, xb, og3, ma⟩, Nat.le_refl _, fun _ _ => rfl, fun a us e => ?_⟩
  show upd W2.H Da _ a = some (.tup us)
  rw [upd_ne (fun z => by rw [z, h1'] at e; cases e)]; exact e
/-- behind a step without an item -/
theorem Lc.step {K : PySem.W.Frag} {Wb : Wl} {g : Nat} {Da : Addr} {W W2 : Wl} {acc : List D} (h : Lc K N Wb g Da W acc) (ob : Wb.Ok K N.toNames) (x : Ext W W2) (o2 : W2.Ok K N.toNames) : Lc K N Wb g Da W2 acc := by
  have gg : (W.η.add g (.lst acc.reverse)).get g = some (.lst acc.reverse) := by rw [Hd.get_add, if_pos rfl]
  have gnx : g < W.η.nx := h.og.lt g _ gg
  obtain ⟨x2, og2⟩ := h.og.readd (W2 := W2) (g := g) gg (η0 := W.η) rfl (fun q => by
    show W.η.get q = if q = g then none else (W.η.add g (.lst acc.reverse)).get q
    by_cases z : q = g
    · rw [if_pos z, z, h.off]
    · rw [if_neg z, Hd.get_add, if_neg z]) x o2
  refine ⟨o2, ?_, h.x.trans ob h.og x2, og2, by rw [x.mu g gnx, h.at_]⟩
  cases e : W2.η.get g with
  | none => rfl
  | some c =>
    rcases x.cs g c e with ⟨c0, e0, _⟩ | ⟨h4, _⟩
    · rw [h.off] at e0; cases e0
    · omega
/-- the start of a comprehension's list -/
theorem Lc.start {K : PySem.W.Frag} {Wf : Wl} {Da : Addr} (of : Wf.Ok K N.toNames) (hD : Wf.H Da = none) : (∃ ob : (Wf.new Da (.lst []) (.lst [])).Ok K N.toNames, Ext Wf (Wf.new Da (.lst []) (.lst []))) ∧
    Lc K N (Wf.new Da (.lst []) (.lst [])) Wf.η.nx Da ⟨(Wf.new Da (.lst []) (.lst [])).μ, Hd.bump Wf.η, upd Wf.H Da (.lst [])⟩ [] := by
  obtain ⟨x, o⟩ := of.new (c := .lst []) (ob := .lst []) hD ⟨[], upd_same, .nil, Nat.zero_le _⟩
  have off : (Hd.bump Wf.η).get Wf.η.nx = none := by
    cases e : Wf.η.get Wf.η.nx with
    | none => exact e
    | some c => exact absurd (of.lt _ c e) (Nat.lt_irrefl _)
  have e : Wl.mk (Wf.new Da (.lst []) (.lst [])).μ ((Hd.bump Wf.η).add Wf.η.nx (.lst [])) (upd Wf.H Da (.lst [])) = Wf.new Da (.lst []) (.lst []) := rfl
  have dr := x.drop (η' := Hd.bump Wf.η) o rfl (fun r c h => by
    show (Wf.η.new (.lst [])).get r = some c
    rw [Hd.get_new]
    by_cases z : r = Wf.η.nx
    · rw [z, off] at h; cases h
    · rw [if_neg z]; exact h)
  exact ⟨⟨o, x⟩, dr.2, off, (by rw [List.reverse_nil, e]; exact Ext.refl _), (by rw [List.reverse_nil, e]; exact o), Wl.new_mu Wf Da (.lst []) (.lst [])⟩
theorem Its.un_add (it : Its) (η : Hd) (g : Nat) (c : Cell) (h : ∀ r l, it.fz = some (r, l) → r ≠ g) : it.un (η.add g c) = (it.un η).add g c := by
  unfold Its.un
  cases e : it.fz with
  | none => rfl
  | some p =>
    obtain ⟨r, l⟩ := p
    have hne := h r l e
    have e2 : Nat.beq g r = false := by
      cases z : Nat.beq g r with
      | false => rfl
      | true => exact absurd (Nat.eq_of_beq_eq_true z).symm hne
    show unfAt r l (η.add g c) = (unfAt r l η).add g c
    unfold unfAt Hd.set Hd.add
    have : put r (Cell.lst l) ((g, c) :: η.cs) = (g, c) :: put r (Cell.lst l) η.cs := by
      rw [put]; simp only [e2]
    simp only [this]
theorem lc_of {E' : XK} {K : PySem.W.Frag} {ci : CI} {g : CG} {t : CT} {e : CE} {vs : List Nat} {σ : St} {H : Hp} {Q : VK} (h : tE K N E (cLc ci g t e vs) σ H Q) : tLc (tI K N E ci) (tGw K N vs g) (tT K N E' t) (tE K N E' e) vs σ H Q := by
  obtain ⟨W, σd, kv, kx, rfl, o, s, h, hv, hx⟩ := h
  refine ⟨W, σd, _, kx, rfl, o, s, h, fun W1 it J x1 o1 fz wk h1 => fun Da hD => ?_, hx⟩
  obtain ⟨xf, of⟩ := Its.froze o1 fz
  have enx : (it.w W1).η.nx = W1.η.nx := by
    unfold Its.w Its.fr
    cases it.fz with
    | none => rfl
    | some p => rfl
  obtain ⟨⟨ob, xb⟩, L0⟩ := Lc.start (N := N) (Da := Da) of hD
  generalize hWb : (it.w W1).new Da (.lst []) (.lst []) = Wb at ob xb L0
  rw [enx] at L0
  have s0 : RelS (it.w W1) (wipeD σd vs) (wipe σ vs) := ((s.mono o x1).mono o1 xf).wipe vs
  refine ⟨fun i m H2 => m = it.l.length - i ∧ i ≤ it.l.length ∧ ∃ W2 acc n, W2.H = H2 ∧ Lc K N Wb W1.η.nx Da W2 acc ∧ acc.length + n ≤ line1 ∧ lcD g t e (wipeD σd vs) (fun acc η2 => kv (.ref W1.η.nx) ((it.un η2).add W1.η.nx (.lst acc))) (it.l.drop i) n acc W2.η = true,
    ⟨it.l.length, by omega, Nat.zero_le _, _, [], line1, rfl, L0, by simp, h1⟩, ?_⟩
  rintro i m H2 ⟨rfl, hi, W2, acc, n, rfl, L2', hn, h2⟩
  have xf2 : Ext (it.w W1) W2 := L2'.drop ob of xb
  have s2 : RelS W2 (wipeD σd vs) (wipe σ vs) := s0.mono of xf2
  by_cases hlt : i < it.l.length
  · refine .inr ⟨wk.go W2 i (xf2.sty of) L2'.ok hlt, fun H3 => ∃ W3 acc n, W3.H = H3 ∧ Lc K N Wb W1.η.nx Da W3 acc ∧ acc.length + n ≤ line1 ∧ lcD g t e (wipeD σd vs) (fun acc η2 => kv (.ref W1.η.nx) ((it.un η2).add W1.η.nx (.lst acc))) (it.l.drop (i + 1)) n acc W3.η = true, fun H3 p3 => ⟨it.l.length - (i + 1), by omega, rfl, hlt, p3⟩, fun y H3 hy => ?_⟩
    obtain ⟨W3, d, e3, x3, o3, eH, eη, r3⟩ := wk.yld W2 i y H3 (xf2.sty of) L2'.ok hlt hy
    subst eH
    have ed : it.l.drop i = d :: it.l.drop (i + 1) := by
      rw [List.drop_eq_getElem_cons hlt]
      have : it.l[i] = d := by
        have := List.getElem?_eq_getElem hlt
        rw [this] at e3; exact Option.some.inj e3
      rw [this]
    rw [ed] at h2
    cases n with
    | zero => cases h2
    | succ n =>
      refine ⟨W3, d, wipeD σd vs, _, rfl, o3, r3, s2.mono L2'.ok x3, (by rw [eη]; exact h2), fun W4 σd4 σ4 x4 o4 s4 w4 h4 => ⟨w4.trans (wipe_wipe vs σ), ?_⟩⟩
      refine tT.bind (kx := kF) o4 s4 Xk.never h4 fun W5 b x5 o5 s5 hx5 h5 => ?_
      have x25 : Ext W2 W5 := x3.trans L2'.ok o3 (x4.trans o3 o4 x5)
      cases b with
      | true =>
        rw [if_pos rfl]
        refine tE.bind (kx := kF) o5 s5 Xk.never h5 fun W6 dy vy x6 o6 r6 s6 hx6 h6 => ?_
        have hll : line1 = 16777215 := rfl
        have hls : sizeLine = 16777216 := rfl
        obtain ⟨us, g1, g2, L6, t6⟩ := L2'.grow ob (x25.trans L2'.ok o5 x6) o6 r6 (by omega)
        exact ⟨us, g1, g2, _, dy :: acc, n, rfl, L6, by rw [List.length_cons]; omega, h6⟩
      | false =>
        rw [if_neg (by decide)]
        exact ⟨W5, acc, n, rfl, L2'.step ob x25 o5, by omega, h5⟩
  · have ei : i = it.l.length := by omega
    subst ei
    rw [List.drop_length] at h2
    refine .inl ⟨wk.stop W2 (xf2.sty of) L2'.ok, ?_⟩
    have h2' : kv (.ref W1.η.nx) ((it.un W2.η).add W1.η.nx (.lst acc.reverse)) = true := h2
    have xg : Ext (it.w W1) ⟨W2.μ, W2.η.add W1.η.nx (.lst acc.reverse), W2.H⟩ := xb.trans of ob L2'.x
    obtain ⟨xt, ot⟩ := Its.thaw o1 fz xg L2'.og
    have eu : it.un (W2.η.add W1.η.nx (.lst acc.reverse)) = (it.un W2.η).add W1.η.nx (.lst acc.reverse) := Its.un_add it _ _ _ fun r l er => Nat.ne_of_lt (o1.lt r _ (fz r l er))
    refine hv ⟨W2.μ, it.un (W2.η.add W1.η.nx (.lst acc.reverse)), W2.H⟩ (.ref W1.η.nx) (.ref Da) (x1.trans o o1 xt) ot ?_ (by show kv _ (it.un (W2.η.add W1.η.nx (.lst acc.reverse))) = true; rw [eu]; exact h2')
    rw [RelD]
    refine ⟨?_, by rw [L2'.at_]⟩
    show W1.η.nx < (it.un (W2.η.add W1.η.nx (.lst acc.reverse))).nx
    rw [Its.un_nx]
    exact L2'.og.lt W1.η.nx (.lst acc.reverse) (by show (W2.η.add W1.η.nx (.lst acc.reverse)).get _ = _; rw [Hd.get_add, if_pos rfl])
theorem je_lc {E' : XK} {elt tg iter : Expr} {ifs : List Expr} {scope : Scope} {own : List (Str × Nat)} {pos : Pos} {ci : CI} {g : CG} {t : CT} {e : CE} (hc : X.calm = true) (hN : X.N.Nodup) (hi : JI X N E tg iter ci) (ok : BlkOk X.N X.env.scope scope own)
    (hg : ∀ (s : Shared) (H : Hp) (C : Addr) (cl : List (Str × Addr)) (fp : List Addr), JGw (X.blk s H scope (compEnvC scope cl C X.env) fp) N (own.map (·.2)) tg g) (ht : ∀ (s : Shared) (H : Hp) (C : Addr) (cl : List (Str × Addr)) (fp : List Addr), JTs (X.blk s H scope (compEnvC scope cl C X.env) fp) N E' ifs t)
    (he : ∀ (s : Shared) (H : Hp) (C : Addr) (cl : List (Str × Addr)) (fp : List Addr), JE (X.blk s H scope (compEnvC scope cl C X.env) fp) N E' elt e) (hs : ∀ x, foldedSetIterable iter X.env x = pure x := by intro _; rfl) :
    JE X N E (.ListComp elt [⟨tg, iter, ifs, 0⟩] scope pos) (cLc ci g t e (own.map (·.2))) := PE.imp (pe_lc (g := tGw X.K N (own.map (fun p : Str × Nat => p.2)) g) (tt := tT X.K N E' t) (te := tE X.K N E' e) hc hN hi ok hg ht he hs) fun σ H Q q => lc_of q
/-- y = [..] on one line, y a local -/
theorem js_setLc {E' : XK} {i : Nat} {y : Str} {py : Pos} {elt tg iter : Expr} {ifs : List Expr} {scope : Scope} {own : List (Str × Nat)} {pos spos : Pos} {ci : CI} {g : CG} {t : CT} {e : CE} (hc : X.calm = true) (hN : X.N.Nodup) (hy : X.N[i]? = some y) (hyl : X.env.scope.names.lookup y = some .local)
    (hsw : swapsWith (.ListComp elt [⟨tg, iter, ifs, 0⟩] scope pos) (some (.Name y py)) spos.line X.env = pure true) (hi : JI X N E tg iter ci) (ok : BlkOk X.N X.env.scope scope own)
    (hg : ∀ (s : Shared) (H : Hp) (C : Addr) (cl : List (Str × Addr)) (fp : List Addr), JGw (X.blk s H scope (compEnvC scope cl C X.env) fp) N (own.map (·.2)) tg g) (ht : ∀ (s : Shared) (H : Hp) (C : Addr) (cl : List (Str × Addr)) (fp : List Addr), JTs (X.blk s H scope (compEnvC scope cl C X.env) fp) N E' ifs t)
    (he : ∀ (s : Shared) (H : Hp) (C : Addr) (cl : List (Str × Addr)) (fp : List Addr), JE (X.blk s H scope (compEnvC scope cl C X.env) fp) N E' elt e) (hs : ∀ x, foldedSetIterable iter X.env x = pure x := by intro _; rfl) :
    JS X N E (.Assign [.Name y py] (.ListComp elt [⟨tg, iter, ifs, 0⟩] scope pos) spos) (sAsg (cLc ci g t e (own.map (·.2))) (gNm i)) :=
  PS.imp (ps_setLc (g := tGw X.K N (own.map (fun p : Str × Nat => p.2)) g) (tt := tT X.K N E' t) (te := tE X.K N E' e) hc hN hy hyl hsw hi ok hg ht he hs) fun Z σ H q => tAsg_name (fun _ _ _ h => lc_of h) q
/-! ### two fors -/
def lcIn (g : CG) (t : CT) (e : CE) (σ : SD) (k : List D → Nat → Hd → Bool) : List D → Nat → List D → Hd → Bool
  | [], n, acc, η => k acc n η
  | _ :: _, 0, _, _ => false
  | d :: ds, n + 1, acc, η => g d σ η (fun σ1 η1 => t σ1 η1 (fun b η2 => match b with
    | true => e σ1 η2 (fun y η3 => lcIn g t e σ k ds n (y :: acc) η3) kF
    | false => lcIn g t e σ k ds n acc η2) kF) kF
def lcD2 (g : CG) (t : CT) (i1 : CI) (g1 : CG) (t1 : CT) (e : CE) (vs1 : List Nat) (σ : SD) (k : List D → Hd → Bool) : List D → Nat → List D → Hd → Bool
  | [], _, acc, η => k acc.reverse η
  | d :: ds, n, acc, η => g d σ η (fun σ1 η1 => t σ1 η1 (fun b η2 => match b with
    | true => i1 σ1 η2 (fun it η3 => lcIn g1 t1 e (wipeD σ1 vs1) (fun acc n η4 => lcD2 g t i1 g1 t1 e vs1 σ k ds n acc (it.un η4)) it.l n acc (it.fr η3)) kF
    | false => lcD2 g t i1 g1 t1 e vs1 σ k ds n acc η2) kF) kF
def cLc2 (i : CI) (g : CG) (t : CT) (i1 : CI) (g1 : CG) (t1 : CT) (e : CE) (vs vs1 : List Nat) : CE := fun σ η kv kx => i σ η (fun it η1 => lcD2 g t i1 g1 t1 e vs1 (wipeD σ vs) (fun acc η2 => kv (.ref η1.nx) ((it.un η2).add η1.nx (.lst acc))) it.l line1 [] (Hd.bump (it.fr η1))) kx
theorem Its.fr_add (it : Its) (η : Hd) (g : Nat) (c : Cell) (h : ∀ r l, it.fz = some (r, l) → r ≠ g) : it.fr (η.add g c) = (it.fr η).add g c := by
  unfold Its.fr
  cases e : it.fz with
  | none => rfl
  | some p =>
    obtain ⟨r, l⟩ := p
    have hne := h r l e
    have e2 : Nat.beq g r = false := by
      cases z : Nat.beq g r with
      | false => rfl
      | true => exact absurd (Nat.eq_of_beq_eq_true z).symm hne
    show frzAt r l (η.add g c) = (frzAt r l η).add g c
    unfold frzAt Hd.set Hd.add
    have : put r (Cell.frz l) ((g, c) :: η.cs) = (g, c) :: put r (Cell.frz l) η.cs := by
      rw [put]; simp only [e2]
    simp only [this]
theorem Its.fr_none (it : Its) {η : Hd} {g : Nat} (h : η.get g = none) : (it.fr η).get g = none := by
  unfold Its.fr
  cases e : it.fz with
  | none => exact h
  | some p =>
    obtain ⟨r, l⟩ := p
    show (η.set r (.frz l)).get g = none
    rw [Hd.get_set]
    by_cases z : g = r
    · rw [if_pos z, ← z, h]; rfl
    · rw [if_neg z]; exact h
theorem Its.un_none (it : Its) {η : Hd} {g : Nat} (h : η.get g = none) : (it.un η).get g = none := by
  unfold Its.un
  cases e : it.fz with
  | none => exact h
  | some p =>
    obtain ⟨r, l⟩ := p
    show (η.set r (.lst l)).get g = none
    rw [Hd.get_set]
    by_cases z : g = r
    · rw [if_pos z, ← z, h]; rfl
    · rw [if_neg z]; exact h
/-- a walk within: its cell frozen over the list that grows -/
theorem Lc.freeze {K : PySem.W.Frag} {Wb : Wl} {g : Nat} {Da : Addr} {W : Wl} {acc : List D} {it : Its} (h : Lc K N Wb g Da W acc) (fz : FzOk W it) :
    ∃ Wf, Wf.Ok K N.toNames ∧ Lc K N Wf g Da (it.w W) acc ∧ (∀ W2 acc2, Lc K N Wf g Da W2 acc2 → Sty (it.w W) W2) ∧ (Wb.Ok K N.toNames → ∀ W2 acc2, Lc K N Wf g Da W2 acc2 → Lc K N Wb g Da ⟨W2.μ, it.un W2.η, W2.H⟩ acc2) := by
  have ne : ∀ r l, it.fz = some (r, l) → r ≠ g := fun r l e z => by
    have := fz r l e
    rw [z, h.off] at this; cases this
  have fzg : FzOk ⟨W.μ, W.η.add g (.lst acc.reverse), W.H⟩ it := fun r l e => by
    show (W.η.add g (.lst acc.reverse)).get r = some (.lst l)
    rw [Hd.get_add, if_neg (ne r l e)]; exact fz r l e
  obtain ⟨xf, of⟩ := Its.froze h.og fzg
  have ew : it.w ⟨W.μ, W.η.add g (.lst acc.reverse), W.H⟩ = ⟨W.μ, (it.fr W.η).add g (.lst acc.reverse), W.H⟩ := by
    show Wl.mk W.μ (it.fr (W.η.add g (.lst acc.reverse))) W.H = _
    rw [Its.fr_add it _ _ _ ne]
  rw [ew] at xf of
  refine ⟨⟨W.μ, (it.fr W.η).add g (.lst acc.reverse), W.H⟩, of, ⟨(Its.froze h.ok fz).2, Its.fr_none it h.off, Ext.refl _, of, h.at_⟩, fun W2 acc2 L => ⟨?_, fun r l us hr hv => ?_⟩, fun ob W2 acc2 L => ?_⟩
  · have t := L.x.tx of
    exact ⟨t.nx, t.mu, t.tp⟩
  · refine L.x.fr _ _ hv (fun _ z => nomatch z) fun q c e m z => ?_
    have hr' : ((it.fr W.η).add g (.lst acc.reverse)).get r = some (.frz l) := by
      rw [Hd.get_add]
      by_cases y : r = g
      · have hr2 : (it.fr W.η).get r = some (.frz l) := hr
        rw [y, Its.fr_none it h.off] at hr2; cases hr2
      · rw [if_neg y]; exact hr
    by_cases y : q = r
    · rw [y] at e
      have e' : ((it.fr W.η).add g (.lst acc.reverse)).get r = some c := e
      rw [hr'] at e'; cases e'; cases m
    · exact of.apart hr' e y z
  · have x2 : Ext (it.w ⟨W.μ, W.η.add g (.lst acc.reverse), W.H⟩) ⟨W2.μ, W2.η.add g (.lst acc2.reverse), W2.H⟩ := by rw [ew]; exact L.x
    obtain ⟨xt, ot⟩ := Its.thaw h.og fzg x2 L.og
    have eu : it.un (W2.η.add g (.lst acc2.reverse)) = (it.un W2.η).add g (.lst acc2.reverse) := Its.un_add it _ _ _ ne
    have xt' : Ext ⟨W.μ, W.η.add g (.lst acc.reverse), W.H⟩ ⟨W2.μ, (it.un W2.η).add g (.lst acc2.reverse), W2.H⟩ := by rw [← eu]; exact xt
    have ot' : Wl.Ok K N.toNames ⟨W2.μ, (it.un W2.η).add g (.lst acc2.reverse), W2.H⟩ := by rw [← eu]; exact ot
    have off' := Its.un_none it L.off
    have dr := xt'.drop (η' := it.un W2.η) ot' rfl (fun r c e => by
      show ((it.un W2.η).add g (.lst acc2.reverse)).get r = some c
      rw [Hd.get_add]
      by_cases z : r = g
      · rw [z, off'] at e; cases e
      · rw [if_neg z]; exact e)
    exact ⟨dr.2, off', h.x.trans ob h.og xt', ot', L.at_⟩
theorem lc2_of {E' : XK} {K : PySem.W.Frag} {ci ci1 : CI} {g g1 : CG} {t t1 : CT} {e : CE} {vs vs1 : List Nat} {σ : St} {H : Hp} {Q : VK} (h : tE K N E (cLc2 ci g t ci1 g1 t1 e vs vs1) σ H Q) :
    tLc2 (tI K N E ci) (tGw K N vs g) (tT K N E' t) (tI K N E' ci1) (tGw K N vs1 g1) (tT K N E' t1) (tE K N E' e) vs vs1 σ H Q := by
  obtain ⟨W, σd, kv, kx, rfl, o, s, h, hv, hx⟩ := h
  refine ⟨W, σd, _, kx, rfl, o, s, h, fun W1 it J x1 o1 fz wk h1 => fun Da hD => ?_, hx⟩
  obtain ⟨xf, of⟩ := Its.froze o1 fz
  have enx : (it.w W1).η.nx = W1.η.nx := by
    unfold Its.w Its.fr
    cases it.fz with
    | none => rfl
    | some p => rfl
  obtain ⟨⟨ob, xb⟩, L0⟩ := Lc.start (N := N) (Da := Da) of hD
  generalize hWb : (it.w W1).new Da (.lst []) (.lst []) = Wb at ob xb L0
  rw [enx] at L0
  have s0 : RelS (it.w W1) (wipeD σd vs) (wipe σ vs) := ((s.mono o x1).mono o1 xf).wipe vs
  have hll : line1 = 16777215 := rfl
  have hls : sizeLine = 16777216 := rfl
  refine ⟨fun i m H2 => m = it.l.length - i ∧ i ≤ it.l.length ∧ ∃ W2 acc n, W2.H = H2 ∧ Lc K N Wb W1.η.nx Da W2 acc ∧ acc.length + n ≤ line1 ∧ lcD2 g t ci1 g1 t1 e vs1 (wipeD σd vs) (fun acc η2 => kv (.ref W1.η.nx) ((it.un η2).add W1.η.nx (.lst acc))) (it.l.drop i) n acc W2.η = true,
    ⟨it.l.length, by omega, Nat.zero_le _, _, [], line1, rfl, L0, by simp, h1⟩, ?_⟩
  rintro i m H2 ⟨rfl, hi, W2, acc, n, rfl, L2', hn, h2⟩
  have xf2 : Ext (it.w W1) W2 := L2'.drop ob of xb
  have s2 : RelS W2 (wipeD σd vs) (wipe σ vs) := s0.mono of xf2
  by_cases hlt : i < it.l.length
  · refine .inr ⟨wk.go W2 i (xf2.sty of) L2'.ok hlt, fun H3 => ∃ W3 acc n, W3.H = H3 ∧ Lc K N Wb W1.η.nx Da W3 acc ∧ acc.length + n ≤ line1 ∧ lcD2 g t ci1 g1 t1 e vs1 (wipeD σd vs) (fun acc η2 => kv (.ref W1.η.nx) ((it.un η2).add W1.η.nx (.lst acc))) (it.l.drop (i + 1)) n acc W3.η = true, fun H3 p3 => ⟨it.l.length - (i + 1), by omega, rfl, hlt, p3⟩, fun y H3 hy => ?_⟩
    obtain ⟨W3, d, e3, x3, o3, eH, eη, r3⟩ := wk.yld W2 i y H3 (xf2.sty of) L2'.ok hlt hy
    subst eH
    have ed : it.l.drop i = d :: it.l.drop (i + 1) := by
      rw [List.drop_eq_getElem_cons hlt]
      have : it.l[i] = d := by
        have := List.getElem?_eq_getElem hlt
        rw [this] at e3; exact Option.some.inj e3
      rw [this]
    rw [ed] at h2
    refine ⟨W3, d, wipeD σd vs, _, rfl, o3, r3, s2.mono L2'.ok x3, (by rw [eη]; exact h2), fun W4 σd4 σ4 x4 o4 s4 w4 h4 => ⟨w4.trans (wipe_wipe vs σ), ?_⟩⟩
    refine tT.bind (kx := kF) o4 s4 Xk.never h4 fun W5 b x5 o5 s5 hx5 h5 => ?_
    have x25 : Ext W2 W5 := x3.trans L2'.ok o3 (x4.trans o3 o4 x5)
    have L5 := L2'.step ob x25 o5
    cases b with
    | true =>
      rw [if_pos rfl]
      refine ⟨W5, σd4, _, kF, rfl, o5, s5, h5, fun W6 it1 J1 x6 o6 fz6 wk6 h6 => ?_, Xk.never⟩
      have L6 := L5.step ob x6 o6
      obtain ⟨Wf, oWf, L7, sty, back⟩ := L6.freeze fz6
      have s6 : RelS W6 σd4 σ4 := s5.mono o5 x6
      refine ⟨fun j k H7 => k = it1.l.length - j ∧ j ≤ it1.l.length ∧ ∃ W7 acc n, W7.H = H7 ∧ Lc K N Wf W1.η.nx Da W7 acc ∧ acc.length + n ≤ line1 ∧ lcIn g1 t1 e (wipeD σd4 vs1) (fun acc n η4 => lcD2 g t ci1 g1 t1 e vs1 (wipeD σd vs) (fun acc η2 => kv (.ref W1.η.nx) ((it.un η2).add W1.η.nx (.lst acc))) (it.l.drop (i + 1)) n acc (it1.un η4)) (it1.l.drop j) n acc W7.η = true,
        ⟨it1.l.length, by omega, Nat.zero_le _, it1.w W6, acc, n, rfl, L7, hn, h6⟩, ?_⟩
      rintro j k H7 ⟨rfl, hj, W7, acc7, n7, rfl, L7', hn7, h7⟩
      have st7 := sty W7 acc7 L7'
      have s7 : RelS W7 (wipeD σd4 vs1) (wipe σ4 vs1) := (RelS.tx (W := W6) ⟨by
        have := st7.tx.nx
        have e9 : (it1.w W6).η.nx = W6.η.nx := by
          unfold Its.w Its.fr
          cases it1.fz with
          | none => rfl
          | some p => rfl
        rw [e9] at this; exact this, fun r hr => st7.tx.mu r (by
          have e9 : (it1.w W6).η.nx = W6.η.nx := by
            unfold Its.w Its.fr
            cases it1.fz with
            | none => rfl
            | some p => rfl
          rw [e9]; exact hr), st7.tx.tp⟩ s6).wipe vs1
      by_cases hlt7 : j < it1.l.length
      · refine .inr ⟨wk6.go W7 j st7 L7'.ok hlt7, fun H8 => ∃ W8 acc n, W8.H = H8 ∧ Lc K N Wf W1.η.nx Da W8 acc ∧ acc.length + n ≤ line1 ∧ lcIn g1 t1 e (wipeD σd4 vs1) (fun acc n η4 => lcD2 g t ci1 g1 t1 e vs1 (wipeD σd vs) (fun acc η2 => kv (.ref W1.η.nx) ((it.un η2).add W1.η.nx (.lst acc))) (it.l.drop (i + 1)) n acc (it1.un η4)) (it1.l.drop (j + 1)) n acc W8.η = true, fun H8 p8 => ⟨it1.l.length - (j + 1), by omega, rfl, hlt7, p8⟩, fun y8 H8 hy8 => ?_⟩
        obtain ⟨W8, d8, e8, x8, o8, eH8, eη8, r8⟩ := wk6.yld W7 j y8 H8 st7 L7'.ok hlt7 hy8
        subst eH8
        have ed8 : it1.l.drop j = d8 :: it1.l.drop (j + 1) := by
          rw [List.drop_eq_getElem_cons hlt7]
          have : it1.l[j] = d8 := by
            have := List.getElem?_eq_getElem hlt7
            rw [this] at e8; exact Option.some.inj e8
          rw [this]
        rw [ed8] at h7
        cases n7 with
        | zero => cases h7
        | succ n7 =>
          refine ⟨W8, d8, wipeD σd4 vs1, _, rfl, o8, r8, s7.mono L7'.ok x8, (by rw [eη8]; exact h7), fun W9 σd9 σ9 x9 o9 s9 w9 h9 => ⟨w9.trans (wipe_wipe vs1 σ4), ?_⟩⟩
          refine tT.bind (kx := kF) o9 s9 Xk.never h9 fun Wa ba xa oa sa hxa ha => ?_
          have x7a : Ext W7 Wa := x8.trans L7'.ok o8 (x9.trans o8 o9 xa)
          cases ba with
          | true =>
            rw [if_pos rfl]
            refine tE.bind (kx := kF) oa sa Xk.never ha fun Wc dy vy xc oc rc sc hxc hc => ?_
            obtain ⟨us, g1, g2, Lc', tc⟩ := L7'.grow oWf (x7a.trans L7'.ok oa xc) oc rc (by omega)
            exact ⟨us, g1, g2, _, dy :: acc7, n7, rfl, Lc', by rw [List.length_cons]; omega, hc⟩
          | false =>
            rw [if_neg (by decide)]
            exact ⟨Wa, acc7, n7, rfl, L7'.step oWf x7a oa, by omega, ha⟩
      · have ej : j = it1.l.length := by omega
        subst ej
        rw [List.drop_length] at h7
        exact .inl ⟨wk6.stop W7 st7 L7'.ok, ⟨W7.μ, it1.un W7.η, W7.H⟩, acc7, n7, rfl, back ob W7 acc7 L7', hn7, h7⟩
    | false =>
      rw [if_neg (by decide)]
      exact ⟨W5, acc, n, rfl, L5, by omega, h5⟩
  · have ei : i = it.l.length := by omega
    subst ei
    rw [List.drop_length] at h2
    refine .inl ⟨wk.stop W2 (xf2.sty of) L2'.ok, ?_⟩
    have h2' : kv (.ref W1.η.nx) ((it.un W2.η).add W1.η.nx (.lst acc.reverse)) = true := h2
    have xg : Ext (it.w W1) ⟨W2.μ, W2.η.add W1.η.nx (.lst acc.reverse), W2.H⟩ := xb.trans of ob L2'.x
    obtain ⟨xt, ot⟩ := Its.thaw o1 fz xg L2'.og
    have eu : it.un (W2.η.add W1.η.nx (.lst acc.reverse)) = (it.un W2.η).add W1.η.nx (.lst acc.reverse) := Its.un_add it _ _ _ fun r l er => Nat.ne_of_lt (o1.lt r _ (fz r l er))
    refine hv ⟨W2.μ, it.un (W2.η.add W1.η.nx (.lst acc.reverse)), W2.H⟩ (.ref W1.η.nx) (.ref Da) (x1.trans o o1 xt) ot ?_ (by show kv _ (it.un (W2.η.add W1.η.nx (.lst acc.reverse))) = true; rw [eu]; exact h2')
    rw [RelD]
    refine ⟨?_, by rw [L2'.at_]⟩
    show W1.η.nx < (it.un (W2.η.add W1.η.nx (.lst acc.reverse))).nx
    rw [Its.un_nx]
    exact L2'.og.lt W1.η.nx (.lst acc.reverse) (by show (W2.η.add W1.η.nx (.lst acc.reverse)).get _ = _; rw [Hd.get_add, if_pos rfl])
theorem je_lc2 {E' : XK} {elt tg iter tg1 iter1 : Expr} {ifs ifs1 : List Expr} {scope : Scope} {own : List (Str × Nat)} {vs1 : List Nat} {pos : Pos} {ci ci1 : CI} {g g1 : CG} {t t1 : CT} {e : CE} (hc : X.calm = true) (hN : X.N.Nodup) (hi : JI X N E tg iter ci) (ok : BlkOk X.N X.env.scope scope own) (hv : ∀ i ∈ vs1, i ∈ own.map (·.2))
    (hg : ∀ (s : Shared) (H : Hp) (C : Addr) (cl : List (Str × Addr)) (fp : List Addr), JGw (X.blk s H scope (compEnvC scope cl C X.env) fp) N (own.map (·.2)) tg g) (ht : ∀ (s : Shared) (H : Hp) (C : Addr) (cl : List (Str × Addr)) (fp : List Addr), JTs (X.blk s H scope (compEnvC scope cl C X.env) fp) N E' ifs t)
    (hi1 : ∀ (s : Shared) (H : Hp) (C : Addr) (cl : List (Str × Addr)) (fp : List Addr), JI (X.blk s H scope (compEnvC scope cl C X.env) fp) N E' tg1 iter1 ci1)
    (hg1 : ∀ (s : Shared) (H : Hp) (C : Addr) (cl : List (Str × Addr)) (fp : List Addr), JGw (X.blk s H scope (compEnvC scope cl C X.env) fp) N vs1 tg1 g1) (ht1 : ∀ (s : Shared) (H : Hp) (C : Addr) (cl : List (Str × Addr)) (fp : List Addr), JTs (X.blk s H scope (compEnvC scope cl C X.env) fp) N E' ifs1 t1)
    (he : ∀ (s : Shared) (H : Hp) (C : Addr) (cl : List (Str × Addr)) (fp : List Addr), JE (X.blk s H scope (compEnvC scope cl C X.env) fp) N E' elt e) (hs : ∀ x, foldedSetIterable iter X.env x = pure x := by intro _; rfl) (hs1 : ∀ env x, foldedSetIterable iter1 env x = pure x := by intro _ _; rfl) :
    JE X N E (.ListComp elt [⟨tg, iter, ifs, 0⟩, ⟨tg1, iter1, ifs1, 0⟩] scope pos) (cLc2 ci g t ci1 g1 t1 e (own.map (·.2)) vs1) :=
  PE.imp (pe_lc2 (g := tGw X.K N (own.map (fun p : Str × Nat => p.2)) g) (tt := tT X.K N E' t) (wi1 := tI X.K N E' ci1) (g1 := tGw X.K N vs1 g1) (tt1 := tT X.K N E' t1) (te := tE X.K N E' e) hc hN hi ok hv hg ht hi1 hg1 ht1 he hs hs1) fun σ H Q q => lc2_of q
theorem js_setLc2 {E' : XK} {i : Nat} {y : Str} {py : Pos} {elt tg iter tg1 iter1 : Expr} {ifs ifs1 : List Expr} {scope : Scope} {own : List (Str × Nat)} {vs1 : List Nat} {pos spos : Pos} {ci ci1 : CI} {g g1 : CG} {t t1 : CT} {e : CE} (hc : X.calm = true) (hN : X.N.Nodup) (hy : X.N[i]? = some y) (hyl : X.env.scope.names.lookup y = some .local)
    (hsw : swapsWith (.ListComp elt [⟨tg, iter, ifs, 0⟩, ⟨tg1, iter1, ifs1, 0⟩] scope pos) (some (.Name y py)) spos.line X.env = pure true) (hi : JI X N E tg iter ci) (ok : BlkOk X.N X.env.scope scope own) (hv : ∀ i ∈ vs1, i ∈ own.map (·.2))
    (hg : ∀ (s : Shared) (H : Hp) (C : Addr) (cl : List (Str × Addr)) (fp : List Addr), JGw (X.blk s H scope (compEnvC scope cl C X.env) fp) N (own.map (·.2)) tg g) (ht : ∀ (s : Shared) (H : Hp) (C : Addr) (cl : List (Str × Addr)) (fp : List Addr), JTs (X.blk s H scope (compEnvC scope cl C X.env) fp) N E' ifs t)
    (hi1 : ∀ (s : Shared) (H : Hp) (C : Addr) (cl : List (Str × Addr)) (fp : List Addr), JI (X.blk s H scope (compEnvC scope cl C X.env) fp) N E' tg1 iter1 ci1)
    (hg1 : ∀ (s : Shared) (H : Hp) (C : Addr) (cl : List (Str × Addr)) (fp : List Addr), JGw (X.blk s H scope (compEnvC scope cl C X.env) fp) N vs1 tg1 g1) (ht1 : ∀ (s : Shared) (H : Hp) (C : Addr) (cl : List (Str × Addr)) (fp : List Addr), JTs (X.blk s H scope (compEnvC scope cl C X.env) fp) N E' ifs1 t1)
    (he : ∀ (s : Shared) (H : Hp) (C : Addr) (cl : List (Str × Addr)) (fp : List Addr), JE (X.blk s H scope (compEnvC scope cl C X.env) fp) N E' elt e) (hs : ∀ x, foldedSetIterable iter X.env x = pure x := by intro _; rfl) (hs1 : ∀ env x, foldedSetIterable iter1 env x = pure x := by intro _ _; rfl) :
    JS X N E (.Assign [.Name y py] (.ListComp elt [⟨tg, iter, ifs, 0⟩, ⟨tg1, iter1, ifs1, 0⟩] scope pos) spos) (sAsg (cLc2 ci g t ci1 g1 t1 e (own.map (·.2)) vs1) (gNm i)) :=
  PS.imp (ps_setLc2 (g := tGw X.K N (own.map (fun p : Str × Nat => p.2)) g) (tt := tT X.K N E' t) (wi1 := tI X.K N E' ci1) (g1 := tGw X.K N vs1 g1) (tt1 := tT X.K N E' t1) (te := tE X.K N E' e) hc hN hy hyl hsw hi ok hv hg ht hi1 hg1 ht1 he hs hs1) fun Z σ H q => tAsg_name (fun _ _ _ h => lc2_of h) q
end
end DL

/-! defs, calls, exceptions -/
namespace DL
open PySem PySem.Spec L2
abbrev CF := List D → Hd → KV → KX → Bool
def spD (K : PySem.W.Frag) (N : Nm) (F : CF) : Sp := fun vs H Q E => ∃ W ds kv kx, W.H = H ∧ W.Ok K N.toNames ∧ RelDs W ds vs ∧ F ds W.η kv kx = true ∧ Vk K N W kv Q ∧ Xk K N E W kx
/-- F asks for n arguments -/
def Ary (n : Nat) (F : CF) : Prop := ∀ ds η kv kx, F ds η kv kx = true → ds.length = n
abbrev JF (P : Program) (w : World) (K : PySem.W.Frag) (mg : Str → Option Value) (base : Heap) (k : Nat) (f : Addr) (fd : FuncData) (ps : List Str) (N : Nm) (F : CF) : Prop := FnOk P w K mg base (L2.CX P w) k f fd ps (spD K N F)
section
variable {X : Cx} {N : Nm} {E : XK}
def cCall (F : CF) (a : CA) : CE := fun σ η kv kx => a σ η (fun ds η1 => F ds η1 kv kx) kx
theorem je_call {k : Nat} {f : Addr} {fd : FuncData} {ps : List Str} {F : CF} {x : Str} {e : Expr} {es : List Expr} {c : CA} {p pos : Pos} (G : JF X.prog X.w X.K X.mg X.base k f fd ps N F) (hr : Room k X.A) (hg : Gl X x) (hm : X.mg x = some (.ref f)) (hk : PySem.W.keepIn X.K (.ref f) = true) (hb : Binds X.K fd ps [])
    (hx : Passes (L2.CX X.prog X.w) X E) (ha : JA X N E (e :: es) c) (hdb : (x == ("__debug__" : Str)) = false := by decide) (hs : starEach (e :: es) X.env = (false, eval e X.env) :: starEach es X.env := by rfl)
    (hpl : (backTo pos (starEach es X.env)).any (·.1) = false := by rfl) : JE X N E (.Call (.Name x p) (e :: es) [] pos) (cCall F c) :=
  PE.imp (pe_call G hr hg hm hk hb .nil hx ha hdb hs hpl) fun σ H Q q => by
    obtain ⟨W, σd, kv, kx, rfl, o, s, h, hv, hxx⟩ := q
    refine tAr.bind o s hxx h fun W1 ds vs x1 o1 r1 s1 hx1 h1 => ?_
    rw [List.append_nil]
    exact ⟨W1, ds, kv, kx, rfl, o1, r1, h1, hv.mono o o1 x1, hx1⟩
theorem je_call0 {k : Nat} {f : Addr} {fd : FuncData} {ps : List Str} {F : CF} {x : Str} {p pos : Pos} (G : JF X.prog X.w X.K X.mg X.base k f fd ps N F) (hr : Room k X.A) (hg : Gl X x) (hm : X.mg x = some (.ref f)) (hk : PySem.W.keepIn X.K (.ref f) = true) (hb : Binds X.K fd ps [])
    (hx : Passes (L2.CX X.prog X.w) X E) (hdb : (x == ("__debug__" : Str)) = false := by decide) : JE X N E (.Call (.Name x p) [] [] pos) (cCall F cNil) :=
  PE.imp (pe_call0 G hr hg hm hk hb .nil hx hdb) fun σ H Q q => by
    obtain ⟨W, σd, kv, kx, rfl, o, s, h, hv, hxx⟩ := q
    exact ⟨W, [], kv, kx, rfl, o, .nil, h, hv, hxx⟩
/-! ### the body of a def -/
def startD (n m : Nat) (ds : List D) : SD := ds.map some ++ List.replicate (m - n) none
/-- a def of n parameters and m slots -/
def cDef (n m : Nat) (b : CS) : CF := fun ds η kv kx => match Nat.beq ds.length n with
  | true => b (startD n m ds) η ⟨fun _ η1 => kv .non η1, kv, fun _ _ => false, fun _ _ => false, kx⟩
  | false => false
theorem rel_start {W : Wl} {N : List Str} {ds : List D} {vs : List V} (r : RelDs W ds vs) : RelS W (startD ds.length N.length ds) (L2.start N vs) := by
  unfold startD L2.start
  have hl := r.length
  refine ⟨by simp [hl], fun i d e => ?_⟩
  by_cases hi : i < ds.length
  · rw [List.getElem?_append_left (by simpa using hi), List.getElem?_map] at e
    cases q : ds[i]? with
    | none => rw [q] at e; cases e
    | some d' =>
      rw [q] at e
      simp only [Option.map_some, Option.some.injEq] at e
      subst e
      obtain ⟨v, e1, e2⟩ := r.get' q
      refine ⟨v, ?_, e2⟩
      rw [List.getElem?_append_left (by rw [List.length_map, ← hl]; exact hi), List.getElem?_map, e1]; rfl
  · rw [List.getElem?_append_right (by simpa using Nat.le_of_not_lt hi)] at e
    have := List.mem_of_getElem? e
    rw [List.mem_replicate] at this
    cases this.2
section
variable {P : Program} {w : World} {K : PySem.W.Frag} {mg : Str → Option Value} {base : Heap}
theorem jf_def {x qual : Str} {st : Stmt} {f : Addr} {fd : FuncData} {Ns ps : List Str} {k : Nat} {b : CS} (F : Fun K x qual st f fd) (S : FnScope Ns ps (defScope st))
    (hbody : ∀ (cdv : Value) (A : Around) (outer : List Env) (s : Shared) (H : Hp) (E : XK), Room k (A.deeper (PyProof.Rows.envOfC qual (defScope st) s.heap.objs.size f cdv)) → JB (cxOf (L2.CX P w) P w K mg base Ns qual (defScope st) f cdv A outer s H E) N E (defBody st) b) :
    JF P w K mg base (k + 1) f fd ps N (cDef ps.length Ns.length b) := by
  refine F.okX S (fun vs H Q E h => ?_) (fun cdv A outer s H vs Q E hr h => ?_)
  · obtain ⟨W, ds, kv, kx, _, _, r, h, _⟩ := h
    unfold cDef at h
    cases e : Nat.beq ds.length ps.length with
    | false => rw [e] at h; cases h
    | true => rw [← r.length]; exact Nat.eq_of_beq_eq_true e
  · obtain ⟨W, ds, kv, kx, rfl, o, r, h, hv, hx⟩ := h
    unfold cDef at h
    cases e : Nat.beq ds.length ps.length with
    | false => rw [e] at h; cases h
    | true =>
      rw [e] at h
      have el : ds.length = ps.length := Nat.eq_of_beq_eq_true e
      refine ⟨_, hbody cdv A outer s W.H E hr, W, startD ps.length Ns.length ds, _, rfl, o, by rw [← el]; exact rel_start r, h, ⟨fun W' σd σ x o' s' e' => hv W' .non .non x o' mkNon e', hv, (fun _ _ _ _ _ _ e' => nomatch e'), (fun _ _ _ _ _ _ e' => nomatch e'), hx⟩⟩
theorem ary_def {n m : Nat} {b : CS} : Ary n (cDef n m b) := fun ds η kv kx h => by
  unfold cDef at h
  cases e : Nat.beq ds.length n with
  | false => rw [e] at h; cases h
  | true => exact Nat.eq_of_beq_eq_true e
/-- a weaker function -/
theorem jf_imp {k : Nat} {f : Addr} {fd : FuncData} {ps : List Str} {F G : CF} (h : JF P w K mg base k f fd ps N F) (i : ∀ ds η kv kx, G ds η kv kx = true → F ds η kv kx = true) : JF P w K mg base k f fd ps N G :=
  h.imp fun vs H Q E q => by
    obtain ⟨W, ds, kv, kx, e, o, r, h, hv, hx⟩ := q
    exact ⟨W, ds, kv, kx, e, o, r, i _ _ _ _ h, hv, hx⟩
/-- data without cells -/
def nor : Nat → D → Bool
  | _, .non => true
  | _, .bl _ => true
  | _, .int _ => true
  | _, .str _ => true
  | n + 1, .tup l => l.all (nor n)
  | _, _ => false
theorem nor_rel : ∀ (n : Nat) {W W' : Wl} {d : D} {v : V}, (∀ a vs, W.H a = some (.tup vs) → W'.H a = some (.tup vs)) → nor n d = true → RelD W d v → RelD W' d v := by
  intro n
  induction n with
  | zero =>
    intro W W' d v ht h r
    cases d with
    | tup l => cases h
    | ref q => cases h
    | _ => rw [RelD] at *; exact r
  | succ n ih =>
    intro W W' d v ht h r
    cases d with
    | ref q => cases h
    | tup l =>
      rw [RelD] at *
      obtain ⟨a, vs, e, h1, h2⟩ := r
      refine ⟨a, vs, e, ht a vs h1, ?_⟩
      have all : ∀ (l : List D) (vs : List V), l.all (nor n) = true → RelDs W l vs → RelDs W' l vs := by
        intro l
        induction l with
        | nil => intro vs _ r; rw [RelDs] at *; exact r
        | cons d l ihl =>
          intro vs hh r
          rw [RelDs] at *
          obtain ⟨v, vs', e, r1, r2⟩ := r
          simp only [List.all_cons, Bool.and_eq_true] at hh
          exact ⟨v, vs', e, ih ht hh.1 r1, ihl vs' hh.2 r2⟩
      exact all l vs h h2
    | _ => rw [RelD] at *; exact r
def norX (x : Xc) : Bool := match x.p with
  | none => true
  | some d => nor 8 d
/-- a def run on no cells: what it makes is dropped but its data -/
def cPure (F : CF) : CF := fun ds η kv kx => F ds ⟨η.nx, []⟩ (fun d _ => match nor 8 d with
  | true => kv d η
  | false => false) (fun x _ => match norX x with
  | true => kx x η
  | false => false)
theorem jf_pure {k : Nat} {f : Addr} {fd : FuncData} {ps : List Str} {F : CF} (h : JF P w K mg base k f fd ps N F) : JF P w K mg base k f fd ps N (cPure F) :=
  h.imp fun vs H Q E q => by
    obtain ⟨W, ds, kv, kx, rfl, o, r, h, hv, hx⟩ := q
    have o0 : Wl.Ok K N.toNames ⟨W.μ, ⟨W.η.nx, []⟩, W.H⟩ := ⟨(fun _ _ e => nomatch e), (fun _ _ e => nomatch e), (fun _ _ _ _ e => nomatch e), o.tab⟩
    have t0 : Tx W ⟨W.μ, ⟨W.η.nx, []⟩, W.H⟩ := ⟨Nat.le_refl _, fun _ _ => rfl, fun _ _ e => e⟩
    have back : ∀ W', Ext ⟨W.μ, ⟨W.η.nx, []⟩, W.H⟩ W' → W'.Ok K N.toNames → Ext W ⟨W.μ, W.η, W'.H⟩ ∧ Wl.Ok K N.toNames ⟨W.μ, W.η, W'.H⟩ := fun W' x o' => by
      have keep : ∀ a u, noT u → W.H a = some u → W'.H a = some u := fun a u t e => x.fr a u e t (fun _ _ e => nomatch e)
      have xx : Ext W ⟨W.μ, W.η, W'.H⟩ := ⟨Nat.le_refl _, fun _ _ => rfl, fun a u e t _ => keep a u t e, x.th, fun r c e => .inl ⟨c, e, id⟩⟩
      exact ⟨xx, o.lt, fun r c e => (o.cell r c e).mono o xx (fun ob t => keep _ ob t), o.inj, o'.tab⟩
    refine ⟨⟨W.μ, ⟨W.η.nx, []⟩, W.H⟩, ds, _, _, rfl, o0, r.tx t0, h, fun W' d v x o' r' e => ?_, fun W' xx cls dd x o' r' e => ?_⟩
    · dsimp only at e
      cases en : nor 8 d with
      | false => rw [en] at e; cases e
      | true =>
        rw [en] at e
        obtain ⟨x2, o2⟩ := back W' x o'
        exact hv ⟨W.μ, W.η, W'.H⟩ d v x2 o2 (nor_rel (W := W') 8 (fun _ _ e => e) en r') e
    · dsimp only at e
      cases en : norX xx with
      | false => rw [en] at e; cases e
      | true =>
        rw [en] at e
        obtain ⟨x2, o2⟩ := back W' x o'
        refine hx ⟨W.μ, W.η, W'.H⟩ xx cls dd x2 o2 ?_ e
        obtain ⟨h1, h2⟩ := r'
        refine ⟨h1, ?_⟩
        unfold norX at en
        cases ep : xx.p with
        | none => rw [ep] at h2; exact h2
        | some d =>
          rw [ep] at h2 en
          obtain ⟨a, v, q1, q2, q3⟩ := h2
          exact ⟨a, v, q1, q2, nor_rel (W := W') 8 (fun _ _ e => e) en q3⟩
end
/-! ### raise -/
def sRaise (c : Nat) : CS := fun _ η k => k.xc ⟨c, none⟩ η
theorem js_raise {e : Expr} {C : Addr} {c : Nat} {pos : Pos} (hc : X.calm = true) (tk : Takes X (fun cls d _ H => E cls d H)) (he : PMk X e (fun _ H Q => Q (.ref C) none H)) (hC : N.cls c = C) : JS X N E (.Raise (some e) none pos) (sRaise c) :=
  PS.imp (ps_raise hc tk he) fun Z σ H q => by
    obtain ⟨W, σd, k, rfl, o, s, h, hk⟩ := q
    exact hk.xc W ⟨c, none⟩ (.ref C) none (Ext.refl W) o ⟨by rw [hC], rfl⟩ h
/-! ### list(range(..)), tuple(range(..)) -/
def tRgD (K : PySem.W.Frag) (N : Nm) (E : XK) (c : SD → Hd → (Int → Int → Hd → Bool) → KX → Bool) : St → Hp → (Int → Int → Hp → Prop) → Prop := fun σ H Q => ∃ W σd k kx, W.H = H ∧ W.Ok K N.toNames ∧ RelS W σd σ ∧ c σd W.η k kx = true ∧ (∀ W' a b, Ext W W' → W'.Ok K N.toNames → k a b W'.η = true → Q a b W'.H) ∧ Xk K N E W kx
abbrev CR := SD → Hd → (Int → Int → Hd → Bool) → KX → Bool
def JR (X : Cx) (N : Nm) (E : XK) (e : Expr) (c : CR) : Prop := PRg X e (tRgD X.K N E c)
theorem PRg.imp {e : Expr} {t t' : St → Hp → (Int → Int → Hp → Prop) → Prop} (h : PRg X e t) (f : ∀ σ H Q, t' σ H Q → t σ H Q) : PRg X e t' := fun pins s σ H Q I q => h pins s σ H Q I (f σ H Q q)
def crg1 (a : CE) : CR := fun σ η k kx => a σ η (fun x η1 => match x with
  | .int j => k 0 j η1
  | _ => false) kx
def crg2 (a b : CE) : CR := fun σ η k kx => a σ η (fun x η1 => b σ η1 (fun y η2 => match x, y with
  | .int i, .int j => k i j η2
  | _, _ => false) kx) kx
theorem jr_1 {a : Expr} {c : CE} {p pos : Pos} (hg : Gl X "range") (hm : X.mg "range" = none) (ha : JE X N E a c) (hs : starEach [a] X.env = (false, eval a X.env) :: starEach [] X.env := by rfl) : JR X N E (.Call (.Name "range" p) [a] [] pos) (crg1 c) :=
  PRg.imp (prg_1 hg hm ha hs) fun σ H Q q => by
    obtain ⟨W, σd, k, kx, rfl, o, s, h, hk, hx⟩ := q
    refine tE.bind o s hx h fun W1 d v x1 o1 r1 s1 hx1 h1 => ?_
    cases d with
    | int j => rw [relInt r1]; exact ⟨j, rfl, hk W1 0 j x1 o1 h1⟩
    | _ => cases h1
theorem jr_2 {a b : Expr} {c d : CE} {p pos : Pos} (hg : Gl X "range") (hm : X.mg "range" = none) (ha : JE X N E a c) (hb : JE X N E b d) (hs : starEach [a, b] X.env = (false, eval a X.env) :: starEach [b] X.env := by rfl) (hs2 : starEach [b] X.env = (false, eval b X.env) :: starEach [] X.env := by rfl)
    (hpl : (backTo pos (starEach [b] X.env)).any (·.1) = false := by rfl) : JR X N E (.Call (.Name "range" p) [a, b] [] pos) (crg2 c d) :=
  PRg.imp (prg_2 hg hm ha hb hs hs2 hpl) fun σ H Q q => by
    obtain ⟨W, σd, k, kx, rfl, o, s, h, hk, hx⟩ := q
    refine tE.bind o s hx h fun W1 dx x x1 o1 r1 s1 hx1 h1 => ?_
    refine tE.bind o1 s1 hx1 h1 fun W2 dy y x2 o2 r2 s2 hx2 h2 => ?_
    cases dx with
    | int i =>
      cases dy with
      | int j => rw [relInt r1, relInt r2]; exact ⟨i, j, rfl, rfl, hk W2 i j (x1.trans o o1 x2) o2 h2⟩
      | _ => cases h2
    | _ => cases h2
theorem rgV_rel {W : Wl} (a b : Int) : RelDs W (rangeD (b - a).toNat a) (rgV a b) := by
  unfold rgV
  have gen : ∀ (n : Nat) (a : Int) (k : Nat), RelDs W (rangeD n (a + k)) ((List.range' k n).map fun i => V.int (a + (i : Nat))) := by
    intro n
    induction n with
    | zero => intro a k; exact .nil
    | succ n ih =>
      intro a k
      rw [List.range'_succ, List.map_cons, rangeD]
      refine .cons mkInt ?_
      have := ih a (k + 1)
      rw [show a + (k : Int) + 1 = a + ((k + 1 : Nat) : Int) by omega]
      exact this
  have := gen (b - a).toNat a 0
  rw [List.range_eq_range']
  simpa using this
def cLstR (r : CR) : CE := fun σ η kv kx => r σ η (fun a b η1 => match rOk a, rOk b, Nat.ble (b - a).toNat line with
  | true, true, true => kv (.ref η1.nx) (η1.new (.lst (rangeD (b - a).toNat a)))
  | _, _, _ => false) kx
def cTupR (r : CR) : CE := fun σ η kv kx => r σ η (fun a b η1 => match rOk a, rOk b, Nat.ble (b - a).toNat line with
  | true, true, true => kv (.tup (rangeD (b - a).toNat a)) η1
  | _, _, _ => false) kx
theorem tRg.bind {K : PySem.W.Frag} {W : Wl} {kx : KX} {c : CR} {kt : Int → Int → Hd → Bool} {σ : St} {σd : SD} {Q' : Int → Int → Hp → Prop} (o : W.Ok K N.toNames) (s : RelS W σd σ) (hx : Xk K N E W kx) (h : c σd W.η kt kx = true)
    (hq : ∀ W' a b, Ext W W' → W'.Ok K N.toNames → kt a b W'.η = true → Q' a b W'.H) : tRgD K N E c σ W.H Q' := ⟨W, σd, kt, kx, rfl, o, s, h, hq, hx⟩
theorem je_listR {e : Expr} {c : CR} {p pos : Pos} (hc : X.calm = true) (hg : Gl X "list") (hm : X.mg "list" = none) (he : JR X N E e c) (hs : starEach [e] X.env = (false, eval e X.env) :: starEach [] X.env := by rfl) : JE X N E (.Call (.Name "list" p) [e] [] pos) (cLstR c) :=
  PE.imp (pe_listRg hc hg hm he hs) fun σ H Q q => by
    obtain ⟨W, σd, kv, kx, rfl, o, s, h, hv, hx⟩ := q
    refine tRg.bind o s hx h fun W1 a b x1 o1 h1 => ?_
    cases e1 : rOk a with
    | false => rw [e1] at h1; cases h1
    | true =>
      cases e2 : rOk b with
      | false => rw [e1, e2] at h1; cases h1
      | true =>
        cases e3 : Nat.ble (b - a).toNat line with
        | false => rw [e1, e2, e3] at h1; cases h1
        | true =>
          rw [e1, e2, e3] at h1
          have hl : (b - a).toNat ≤ 16777216 := Nat.le_of_ble_eq_true e3
          exact ⟨⟨(rOk_ok e1).1, (rOk_ok e1).2, (rOk_ok e2).1, (rOk_ok e2).2, by omega⟩, fun q hq => Vk.lst o1 (hv.mono o o1 x1) h1 hq (rgV_rel a b) (by rw [rangeD_len]; exact hl)⟩
theorem je_tupR {e : Expr} {c : CR} {p pos : Pos} (hc : X.calm = true) (hg : Gl X "tuple") (hm : X.mg "tuple" = none) (he : JR X N E e c) (hs : starEach [e] X.env = (false, eval e X.env) :: starEach [] X.env := by rfl) : JE X N E (.Call (.Name "tuple" p) [e] [] pos) (cTupR c) :=
  PE.imp (pe_tupRg hc hg hm he hs) fun σ H Q q => by
    obtain ⟨W, σd, kv, kx, rfl, o, s, h, hv, hx⟩ := q
    refine tRg.bind o s hx h fun W1 a b x1 o1 h1 => ?_
    cases e1 : rOk a with
    | false => rw [e1] at h1; cases h1
    | true =>
      cases e2 : rOk b with
      | false => rw [e1, e2] at h1; cases h1
      | true =>
        cases e3 : Nat.ble (b - a).toNat line with
        | false => rw [e1, e2, e3] at h1; cases h1
        | true =>
          rw [e1, e2, e3] at h1
          have hl : (b - a).toNat ≤ 16777216 := Nat.le_of_ble_eq_true e3
          exact ⟨⟨(rOk_ok e1).1, (rOk_ok e1).2, (rOk_ok e2).1, (rOk_ok e2).2, by omega⟩, fun q hq => Vk.tup (W0 := W) o1 (hv.mono o o1 x1) h1 hq (rgV_rel a b)⟩
end
end DL

/-! sorted -/
namespace DL
open PySem PySem.Spec L2
/-! ### the order of rows of ints -/
def lexI : List Int → List Int → Bool
  | _, [] => false
  | [], _ :: _ => true
  | x :: xs, y :: ys => match ieq x y with
    | true => lexI xs ys
    | false => decide (x < y)
theorem ieq_false {i j : Int} (h : i ≠ j) : ieq i j = false := by
  cases e : ieq i j with
  | false => rfl
  | true => exact absurd (ieq_iff.mp e) h
theorem ieq_self (i : Int) : ieq i i = true := ieq_iff.mpr rfl
theorem lexI_irrefl : ∀ x : List Int, lexI x x = false
  | [] => rfl
  | x :: xs => by simp only [lexI, ieq_self]; exact lexI_irrefl xs
theorem lexI_asym : ∀ x y : List Int, lexI x y = true → lexI y x = false
  | _, [], h => by cases ‹List Int› <;> simp [lexI] at h
  | [], _ :: _, _ => rfl
  | x :: xs, y :: ys, h => by
    simp only [lexI] at h ⊢
    by_cases e : x = y
    · subst e; simp only [ieq_self] at h ⊢; exact lexI_asym xs ys h
    · rw [ieq_false e] at h
      rw [ieq_false (Ne.symm e)]
      have := of_decide_eq_true h
      exact decide_eq_false (by omega)
theorem lexI_tot : ∀ x y : List Int, lexI x y = false → lexI y x = false → x = y
  | [], [], _, _ => rfl
  | [], _ :: _, h, _ => by simp [lexI] at h
  | _ :: _, [], _, h => by simp [lexI] at h
  | x :: xs, y :: ys, h, h' => by
    simp only [lexI] at h h'
    by_cases e : x = y
    · subst e; simp only [ieq_self] at h h'; rw [lexI_tot xs ys h h']
    · rw [ieq_false e] at h
      rw [ieq_false (Ne.symm e)] at h'
      have h1 := of_decide_eq_false h
      have h2 := of_decide_eq_false h'
      omega
theorem lexI_tr : ∀ x y z : List Int, lexI x y = true → lexI y z = true → lexI x z = true
  | x, [], z, h, _ => by cases x <;> simp [lexI] at h
  | x, y :: ys, [], _, h => by simp [lexI] at h
  | [], y :: ys, z :: zs, _, _ => rfl
  | x :: xs, y :: ys, z :: zs, h, h' => by
    simp only [lexI] at h h' ⊢
    by_cases e : x = y
    · subst e
      simp only [ieq_self] at h
      by_cases e2 : x = z
      · subst e2; simp only [ieq_self] at h' ⊢; exact lexI_tr xs ys zs h h'
      · rw [ieq_false e2] at h' ⊢; exact h'
    · rw [ieq_false e] at h
      have h1 := of_decide_eq_true h
      by_cases e2 : y = z
      · subst e2; rw [ieq_false e]; exact h
      · rw [ieq_false e2] at h'
        have h2 := of_decide_eq_true h'
        rw [ieq_false (show x ≠ z by omega)]
        exact decide_eq_true (by omega)
theorem lexI_swo {α : Type} (k : α → List Int) : SrtO.Swo fun v u => lexI (k v) (k u) := by
  refine ⟨fun x y h => lexI_asym _ _ h, fun x y z h1 h2 => ?_⟩
  cases e : lexI (k z) (k x) with
  | false => rfl
  | true =>
    cases e2 : lexI (k x) (k y) with
    | true => exact (lexI_tr _ _ _ e e2).symm.trans h2
    | false =>
      have := lexI_tot _ _ e2 h1
      rw [← this] at h2; exact e.symm.trans h2
/-- sorting by insertion: rows that stand in order cost one look each -/
def insI (x : List Int) : List (List Int) → List (List Int)
  | [] => [x]
  | y :: ys => match lexI y x with
    | true => y :: insI x ys
    | false => x :: y :: ys
def sortI : List (List Int) → List (List Int)
  | [] => []
  | x :: xs => insI x (sortI xs)
theorem insI_perm (x : List Int) : ∀ l, (insI x l).Perm (x :: l)
  | [] => List.Perm.refl _
  | y :: ys => by
    unfold insI
    cases lexI y x with
    | true => exact ((insI_perm x ys).cons y).trans (List.Perm.swap x y ys)
    | false => exact List.Perm.refl _
theorem sortI_perm : ∀ l, (sortI l).Perm l
  | [] => List.Perm.refl _
  | x :: xs => (insI_perm x _).trans ((sortI_perm xs).cons x)
abbrev SrI (l : List (List Int)) : Prop := l.Pairwise fun x y => lexI y x = false
theorem insI_sorted (x : List Int) : ∀ l, SrI l → SrI (insI x l)
  | [], _ => List.pairwise_singleton _ _
  | y :: ys, h => by
    obtain ⟨h1, h2⟩ := List.pairwise_cons.mp h
    unfold insI
    cases e : lexI y x with
    | true =>
      refine List.pairwise_cons.mpr ⟨fun z hz => ?_, insI_sorted x ys h2⟩
      rcases List.mem_cons.mp ((insI_perm x ys).mem_iff.mp hz) with q | q
      · subst q; exact lexI_asym _ _ e
      · exact h1 z q
    | false =>
      refine List.pairwise_cons.mpr ⟨fun z hz => ?_, h⟩
      rcases List.mem_cons.mp hz with q | q
      · subst q; exact e
      · cases e3 : lexI z x with
        | false => rfl
        | true =>
          have h3 := h1 z q
          cases e4 : lexI x y with
          | true => exact (lexI_tr _ _ _ e3 e4).symm.trans h3
          | false =>
            have := lexI_tot _ _ e4 e
            rw [← this] at h3; exact e3.symm.trans h3
theorem sortI_sorted : ∀ l, SrI (sortI l)
  | [] => .nil
  | x :: xs => insI_sorted x _ (sortI_sorted xs)
theorem srI_uniq : ∀ {l m : List (List Int)}, l.Perm m → SrI l → SrI m → l = m
  | [], m, p, _, _ => (List.nil_perm.mp p).symm
  | x :: xs, [], p, _, _ => nomatch (List.perm_nil.mp p)
  | x :: xs, y :: ys, p, h1, h2 => by
    obtain ⟨a1, a2⟩ := List.pairwise_cons.mp h1
    obtain ⟨b1, b2⟩ := List.pairwise_cons.mp h2
    have e : x = y := by
      have hx : x ∈ y :: ys := p.mem_iff.mp List.mem_cons_self
      have hy : y ∈ x :: xs := p.mem_iff.mpr List.mem_cons_self
      rcases List.mem_cons.mp hx with q | q
      · exact q
      · rcases List.mem_cons.mp hy with q2 | q2
        · exact q2.symm
        · exact lexI_tot _ _ (b1 x q) (a1 y q2) |>.symm ▸ rfl
    subst e
    rw [srI_uniq (List.perm_cons x |>.mp p) a2 b2]
/-! ### the machine -/
section
variable {prog : Program} {w : World} {A : Around} {E : Value → Shared → Prop} {s : Shared}
theorem collect_any {l : Addr} {vs : List Value} {T : String} {o : Obj} {n : Nat} {Q : List Value → Shared → Prop} (hT : T = "list" ∨ T = "tuple") (ho : s.heap.get? l = some o) (hc : o.cls = .type T) (hd : o.data = .seq vs.toArray n)
    (h : Q vs { s with heap := (s.heap.push (PyProof.Rows.seqObj "list" #[] 0)).update s.heap.objs.size (Obj.mapSeq (· ++ vs.toArray)) }) (hsz : vs.length ≤ sizeLine) :
    wpAny (model prog w) A (collect (.ref l)) Q E s := by
  unfold collect
  refine wpAny_bind (wpAny_runValue (codeAny_builtin PyProof.Rows.entry_proto_collect' ?_))
  show wpAny _ _ (do again (.builtin "list.__iadd__" ⟨[← newList [], .ref l], []⟩)) _ _ s
  refine wpAny_bind (wpAny_newList (wpAny_pure ⟨Code.quiet_builtin _ (by decide +kernel), codeAny_builtin PyProof.Rows.entry_list_iadd' ?_⟩))
  show wpAny _ _ (Builtin.List.listExtendWith (.ref s.heap.objs.size) (.ref l) (.ref s.heap.objs.size)) _ _ { s with heap := s.heap.push (PyProof.Rows.seqObj "list" #[] 0) }
  unfold Builtin.List.listExtendWith
  have ho' : (s.heap.push (PyProof.Rows.seqObj "list" #[] 0)).get? l = some o := Heap.get?_push_of_some _ ho
  refine wpAny_bind (wpAny_typeOf (T := T) ⟨o, ho', hc⟩ ?_)
  rw [if_pos (by rcases hT with rfl | rfl <;> simp)]
  refine wpAny_bind (PyProof.Rows.listItems_at ho' hd ?_)
  refine wpAny_bind (PyProof.Rows.listItems_at (xs := #[]) (n := 0) (Heap.get?_push_size _ rfl) rfl ?_)
  rw [if_neg (by simp)]
  refine wpAny_bind (PyProof.Rows.listUpdate_at (xs := #[]) (n := 0) (Heap.get?_push_size _ rfl) rfl ?_ (Nat.zero_le _) (by show (#[] ++ vs.toArray).size ≤ sizeLine + 1; simp only [Array.size_append, List.size_toArray, List.length_nil]; omega))
  refine wpAny_pure ?_
  show wpAny (model prog w) A (do
      let o ← load s.heap.objs.size
      match o.data with
      | .seq xs _ => pure xs.toList
      | _ => unsupported "internal:collect") Q E { s with heap := (s.heap.push (PyProof.Rows.seqObj "list" #[] 0)).update s.heap.objs.size (Obj.mapSeq (· ++ vs.toArray)) }
  refine wpAny_bind (wpAny_load (PyProof.Rows.get?_update_seq (Heap.get?_push_size _ rfl) _) ?_)
  show wpAny _ _ (pure ((#[] : Array Value) ++ vs.toArray).toList) Q E _
  rw [show ((#[] : Array Value) ++ vs.toArray).toList = vs by simp]
  exact wpAny_pure h
/-- sorted of a list or a tuple -/
theorem sorted_seq {l : Addr} {vs : List Value} {T : String} {o : Obj} {n : Nat} {ltv : Value → Value → Bool} {Q : Value → Shared → Prop} (O : SrtO.Swo ltv) (hT : T = "list" ∨ T = "tuple") (ho : s.heap.get? l = some o) (hc : o.cls = .type T) (hd : o.data = .seq vs.toArray n) (hz : vs.length ≤ sizeLine)
    (hS : 2 ≤ vs.length → ∀ (h₁ : Heap) (a : Addr), h₁.get? a = some (PyProof.Rows.seqObj "list" vs.toArray 0) → (∀ b o, s.heap.get? b = some o → b ≠ a ∧ h₁.get? b = some o) → SrtO.SortableO prog w A.in1.in1 { s with heap := h₁ } a vs ltv)
    (h : ∀ out : List Value, SrtO.Srtd ltv out → SrtO.Stb ltv out vs → Q (.ref (s.heap.objs.size + 1)) { s with heap := PyProof.Rows.sortedAll s.heap vs out.toArray }) :
    wpAny (model prog w) A (call (.builtin "sorted") [.ref l]) Q E s := by
  refine Calls.call_function_entry PyProof.Rows.kind_sorted PyProof.Rows.plain_sorted PyProof.Rows.entry_sorted (PyProof.Rows.args_sorted1 _) ?_
  unfold Builtin.«sorted»
  refine wpAny_bind (m := checkCount "sorted" 1 1 _) (wpAny_pure ?_)
  refine wpAny_bind (collect_any hT ho hc hd ?_ hz)
  refine wpAny_bind (wpAny_newList ?_ hz)
  have hsz : ((s.heap.push (PyProof.Rows.seqObj "list" #[] 0)).update s.heap.objs.size (Obj.mapSeq (· ++ vs.toArray))).objs.size = s.heap.objs.size + 1 := by
    rw [Heap.size_update, PyProof.Rows.size_push']
  have hoL : (((s.heap.push (PyProof.Rows.seqObj "list" #[] 0)).update s.heap.objs.size (Obj.mapSeq (· ++ vs.toArray))).push (PyProof.Rows.seqObj "list" vs.toArray 0)).get? (s.heap.objs.size + 1) = some (PyProof.Rows.seqObj "list" vs.toArray 0) := by
    rw [← hsz]; exact Heap.get?_push_size _ rfl
  have keep : ∀ b o, s.heap.get? b = some o → b ≠ s.heap.objs.size + 1 ∧ (((s.heap.push (PyProof.Rows.seqObj "list" #[] 0)).update s.heap.objs.size (Obj.mapSeq (· ++ vs.toArray))).push (PyProof.Rows.seqObj "list" vs.toArray 0)).get? b = some o := fun b o q => by
    have hlt : b < s.heap.objs.size := Heap.lt_size q
    refine ⟨Nat.ne_of_lt (Nat.lt_succ_of_lt hlt), Heap.get?_push_of_some _ ?_⟩
    rw [Heap.get?_update_ne _ _ _ _ (Nat.ne_of_lt hlt)]
    exact Heap.get?_push_of_some _ q
  show wpAny _ _ _ _ _ { s with heap := ((s.heap.push (PyProof.Rows.seqObj "list" #[] 0)).update s.heap.objs.size (Obj.mapSeq (· ++ vs.toArray))).push (PyProof.Rows.seqObj "list" vs.toArray 0) }
  rw [hsz]
  refine wpAny_bind (wpAny_holding (wpAny_call_entry PyProof.Rows.slot_list_sort ⟨_, hoL, rfl⟩ PyProof.Rows.entry_list_sort (SrtO.list_sort_ord O hoL hz (fun h2 => hS h2 _ _ hoL keep) fun out hs hb => ⟨_, rfl, ?_⟩) (PyProof.Rows.args_list_sort _)))
  exact wpAny_pure ⟨_, rfl, h out hs hb⟩
/-! rows of ints -/
def IsRow (h : Heap) (v : Value) (ns : List Int) : Prop := ∃ (a : Addr) (o : Obj) (xs : List Value) (n : Nat), v = .ref a ∧ h.get? a = some o ∧ o.cls = .type "tuple" ∧ o.data = .seq xs.toArray n ∧ Vals (ns.map V.int) xs
theorem IsRow.keeps {h h' : Heap} {v : Value} {ns : List Int} (r : IsRow h v ns) (k : ∀ b o, h.get? b = some o → o.cls = .type "tuple" → h'.get? b = some o) : IsRow h' v ns := by
  obtain ⟨a, o, xs, n, e, h1, h2, h3, h4⟩ := r
  exact ⟨a, o, xs, n, e, k a o h1 h2, h2, h3, h4⟩
theorem row_lex {Q : Bool → Shared → Prop} (fin : Bool) : ∀ (ns ms : List Int) (xs ys : List Value) (i : Nat), Vals (ns.map V.int) xs → Vals (ms.map V.int) ys → fin = decide (ns.length < ms.length) → Q (lexI ns ms) s →
    PySem.W.KatLex prog w A true fin Q (xs.zip ys) i s
  | [], ms, xs, ys, i, h1, h2, hf, hq => by
    cases h1
    refine PySem.W.kat_nil ?_
    cases ms with
    | nil => rw [hf]; exact hq
    | cons m ms => rw [hf]; simpa [lexI] using hq
  | n :: ns, [], xs, ys, i, h1, h2, hf, hq => by
    cases h2
    rw [List.zip_nil_right]
    refine PySem.W.kat_nil ?_
    rw [hf]; simpa [lexI] using hq
  | n :: ns, m :: ms, xs, ys, i, h1, h2, hf, hq => by
    cases h1 with
    | cons r1 t1 =>
      cases h2 with
      | cons r2 t2 =>
        obtain ⟨t, rfl⟩ := r1
        obtain ⟨u, rfl⟩ := r2
        rw [List.zip_cons_cons]
        refine PySem.W.kat_cons (SeqAt.EqAt.int_int n t m u prog w _ _ ?_)
        refine PySem.W.kat_go (fun e1 => ?_) (fun e1 => ?_)
        · have ex : n = m := by simpa using e1
          subst ex
          refine PySem.W.kat_yes (row_lex fin ns ms _ _ (i + 1) t1 t2 (by rw [hf]; simp) ?_)
          simpa [lexI, ieq_self] using hq
        · have ex : ¬ n = m := by simpa using e1
          refine PySem.W.kat_no (TS.oneLt_ints _ ?_)
          simpa [lexI, ieq_false ex] using hq
theorem rows_cmp {vs : List Value} {k : Value → List Int} (hp : ∀ v ∈ vs, IsRow s.heap v (k v)) : SrtO.Cmp prog w A s (PyProof.Rows.tuples' true) (fun p => p.1 ∈ vs) (SrtO.lt2 fun v u => lexI (k v) (k u)) := by
  intro p q hm hm'
  obtain ⟨a, o, xs, n, e, h1, h2, h3, h4⟩ := hp _ hm
  obtain ⟨a', o', xs', n', e', h1', h2', h3', h4'⟩ := hp _ hm'
  show wpAny (model prog w) A (PyProof.Rows.keyLt' (PyProof.Rows.tuples' true) p.1 q.1) (fun r s' => s' = s ∧ r = lexI (k p.1) (k q.1)) (fun _ _ => False) s
  generalize k p.1 = kp at h4 ⊢
  generalize k q.1 = kq at h4' ⊢
  rw [e, e']
  refine PySem.W.kat_lt h1 h3 h1' h3' ?_
  have hl1 := h4.length
  have hl2 := h4'.length
  rw [List.length_map] at hl1 hl2
  exact row_lex _ kp kq xs xs' 0 h4 h4' (by simp [hl1, hl2]) ⟨rfl, rfl⟩
end
end DL

/-! sorted: the rule -/
namespace DL
open PySem PySem.Spec L2
section
variable {prog : Program} {w : World} {A : Around} {E : Value → Shared → Prop} {s : Shared}
theorem rows_firsts {h : Heap} {k : Value → List Int} : ∀ {vs : List Value}, (∀ v ∈ vs, IsRow h v (k v) ∧ k v ≠ []) → ∃ fs : List Value, PySem.W.KatTups h vs fs ∧ fs.length = vs.length ∧ ∀ f ∈ fs, ∃ x t, f = Value.int x t
  | [], _ => ⟨[], PySem.W.KatTups.nil, rfl, fun _ hm => by simp at hm⟩
  | v :: vs, hp => by
    obtain ⟨fs, h1, h2, h3⟩ := rows_firsts (vs := vs) fun v' hm => hp v' (List.mem_cons_of_mem _ hm)
    obtain ⟨⟨a, o, xs, n, e, ho, hc, hd, hv⟩, hne⟩ := hp v (List.mem_cons_self ..)
    subst e
    cases ek : k (.ref a) with
    | nil => exact absurd ek hne
    | cons i is =>
      rw [ek] at hv
      cases hv with
      | cons r t =>
        obtain ⟨u, rfl⟩ := r
        refine ⟨.int i u :: fs, PySem.W.KatTups.cons ho hc hd rfl h1, by rw [List.length_cons, List.length_cons, h2], fun f hm => ?_⟩
        rcases List.mem_cons.mp hm with rfl | hm
        · exact ⟨i, u, rfl⟩
        · exact h3 f hm
theorem rows_sortable {a : Addr} {vs : List Value} {k : Value → List Int} (h0 : 0 < vs.length) (hp : ∀ v ∈ vs, IsRow s.heap v (k v) ∧ k v ≠ []) (ha : ∀ o, s.heap.get? a = some o → o.cls ≠ .type "tuple") : SrtO.SortableO prog w A s a vs fun v u => lexI (k v) (k u) := by
  intro h' keep
  have hp' : ∀ v ∈ vs, IsRow h' v (k v) ∧ k v ≠ [] := fun v hm => ⟨(hp v hm).1.keeps fun b o e c => keep b o (fun z => by subst z; exact ha o e c) e, (hp v hm).2⟩
  obtain ⟨fs, h1, h2, h3⟩ := rows_firsts hp'
  refine ⟨PyProof.Rows.tuples' true, fun Q E hq => ?_, rows_cmp (s := { s with heap := h' }) fun v hm => (hp' v hm).1⟩
  refine PySem.W.kat_kind (T := .type "int") h1 (by omega) (fun f hm => ?_) (by rfl) ?_
  · obtain ⟨x, t, rfl⟩ := h3 f hm
    exact PySem.W.Looks.now
  · have e : (Value.type "int" != Value.type "tuple") = true := by first | decide +kernel | rfl | decide
    rw [e]
    exact hq
end
/-- what sorted asks and gives -/
def rSrt (K : PySem.W.Frag) : List V → Hp → VK → Prop := fun vs H Q => ∃ (a : Addr) (ys : List V), vs = [V.ref a] ∧ (SqL K H a ys ∨ SqT K H a ys) ∧
  ((∃ ns : List Int, ys = ns.map V.int ∧ ∀ (ns' : List Int) (p : Addr), ns'.Perm ns → ns'.Pairwise (· ≤ ·) → H p = none → Q (.ref p) (upd H p (.lst (ns'.map V.int)))) ∨
   (∃ k : V → List Int, (∀ y ∈ ys, ∃ t, y = V.ref t ∧ H t = some (.tup ((k y).map V.int)) ∧ k y ≠ []) ∧ ∀ (zs : List V) (p : Addr), zs.Perm ys → zs.Pairwise (fun x y => lexI (k y) (k x) = false) → H p = none → Q (.ref p) (upd H p (.lst zs))))
section
variable {X : Cx} {N : Nm} {E : XK}
theorem cr_srt : CallR X (.builtin "sorted") (rSrt X.K) := by
  intro pins s σ H vs us Q I r h
  obtain ⟨a, ys, rfl, hs, h⟩ := h
  obtain ⟨its, rv, hz, T, o, n, hT, ho, hc, hd⟩ : ∃ its : List Value, Vals ys its ∧ ys.length ≤ sizeLine ∧ ∃ (T : String) (o : Obj) (n : Nat), (T = "list" ∨ T = "tuple") ∧ s.heap.get? a = some o ∧ o.cls = .type T ∧ o.data = .seq its.toArray n := by
    rcases hs with hs | hs
    · obtain ⟨its, rv, hl, hz⟩ := I.list hs
      obtain ⟨o, h1, h2, n, h3⟩ := hl.isList
      exact ⟨its, rv, hz, "list", o, n, .inl rfl, h1, h2, h3⟩
    · obtain ⟨its, rv, ⟨o, h1, h2, n, h3⟩, hz⟩ := I.tuple hs
      exact ⟨its, rv, hz, "tuple", o, n, .inr rfl, h1, h2, h3⟩
  rw [Vals.ref1 r]
  have hz' : its.length ≤ sizeLine := by rw [← rv.length]; exact hz
  rcases h with ⟨ns, rfl, q⟩ | ⟨k, hx, q⟩
  · have hi := rv.ints
    refine sorted_seq SrtO.swo_int hT ho hc hd hz' (fun h2 h₁ a' _ _ => SrtO.ints_sortable hi h2) fun out h1 h2 => ?_
    obtain ⟨k1, k2, k3⟩ := SrtO.ints_out hi h1 h2
    obtain ⟨ep, he'⟩ := PyProof.Rows.sortedAll_at s.heap its out.toArray
    have hlen : ((out.map SrtO.iv).map V.int).length ≤ sizeLine := by
      rw [List.length_map, k2.length_eq]
      rw [List.length_map] at hz
      exact hz
    exact ⟨.ref _, upd H (s.heap.objs.size + 1) (.lst ((out.map SrtO.iv).map V.int)), I.laid (t' := s.toks) (fun _ _ => PyProof.Rows.sortedAll_old) (Nat.le_succ _) ⟨hlen, out, ep, vals_of_ints k1, he'⟩, rfl, q _ _ k2 k3 (I.hok.fresh (Nat.le_succ _))⟩
  · obtain ⟨e1, e2⟩ := refs_back rv fun x m => by
      obtain ⟨t, e, _⟩ := hx x m
      exact ⟨t, e⟩
    have hp : ∀ v ∈ its, IsRow s.heap v (k (backV v)) ∧ k (backV v) ≠ [] := fun v hv => by
      obtain ⟨t, rfl⟩ := e2 v hv
      have hm : V.ref t ∈ ys := by rw [e1]; exact List.mem_map.mpr ⟨_, hv, rfl⟩
      obtain ⟨t', e, ht, hne⟩ := hx _ hm
      cases e
      obtain ⟨_, its2, r2, o, ho, hc, n, hd⟩ := I.hok _ _ ht
      exact ⟨⟨t, o, its2, n, rfl, ho, hc, hd, r2⟩, hne⟩
    refine sorted_seq (lexI_swo fun v => k (backV v)) hT ho hc hd hz' (fun h2 h₁ a ha kk => ?_) fun out hs hb => ?_
    · refine rows_sortable (s := { s with heap := h₁ }) (k := fun v => k (backV v)) (by omega) (fun v hm => ⟨(hp v hm).1.keeps fun b o e _ => (kk b o e).2, (hp v hm).2⟩) fun o e => ?_
      have e' : some o = some (PyProof.Rows.seqObj "list" its.toArray 0) := e.symm.trans ha
      cases e'
      intro c
      exact absurd (Value.type.inj c) (by decide)
    · have h3 : ∀ u ∈ out, ∃ a, u = Value.ref a := fun u hu => e2 u (hb.perm.mem_iff.mp hu)
      obtain ⟨ep, he'⟩ := PyProof.Rows.sortedAll_at s.heap its out.toArray
      refine ⟨.ref _, upd H (s.heap.objs.size + 1) (.lst (out.map backV)), I.laid (t' := s.toks) (fun _ _ => PyProof.Rows.sortedAll_old) (Nat.le_succ _) ⟨?_, out, ep, vals_back h3, he'⟩, rfl, q _ _ ?_ ?_ (I.hok.fresh (Nat.le_succ _))⟩
      · rw [List.length_map, hb.perm.length_eq, ← rv.length]; exact hz
      · rw [e1]; exact hb.perm.map backV
      · exact List.pairwise_map.mpr hs
/-! ### read by trees -/
def intsOf : List D → Option (List Int)
  | [] => some []
  | .int i :: t => match intsOf t with
    | some l => some (i :: l)
    | none => none
  | _ :: _ => none
def rowsOf : List D → Option (List (List Int))
  | [] => some []
  | .tup (x :: xs) :: t => match intsOf (x :: xs), rowsOf t with
    | some r, some l => some (r :: l)
    | _, _ => none
  | _ :: _ => none
def unI : List Int → D
  | i :: _ => .int i
  | [] => .non
def rowD (r : List Int) : D := .tup (r.map D.int)
def srtL (l : List D) : Option (List D) := match intsOf l with
  | some ns => some ((sortI (ns.map fun i => [i])).map unI)
  | none => match rowsOf l with
    | some rs => some ((sortI rs).map rowD)
    | none => none
def gSrt (d : D) (η : Hd) : Option (D × Hd) := match d with
  | .tup l => match Nat.ble l.length line, srtL l with
    | true, some m => some (.ref η.nx, η.new (.lst m))
    | _, _ => none
  | .ref r => match η.list r with
    | some l => match srtL l with
      | some m => some (.ref η.nx, η.new (.lst m))
      | none => none
    | none => none
  | _ => none
theorem intsOf_eq : ∀ {l : List D} {ns : List Int}, intsOf l = some ns → l = ns.map D.int
  | [], ns, h => by cases h; rfl
  | d :: t, ns, h => by
    cases d with
    | int i =>
      simp only [intsOf] at h
      cases e : intsOf t with
      | none => rw [e] at h; cases h
      | some m => rw [e] at h; cases h; rw [intsOf_eq e]; rfl
    | _ => cases h
theorem rowsOf_eq : ∀ {l : List D} {rs : List (List Int)}, rowsOf l = some rs → l = rs.map rowD ∧ ∀ r ∈ rs, r ≠ []
  | [], ns, h => by cases h; exact ⟨rfl, fun r m => by simp at m⟩
  | d :: t, ns, h => by
    cases d with
    | tup xs =>
      cases xs with
      | nil => cases h
      | cons x xs =>
        simp only [rowsOf] at h
        cases e1 : intsOf (x :: xs) with
        | none => rw [e1] at h; cases h
        | some r =>
          cases e2 : rowsOf t with
          | none => rw [e1, e2] at h; cases h
          | some m =>
            rw [e1, e2] at h
            cases h
            have q := intsOf_eq e1
            obtain ⟨q1, q2⟩ := rowsOf_eq e2
            refine ⟨by rw [q, q1]; rfl, fun r' hm => ?_⟩
            rcases List.mem_cons.mp hm with rfl | hm
            · intro z; subst z; cases q
            · exact q2 r' hm
    | _ => cases h
theorem rel_ints {W : Wl} : ∀ {ns : List Int} {vs : List V}, RelDs W (ns.map D.int) vs → vs = ns.map V.int
  | [], vs, h => by rw [List.map_nil, RelDs] at h; exact h
  | n :: ns, vs, h => by
    rw [List.map_cons, RelDs] at h
    obtain ⟨v, vs', rfl, h1, h2⟩ := h
    rw [rel_ints h2]
    rw [RelD] at h1
    rw [h1]; rfl
theorem ints_rel {W : Wl} : ∀ {ns : List Int}, RelDs W (ns.map D.int) (ns.map V.int)
  | [] => by rw [List.map_nil, RelDs]; rfl
  | n :: ns => RelDs.cons mkInt ints_rel
def unV : V → Int
  | .int i => i
  | _ => 0
theorem unV_map (ns : List Int) : (ns.map V.int).map unV = ns := by rw [List.map_map]; exact (List.map_congr_left fun _ _ => rfl).trans (List.map_id ns)
def rowV (H : Hp) : V → List Int
  | .ref t => match H t with
    | some (.tup us) => us.map unV
    | _ => []
  | _ => []
theorem rel_rows {W : Wl} : ∀ {rs : List (List Int)} {vs : List V}, RelDs W (rs.map rowD) vs → vs.map (rowV W.H) = rs ∧ ∀ v ∈ vs, ∃ t, v = V.ref t ∧ W.H t = some (.tup ((rowV W.H v).map V.int))
  | [], vs, h => by rw [List.map_nil, RelDs] at h; subst h; exact ⟨rfl, fun v m => by simp at m⟩
  | r :: rs, vs, h => by
    rw [List.map_cons, RelDs] at h
    obtain ⟨v, vs', rfl, h1, h2⟩ := h
    obtain ⟨q1, q2⟩ := rel_rows h2
    obtain ⟨a, us, rfl, ha, hr⟩ := relTup h1
    have hr' := rel_ints hr
    subst hr'
    have e : rowV W.H (V.ref a) = r := by simp only [rowV, ha]; exact unV_map r
    refine ⟨by rw [List.map_cons, e, q1], fun v hm => ?_⟩
    rcases List.mem_cons.mp hm with rfl | hm
    · exact ⟨a, rfl, by rw [e]; exact ha⟩
    · exact q2 v hm
theorem rows_rel {W : Wl} : ∀ {vs : List V}, (∀ v ∈ vs, ∃ t, v = V.ref t ∧ W.H t = some (.tup ((rowV W.H v).map V.int))) → RelDs W ((vs.map (rowV W.H)).map rowD) vs
  | [], _ => by rw [List.map_nil, List.map_nil, RelDs]
  | v :: vs, h => by
    obtain ⟨t, e, ht⟩ := h v (List.mem_cons_self ..)
    refine RelDs.cons ?_ (rows_rel fun u hu => h u (List.mem_cons_of_mem _ hu))
    rw [e] at ht ⊢
    exact mkTup ht ints_rel
theorem srt_one {ns ns' : List Int} (p : ns'.Perm ns) (h : ns'.Pairwise (· ≤ ·)) : ns'.map (fun i => [i]) = sortI (ns.map fun i => [i]) := by
  refine srI_uniq ((p.map _).trans (sortI_perm _).symm) (List.pairwise_map.mpr (h.imp fun {x y} q => ?_)) (sortI_sorted _)
  simp only [lexI]
  by_cases e : y = x
  · subst e; rw [ieq_self]
  · rw [ieq_false e]; exact decide_eq_false (by omega)
theorem blt_sorted : CallR X (.builtin "sorted") (rN X.K N (f1 gSrt)) := CallR.imp cr_srt fun xs H Q q => by
  obtain ⟨W, ds, d, η', rfl, o, rs, hf, hq⟩ := q
  obtain ⟨x, rfl, hg⟩ := f1_inv hf
  clear hf
  obtain ⟨v, rfl, rx⟩ := rel1 rs
  obtain ⟨a, l, m, ys, rfl, hs, ry, hm, rfl, rfl, hl⟩ : ∃ a l m ys, v = V.ref a ∧ (SqL X.K W.H a ys ∨ SqT X.K W.H a ys) ∧ RelDs W l ys ∧ srtL l = some m ∧ d = .ref W.η.nx ∧ η' = W.η.new (.lst m) ∧ l.length ≤ sizeLine := by
    cases x with
    | tup l =>
      simp only [gSrt] at hg
      obtain ⟨p, vs, rfl, hs, rs⟩ := relTup rx
      cases e1 : Nat.ble l.length line with
      | false => rw [e1] at hg; cases hg
      | true =>
        cases e2 : srtL l with
        | none => rw [e1, e2] at hg; cases hg
        | some m =>
          rw [e1, e2] at hg
          cases hg
          exact ⟨p, l, m, vs, rfl, .inr (SqT.of hs), rs, e2, rfl, rfl, Nat.le_of_ble_eq_true e1⟩
    | ref r =>
      simp only [gSrt] at hg
      cases e : W.η.list r with
      | none => rw [e] at hg; cases hg
      | some l =>
        rw [e] at hg
        simp only at hg
        cases e2 : srtL l with
        | none => rw [e2] at hg; cases hg
        | some m =>
          rw [e2] at hg
          cases hg
          obtain ⟨vs, g1, g2, g3⟩ := list_of o e
          exact ⟨_, l, m, vs, relRef rx, .inl g1, g2, e2, rfl, rfl, g3⟩
    | _ => cases hg
  refine ⟨a, ys, rfl, hs, ?_⟩
  unfold srtL at hm
  cases e1 : intsOf l with
  | some ns =>
    rw [e1] at hm
    cases hm
    have el := intsOf_eq e1
    subst el
    refine .inl ⟨ns, rel_ints ry, fun ns' p p1 p2 hp => ?_⟩
    have e := srt_one p1 p2
    have e3 : (sortI (ns.map fun i => [i])).map unI = ns'.map D.int := by
      rw [← e, List.map_map]; exact List.map_congr_left fun _ _ => rfl
    rw [e3] at hq
    refine new_lst o hq hp ints_rel ?_
    rw [List.length_map] at hl ⊢
    rw [p1.length_eq]; exact hl
  | none =>
    rw [e1] at hm
    simp only at hm
    cases e2 : rowsOf l with
    | none => rw [e2] at hm; cases hm
    | some rs =>
      rw [e2] at hm
      cases hm
      obtain ⟨el, hne⟩ := rowsOf_eq e2
      subst el
      obtain ⟨q1, q2⟩ := rel_rows ry
      refine .inr ⟨rowV W.H, fun y hy => ?_, fun zs p p1 p2 hp => ?_⟩
      · obtain ⟨t, e, ht⟩ := q2 y hy
        exact ⟨t, e, ht, hne _ (by rw [← q1]; exact List.mem_map_of_mem hy)⟩
      · have e : zs.map (rowV W.H) = sortI rs := srI_uniq ((p1.map _).trans (by rw [q1]; exact (sortI_perm _).symm)) (List.pairwise_map.mpr p2) (sortI_sorted _)
        rw [← e] at hq
        refine new_lst o hq hp (rows_rel fun u hu => q2 u (p1.mem_iff.mp hu)) ?_
        rw [List.length_map] at hl ⊢
        have := p1.length_eq
        have h2 := congrArg List.length q1
        rw [List.length_map] at h2 ⊢
        omega
end
end DL

/-! methods called; a lambda handed to a def that tells its exceptions -/
namespace DL
open PySem PySem.Spec L2
section
variable {X : Cx} {N : Nm} {E : XK}
theorem je_mt {id : String} {name : Str} {f : FM} {o e : Expr} {es : List Expr} {co : CE} {c : CA} {apos cpos : Pos} (pa : PlainAttrs "list") (slot : Slot "list" name id) (hty : typeOf (.builtin id) = pure (.type "method_descriptor")) (hm : MtR X id (rM X.K N f)) (ho : JE X N E o co) (ha : JA X N E (e :: es) c)
    (hbase : attributeBase o name X.env (eval o X.env) = eval o X.env := by rfl)
    (hfew : ((backTo cpos (starEach (e :: es) X.env)).all (fun x => !x.1) && (backToKw cpos (keywordEach [] X.env)).all (fun x => x.1.isSome)
      && decide ((e :: es).length + ([] : List Keyword).length + (if ([] : List Keyword).isEmpty then 0 else 1) < 30)) = true := by rfl)
    (hline : (apos.endLine == cpos.line) = true := by rfl) (hs : starEach (e :: es) X.env = (false, eval e X.env) :: starEach es X.env := by rfl) (hplain : (backTo cpos (starEach es X.env)).any (·.1) = false := by rfl) :
    JE X N E (.Call (.Attribute o name apos) (e :: es) [] cpos) (cMt f co c) :=
  PE.imp (pe_bm pa slot hty hm ho ha hbase hfew hline hs hplain) fun σ H Q q => tBM_of q
/-- x.f(): no argument -/
def cMt0 (f : FM) (o : CE) : CE := fun σ η kv kx => o σ η (fun x η1 => match isL η1 x with
  | true => match f x [] η1 with
    | some (d, η2) => kv d η2
    | none => false
  | false => false) kx
theorem je_mt0 {id : String} {name : Str} {f : FM} {o : Expr} {co : CE} {apos cpos : Pos} (pa : PlainAttrs "list") (slot : Slot "list" name id) (hty : typeOf (.builtin id) = pure (.type "method_descriptor")) (hm : MtR X id (rM X.K N f)) (ho : JE X N E o co)
    (hbase : attributeBase o name X.env (eval o X.env) = eval o X.env := by rfl) (hline : (apos.endLine == cpos.line) = true := by rfl) :
    JE X N E (.Call (.Attribute o name apos) [] [] cpos) (cMt0 f co) :=
  PE.imp (pe_bm0 pa slot hty hm ho hbase hline) fun σ H Q q => by
    obtain ⟨W, σd, kv, kx, rfl, o, s, h, hv, hx⟩ := q
    refine tE.bind o s hx h fun W1 d v x1 o1 r1 s1 hx1 h1 => ?_
    cases e : isL W1.η d with
    | false => rw [e] at h1; cases h1
    | true =>
      rw [e] at h1
      refine ⟨isL_ty o1 r1 e, ?_⟩
      simp only at h1
      cases e2 : f d [] W1.η with
      | none => rw [e2] at h1; cases h1
      | some p =>
        obtain ⟨d2, η2⟩ := p
        rw [e2] at h1
        exact ⟨W1, d, [], d2, η2, rfl, o1, r1, .nil, e2, fun W' v x3 o3 e3 r3 => hv W' d2 v (x1.trans o o1 x3) o3 r3 (by rw [e3]; exact h1)⟩
/-! ### told -/
def wStr (K : PySem.W.Frag) : List (Value × Str) → Value → (Str → Prop) → Prop
  | [], _, _ => False
  | (c, r) :: l, cls, P => ∃ b, PySem.W.exmOne K cls c = some b ∧ (b = true → P r) ∧ (b = false → wStr K l cls P)
def TTm (K : PySem.W.Frag) (l : List (Value × Str)) : (XK → Hp → VK → Prop) → Hp → VK → Prop := fun tl H Q =>
  tl (fun cls _ H' => wStr K l cls (fun r => Q (.str r) H')) H Q
inductive HdsS (mg : Str → Option Value) (sg : Scope) : List ExceptHandler → List (Value × Str) → Prop
  | nil : HdsS mg sg [] []
  | cons {e ret : Str} {c : Value} {p4 p5 p6 p7 : Pos} {j} {hds : List ExceptHandler} {l : List (Value × Str)} (hge : sg.names.lookup e = some .globalImplicit) (hme : mg e = some c) (hde : (e == ("__debug__" : Str)) = false) (r : HdsS mg sg hds l) :
      HdsS mg sg (.ExceptHandler (some (.Name e p4)) none [.Return (some (.Constant (.str ret) j p5)) p6] p7 :: hds) ((c, ret) :: l)
def tsOf (l : List (Value × Str)) : List (Value × (Addr → Value → Option Addr → TS)) := l.map fun p => (p.1, fun _ _ _ D _ H => D.rt (.str p.2) H)
theorem HdsS.ok {Y : Cx} {sg : Scope} (hs : Y.env.scope = sg) {hds : List ExceptHandler} {l : List (Value × Str)} (h : HdsS Y.mg sg hds l) : HdsOk Y hds (tsOf l) := by
  induction h with
  | nil => exact .nil
  | cons hge hme hde r ih =>
    refine HdsOk.cons ⟨?_, hde, .inl hme⟩ (fun a oe cls d pn _ _ => ?_) ih
    · subst hs; exact hge
    · exact pss_one (ps_ret pe_str)
theorem wMany_of {K : PySem.W.Frag} {Z : Ends} {cls : Value} {d : Option Addr} {σ : St} {H : Hp} : ∀ {l : List (Value × Str)}, wStr K l cls (fun r => Z.rt (.str r) H) → wMany K (fun _ _ _ _ => False) Z (tsOf l) cls d σ H
  | [], h => h
  | (c, r) :: l, h => by
    obtain ⟨b, e1, e2, e3⟩ := h
    exact ⟨b, e1, fun hb a _ => e2 hb, fun hb => wMany_of (e3 hb)⟩
theorem told_many {Ng : List Str} {x a q : Str} {sg : Scope} {g : Addr} {cdg : Value} {p1 p2 p3 p8 : Pos} {h₀ : ExceptHandler} {hds : List ExceptHandler} {l : List (Value × Str)} (hh : HdsS X.mg sg (h₀ :: hds) l) (h0 : ∀ f : Addr, (L2.start Ng [V.ref f])[0]? = some (some (V.ref f))) :
    LamX.GivesTo X Ng x sg g cdg [.Try [.Return (some (.Call (.Name a p1) [] [] p2)) p3] (h₀ :: hds) [] [] p8] a q (TTm X.K l) := by
  intro f c' s H Q tl act hc h
  refine ⟨_, pss_one (ps_try_many (X := (cxOf C8.CX0 X.prog X.w X.K X.mg X.base Ng x sg g cdg X.A X.stack s H C8.E0).nox) (l := tsOf l)
      (tb := fun W D σ H => ∃ Ech : XK, (∀ cls d σ' H', Ech cls d H' → W cls d σ' H') ∧ σ[0]? = some (some (.ref f)) ∧ H c' = some (LamX.CodeO c' q) ∧ tl Ech H D.rt)
      rfl rfl LamX.takes0 (fun W pn xe tk _ => ?_) (HdsS.ok (Y := (cxOf C8.CX0 X.prog X.w X.K X.mg X.base Ng x sg g cdg X.A X.stack s H C8.E0).nox) (sg := sg) rfl hh)), ?_⟩
  · refine ⟨fun pins s' σ H' D I h' => ?_⟩
    obtain ⟨Ech, hW, h1, h2, h3⟩ := h'
    have hp := act W pn xe Ech p1 p2 tk hW
    have hq := pss_one (ps_ret (pos := p3) hp)
    exact hq.run pins s' σ H' D I ⟨h1, h2, h3⟩
  · exact ⟨fun cls _ H' => wStr X.K l cls (fun r => Q (.str r) H'), fun cls d σ' H' h => wMany_of h, h0 f, hc, h⟩
def cTold (hm : Nat → Option Str) (cb : CE) : CE := fun σ η kv kx => cb σ η kv (fun x η1 => match hm x.c with
  | some r => kv (.str r) η1
  | none => false)
def HmOk (K : PySem.W.Frag) (N : Nm) (l : List (Value × Str)) (hm : Nat → Option Str) : Prop := ∀ c r, hm c = some r → ∀ P : Str → Prop, P r → wStr K l (.ref (N.cls c)) P
/-- a world where tables grow -/
theorem Wl.Ok.grown {K : PySem.W.Frag} {N : Names} {W : Wl} (o : W.Ok K N) {H1 : Hp} (eN : LamX.ExtN W.H H1) (T1 : LamX.Tabs N.tabs H1) : Ext W ⟨W.μ, W.η, H1⟩ ∧ Wl.Ok K N ⟨W.μ, W.η, H1⟩ := by
  have x : Ext W ⟨W.μ, W.η, H1⟩ := ⟨Nat.le_refl _, fun _ _ => rfl, fun a u h t _ => eN a u h t, fun a u h t => ⟨u, eN a u h t, t⟩, fun r c e => .inl ⟨c, e, id⟩⟩
  exact ⟨x, o.lt, fun r c e => (o.cell r c e).mono o x (fun ob t h => eN _ ob h t), o.inj, T1⟩
theorem je_told {l : List (Value × Str)} {hm : Nat → Option Str} {x a : Str} {g c P : Addr} {k : Nat} {pg : Arguments} {bg : List Stmt} {sg : Scope} {dV kV doc pm cdv ct oc : Value} {an od : Option Addr} {osl : Array (Option Value)} {Ng : List Str}
    {params : Arguments} {body : Expr} {scope : Scope} {cb : CE} {p lpos pos : Pos} (hg : Gl X x) (hmg : X.mg x = some (.ref g)) (hk : PySem.W.keepIn X.K (.ref g) = true)
    (lk : X.K.lookup g = some ⟨oc, od, .func (PySem.W.fnOf x x pg bg sg dV kV doc pm an cdv ct), osl⟩) (hcg : PySem.W.codeIn X.K cdv x = true) (hb : L2.Binds X.K (PySem.W.fnOf x x pg bg sg dV kV doc pm an cdv ct) [a] []) (Sg : FnScope Ng [a] sg) (hNg : Ng[0]? = some a) (hva : Vis sg a)
    (hG : LamX.GivesTo X Ng x sg g cdv bg a (X.env.qual ++ "<lambda>") (TTm X.K l)) (hH : HmOk X.K N l hm)
    (TB : LamX.TabB X.base X.mg c P) (hcode : X.env.code = .ref c) (hmT : (P, X.env.qual ++ "<lambda>") ∈ N.tabs) (hu : ∀ p ∈ N.tabs, p.1 = P → p.2 = X.env.qual ++ "<lambda>") (hr : Room (k + 2) X.A) (L : LamX.LamS X.env.scope scope) (hdef : defaultsOf params X.env = ([], []))
    (hbind : ∀ (q : Str) (cl : List (Str × Addr)) (pm cv ctv : Value), bindArgs (PySem.W.kla_fn "<lambda>" q params body scope cl pm cv ctv) ⟨[], []⟩ = pure [])
    (hbody : ∀ (A : Around) (outer : List Env) (s : Shared) (H : Hp) (E : XK) (f c' : Addr), Room k (A.deeper (LamX.lamEnv X scope s.heap.objs.size f c')) → JE (LamX.lamCx X A outer s H E scope f c') N E body cb)
    (hdb : (x == ("__debug__" : Str)) = false := by decide) (hd : (a == ("__debug__" : Str)) = false := by decide) (hcd : (a == ("__classdict__" : Str)) = false := by decide) :
    JE X N E (.Call (.Name x p) [.Lambda params body scope lpos] [] pos) (cTold hm cb) :=
  PE.imp (LamX.pe_lamcall (T := N.tabs) (t := fun E => tE X.K N E cb) hg hmg hk lk hcg hb Sg hNg hva hG TB hcode hmT hu hr L hdef hbind hbody hdb hd hcd) fun σ H Q q => by
    obtain ⟨W, σd, kv, kx, rfl, o, s, h, hv, hx⟩ := q
    refine ⟨o.tab, fun H1 eN T1 => ?_⟩
    obtain ⟨x1, o1⟩ := o.grown eN T1
    refine ⟨⟨W.μ, W.η, H1⟩, σd, kv, _, rfl, o1, s.mono o x1, h, hv.mono o o1 x1, fun W' xx cls dd x2 o2 rx e => ?_⟩
    dsimp only at e
    cases em : hm xx.c with
    | none => rw [em] at e; cases e
    | some r =>
      rw [em] at e
      have := rx.1
      subst this
      exact hH _ _ em _ (hv W' (.str r) (.str r) (x1.trans o o1 x2) o2 mkStr' e)
end
end DL

/-! states forgotten, tables of results, dice, the law's own loop -/
namespace DL
open PySem PySem.Spec L2
section
variable {X : Cx} {N : Nm} {E : XK}
def ipow (i j : Int) : Int := i ^ j.toNat
def powOk (i j : Int) : Bool := match j with
  | .ofNat n => Nat.ble n 1000 && Nat.ble i.natAbs 1000000000000000000
  | _ => false
theorem powOk_ok (i j : Int) (h : powOk i j = true) : CPow i j := by
  unfold powOk at h
  split at h
  · rename_i n
    obtain ⟨h1, h2⟩ := Bool.and_eq_true_iff.mp h
    have h1 := Nat.le_of_ble_eq_true h1
    have h2 := Nat.le_of_ble_eq_true h2
    exact ⟨by show (0 : Int) ≤ (n : Int); omega, by show (n : Int) ≤ _; omega, by omega⟩
  · cases h
def fPow : F2 := fI2c powOk ipow
theorem opd_pow : OpR X (binaryOp .Pow) (r2 X.K N fPow) := opd_intc op_pow powOk_ok fun _ _ => rfl
end
/-! ### the same data -/
def same : Nat → D → D → Bool
  | _, .int i, .int j => ieq i j
  | _, .non, .non => true
  | _, .bl a, .bl b => a == b
  | _, .str x, .str y => x == y
  | _, .ref a, .ref b => Nat.beq a b
  | n + 1, .tup a, .tup b => eqL (same n) a b
  | _, _, _ => false
theorem eqL_eq {f : D → D → Bool} (hf : ∀ a b, f a b = true → a = b) : ∀ {a b : List D}, eqL f a b = true → a = b
  | [], [], _ => rfl
  | x :: xs, y :: ys, h => by
    simp only [eqL] at h
    cases e : f x y with
    | true => rw [e] at h; rw [hf _ _ e, eqL_eq hf h]
    | false => rw [e] at h; cases h
  | [], _ :: _, h => by simp [eqL] at h
  | _ :: _, [], h => by simp [eqL] at h
theorem same_eq : ∀ (n : Nat) (a b : D), same n a b = true → a = b := by
  intro n
  induction n with
  | zero =>
    intro a b h
    cases a <;> cases b <;> first | rfl | (simp only [same] at h; first | cases h | exact congrArg D.int (ieq_iff.mp h) | exact congrArg D.bl (beq_iff_eq.mp h) | exact congrArg D.str (beq_iff_eq.mp h) | exact congrArg D.ref (Nat.eq_of_beq_eq_true h))
  | succ n ih =>
    intro a b h
    cases a <;> cases b <;> first | rfl | (simp only [same] at h; first | cases h | exact congrArg D.int (ieq_iff.mp h) | exact congrArg D.bl (beq_iff_eq.mp h) | exact congrArg D.str (beq_iff_eq.mp h) | exact congrArg D.ref (Nat.eq_of_beq_eq_true h) | exact congrArg D.tup (eqL_eq ih h))
/-- its cells are below n -/
def below : Nat → Nat → D → Bool
  | _, n, .ref r => Nat.ble (Nat.succ r) n
  | f + 1, n, .tup l => l.all (below f n)
  | 0, _, .tup _ => false
  | _, _, _ => true
theorem below_rel {W : Wl} {n : Nat} {cs : List (Nat × Cell)} : ∀ (f : Nat) {d : D} {v : V}, below f n d = true → RelD W d v → RelD ⟨W.μ, ⟨n, cs⟩, W.H⟩ d v := by
  intro f
  induction f with
  | zero =>
    intro d v h r
    cases d with
    | tup l => cases h
    | ref q => rw [RelD] at *; exact ⟨Nat.le_of_ble_eq_true h, r.2⟩
    | _ => rw [RelD] at *; exact r
  | succ f ih =>
    intro d v h r
    cases d with
    | tup l =>
      rw [RelD] at *
      obtain ⟨a, vs, e, h1, h2⟩ := r
      refine ⟨a, vs, e, h1, ?_⟩
      have all : ∀ (l : List D) (vs : List V), l.all (below f n) = true → RelDs W l vs → RelDs ⟨W.μ, ⟨n, cs⟩, W.H⟩ l vs := by
        intro l
        induction l with
        | nil => intro vs _ r; rw [RelDs] at *; exact r
        | cons d l ihl =>
          intro vs hh r
          rw [RelDs] at *
          obtain ⟨v, vs', e, r1, r2⟩ := r
          simp only [List.all_cons, Bool.and_eq_true] at hh
          exact ⟨v, vs', e, ih hh.1 r1, ihl vs' hh.2 r2⟩
      exact all l vs h h2
    | ref q => rw [RelD] at *; exact ⟨Nat.le_of_ble_eq_true h, r.2⟩
    | _ => rw [RelD] at *; exact r
theorem belows_rel {W : Wl} {n : Nat} {cs : List (Nat × Cell)} {f : Nat} : ∀ {l : List D} {vs : List V}, l.all (below f n) = true → RelDs W l vs → RelDs ⟨W.μ, ⟨n, cs⟩, W.H⟩ l vs
  | [], _, _, r => by rw [RelDs] at *; exact r
  | d :: l, _, hh, r => by
    rw [RelDs] at *
    obtain ⟨v, vs', e, r1, r2⟩ := r
    simp only [List.all_cons, Bool.and_eq_true] at hh
    exact ⟨v, vs', e, below_rel f hh.1 r1, belows_rel hh.2 r2⟩
def is3 : List D → Bool
  | [.int _, .int _, .int _] => true
  | _ => false
/-- of the cell c0 the cell c is kept -/
def cle (n : Nat) (c0 c : Cell) : Bool := match c with
  | .dice => match c0 with
    | .dice => true
    | .lst l => is3 l
    | _ => false
  | .lst m => match c0 with
    | .lst l => eqL (same 8) l m && l.all (below 8 n)
    | _ => false
  | _ => false
theorem is3_eq {l : List D} (h : is3 l = true) : ∃ p q r, l = [.int p, .int q, .int r] := by
  match l, h with
  | [.int p, .int q, .int r], _ => exact ⟨p, q, r, rfl⟩
theorem rel3i {W : Wl} {p q r : Int} {vs : List V} (h : RelDs W [.int p, .int q, .int r] vs) : vs = [.int p, .int q, .int r] := rel_ints (ns := [p, q, r]) h
theorem cle_ok {K : PySem.W.Frag} {N : Names} {W : Wl} {n : Nat} {cs : List (Nat × Cell)} {a : Addr} {c0 c : Cell} (h : cle n c0 c = true) (r : RelC K N W a c0) : RelC K N ⟨W.μ, ⟨n, cs⟩, W.H⟩ a c ∧ (c.mut = true → c0.mut = true) := by
  cases c with
  | dice =>
    cases c0 with
    | dice => exact ⟨r, id⟩
    | lst l =>
      obtain ⟨p, q, s, rfl⟩ := is3_eq h
      obtain ⟨vs, h1, h2, _⟩ := r
      rw [rel3i h2] at h1
      exact ⟨⟨p, q, s, h1⟩, fun _ => rfl⟩
    | _ => cases h
  | lst m =>
    cases c0 with
    | lst l =>
      obtain ⟨h1, h2⟩ := Bool.and_eq_true_iff.mp h
      have e := eqL_eq (same_eq 8) h1
      subst e
      obtain ⟨vs, g1, g2, g3⟩ := r
      exact ⟨⟨vs, g1, belows_rel h2 g2, g3⟩, fun _ => rfl⟩
    | _ => cases h
  | _ => cases h
def leSl (n : Nat) : SD → SD → Bool
  | [], [] => true
  | none :: s, _ :: t => leSl n s t
  | some d :: s, some e :: t => match same 8 e d with
    | true => match below 8 n d with
      | true => leSl n s t
      | false => false
    | false => false
  | _, _ => false
def leCs (n : Nat) (η : Hd) : List (Nat × Cell) → Bool
  | [] => true
  | p :: t => match Nat.ble (Nat.succ p.1) n with
    | true => match η.get p.1 with
      | some c0 => match cle n c0 p.2 with
        | true => leCs n η t
        | false => false
      | none => false
    | false => false
/-- the state st is kept of σ and η -/
def leS (st : SD × Hd) (σ : SD) (η : Hd) : Bool := match leSl st.2.nx st.1 σ with
  | true => match Nat.ble st.2.nx η.nx with
    | true => leCs st.2.nx η st.2.cs
    | false => false
  | false => false
theorem leSl_len {n : Nat} : ∀ {s t : SD}, leSl n s t = true → s.length = t.length
  | [], [], _ => rfl
  | none :: s, _ :: t, h => by simp only [leSl] at h; simp [leSl_len h]
  | some d :: s, some e :: t, h => by
    simp only [leSl] at h
    cases e1 : same 8 e d with
    | false => rw [e1] at h; cases h
    | true =>
      cases e2 : below 8 n d with
      | false => rw [e1, e2] at h; cases h
      | true => rw [e1, e2] at h; simp [leSl_len h]
  | [], _ :: _, h => by simp [leSl] at h
  | _ :: _, [], h => by
    rename_i x xs
    cases x <;> simp [leSl] at h
  | some d :: s, none :: t, h => by simp [leSl] at h
theorem leSl_get {n : Nat} : ∀ {s t : SD} (i : Nat) (d : D), leSl n s t = true → s[i]? = some (some d) → t[i]? = some (some d) ∧ below 8 n d = true
  | [], _, i, d, _, e => by simp at e
  | none :: s, [], i, d, h, e => by simp [leSl] at h
  | none :: s, y :: t, 0, d, h, e => by simp at e
  | none :: s, y :: t, i + 1, d, h, e => by
    simp only [leSl] at h
    exact leSl_get i d h (by simpa using e)
  | some c :: s, [], i, d, h, e => by simp [leSl] at h
  | some c :: s, none :: t, i, d, h, e => by simp [leSl] at h
  | some c :: s, some y :: t, i, d, h, e => by
    simp only [leSl] at h
    cases e1 : same 8 y c with
    | false => rw [e1] at h; cases h
    | true =>
      cases e2 : below 8 n c with
      | false => rw [e1, e2] at h; cases h
      | true =>
        rw [e1, e2] at h
        have ec := same_eq 8 _ _ e1
        subst ec
        cases i with
        | zero => simp only [List.getElem?_cons_zero, Option.some.injEq] at e; subst e; exact ⟨rfl, e2⟩
        | succ i => exact leSl_get i d h (by simpa using e)
theorem leCs_get {n : Nat} {η : Hd} : ∀ {cs : List (Nat × Cell)} (r : Nat) (c : Cell), leCs n η cs = true → look r cs = some c → r < n ∧ ∃ c0, η.get r = some c0 ∧ cle n c0 c = true
  | [], r, c, _, e => by cases e
  | p :: t, r, c, h, e => by
    simp only [leCs] at h
    cases e1 : Nat.ble (Nat.succ p.1) n with
    | false => rw [e1] at h; cases h
    | true =>
      rw [e1] at h
      simp only at h
      cases e2 : η.get p.1 with
      | none => rw [e2] at h; cases h
      | some c0 =>
        rw [e2] at h
        simp only at h
        cases e3 : cle n c0 p.2 with
        | false => rw [e3] at h; cases h
        | true =>
          rw [e3] at h
          simp only [look] at e
          cases e4 : Nat.beq p.1 r with
          | true =>
            rw [e4] at e
            cases e
            have := Nat.eq_of_beq_eq_true e4
            subst this
            exact ⟨Nat.le_of_ble_eq_true e1, c0, e2, e3⟩
          | false => rw [e4] at e; exact leCs_get r c h e
theorem leS_ok {K : PySem.W.Frag} {N : Names} {W0 W : Wl} {st : SD × Hd} {σd : SD} {σ : St} (o : W.Ok K N) (x : Ext W0 W) (s : RelS W σd σ) (h : leS st σd W.η = true) (h0 : W0.η.nx ≤ st.2.nx) :
    Ext W0 ⟨W.μ, st.2, W.H⟩ ∧ Wl.Ok K N ⟨W.μ, st.2, W.H⟩ ∧ RelS ⟨W.μ, st.2, W.H⟩ st.1 σ := by
  unfold leS at h
  cases e1 : leSl st.2.nx st.1 σd with
  | false => rw [e1] at h; cases h
  | true =>
    rw [e1] at h
    simp only at h
    cases e2 : Nat.ble st.2.nx W.η.nx with
    | false => rw [e2] at h; cases h
    | true =>
      rw [e2] at h
      have sub : ∀ r c, st.2.get r = some c → r < st.2.nx ∧ ∃ c0, W.η.get r = some c0 ∧ cle st.2.nx c0 c = true := fun r c e => leCs_get r c h e
      refine ⟨⟨h0, x.mu, x.fr, x.th, fun r c e => ?_⟩, ⟨fun r c e => (sub r c e).1, fun r c e => ?_, fun r s c d e1 e2 e => ?_, o.tab⟩, ?_⟩
      · obtain ⟨_, c0, g1, g2⟩ := sub r c e
        have gm := (cle_ok (cs := []) g2 (o.cell r c0 g1)).2
        rcases x.cs r c0 g1 with ⟨c1, k1, k2⟩ | k
        · exact .inl ⟨c1, k1, fun m => k2 (gm m)⟩
        · exact .inr k
      · obtain ⟨_, c0, g1, g2⟩ := sub r c e
        exact (cle_ok (cs := st.2.cs) g2 (o.cell r c0 g1)).1
      · obtain ⟨_, c1, g1, _⟩ := sub r c e1
        obtain ⟨_, c2, g2, _⟩ := sub s d e2
        exact o.inj r s c1 c2 g1 g2 e
      · refine ⟨(leSl_len e1).trans s.len, fun i d e => ?_⟩
        obtain ⟨q1, q2⟩ := leSl_get i d e1 e
        obtain ⟨v, r1, r2⟩ := s.get i d q1
        exact ⟨v, r1, below_rel (cs := st.2.cs) 8 q2 r2⟩
/-! ### the body of the law's loop -/
def kT (m : Nat) : KS := ⟨fun σ _ => Nat.beq σ.length m, fun _ _ => false, fun _ _ => false, fun σ _ => Nat.beq σ.length m, fun _ _ => false⟩
abbrev CK := SD → Hd → Bool
def tK (K : PySem.W.Frag) (N : Nm) (E : XK) (m : Nat) (c : CK) : TS := fun Z σ H => ∃ W0 W σd, W0.Ok K N.toNames ∧ W0.η.nx ≤ 1 ∧ Ext W0 W ∧ W.H = H ∧ W.Ok K N.toNames ∧ RelS W σd σ ∧ c σd W.η = true ∧ Sk K N E W0 (kT m) Z
def JK (X : Cx) (N : Nm) (E : XK) (m : Nat) (b : List Stmt) (c : CK) : Prop := PSs X b (tK X.K N E m c)
section
variable {X : Cx} {N : Nm} {E : XK} {m : Nat}
theorem jk_of {b : List Stmt} {c : CS} (h : JB X N E b c) : JK X N E m b (fun σ η => c σ η (kT m)) := PSs.imp h fun Z σ H q => by
  obtain ⟨W0, W, σd, o0, h0, x, rfl, o, s, h, hk⟩ := q
  exact ⟨W, σd, kT m, rfl, o, s, h, hk.mono o0 o x⟩
theorem jk_cons {st : Stmt} {rest : List Stmt} {a : CS} {c : CK} (h1 : JS X N E st a) (h2 : JK X N E m rest c) : JK X N E m (st :: rest) (fun σ η => a σ η { kT m with nx := c }) := PSs.imp (pss_cons h1 h2) fun Z σ H q => by
  obtain ⟨W0, W, σd, o0, h0, x, rfl, o, s, h, hk⟩ := q
  have hk' := hk.mono o0 o x
  exact ⟨W, σd, _, rfl, o, s, h, ⟨fun W' σd' σ' x' o' s' e' => ⟨W0, W', σd', o0, h0, x.trans o0 o x', rfl, o', s', e', hk⟩, hk'.rt, hk'.bk, hk'.ct, hk'.xc⟩⟩
/-- what is known is cut down to one of few states -/
theorem jk_cut (S : List (SD × Hd)) {rest : List Stmt} {c : CK} (h : JK X N E m rest c) (hS : (S.all fun st => Nat.ble 1 st.2.nx && c st.1 st.2) = true)   : JK X N E m rest (fun σ η => S.any fun st => leS st σ η) := PSs.imp h fun Z σ H q => by
  obtain ⟨W0, W, σd, o0, h0, x, rfl, o, s, h, hk⟩ := q
  obtain ⟨st, hm, hl⟩ := List.any_eq_true.mp h
  obtain ⟨h1, h2⟩ := Bool.and_eq_true_iff.mp (List.all_eq_true.mp hS st hm)
  obtain ⟨x', o', s'⟩ := leS_ok o x s hl (Nat.le_trans h0 (Nat.le_of_ble_eq_true h1))
  exact ⟨W0, _, st.1, o0, h0, x', rfl, o', s', h2, hk⟩
end
end DL

/-! tables of results, dice, the law's own loop -/
namespace DL
open PySem PySem.Spec L2
section
variable {K : PySem.W.Frag} {N : Names} {W W1 : Wl}
theorem put_put (r : Nat) (c d : Cell) : ∀ l : List (Nat × Cell), put r d (put r c l) = put r d l
  | [] => rfl
  | p :: t => by
    have rr : Nat.beq r r = true := Nat.beq_refl r
    cases e : Nat.beq p.1 r with
    | true => simp only [put, e, rr]
    | false => simp only [put, e, put_put r c d t]
theorem put_self (r : Nat) (c : Cell) : ∀ l : List (Nat × Cell), look r l = some c → put r c l = l
  | [], h => rfl
  | p :: t, h => by
    unfold put
    unfold look at h
    cases e : Nat.beq p.1 r with
    | true =>
      rw [e] at h
      have := Nat.eq_of_beq_eq_true e
      cases h; subst this; rfl
    | false => rw [e] at h; simp only; rw [put_self r c t h]
theorem Hd.set_set (η : Hd) (r : Nat) (c d : Cell) : (η.set r c).set r d = η.set r d := by unfold Hd.set; rw [put_put]
theorem Hd.set_self (η : Hd) (r : Nat) (c : Cell) (h : η.get r = some c) : η.set r c = η := by unfold Hd.set; rw [put_self r c _ h]
theorem Hd.new_set (η : Hd) (c d : Cell) : (η.new c).set η.nx d = η.new d := by
  unfold Hd.new Hd.set put
  have : Nat.beq η.nx η.nx = true := Nat.beq_refl _
  simp [this]
/-- a cell told otherwise -/
theorem Wl.Ok.swap (o : W.Ok K N) {r : Nat} {c0 c : Cell} (h : W.η.get r = some c0) (hc : RelC K N W (W.μ r) c) (m : c.mut = true → c0.mut = true) : Ext W ⟨W.μ, W.η.set r c, W.H⟩ ∧ Wl.Ok K N ⟨W.μ, W.η.set r c, W.H⟩ := by
  have gs : ∀ q, (W.η.set r c).get q = if q = r then some c else W.η.get q := fun q => by
    have := Hd.get_set W.η r c q
    rw [h] at this
    exact this
  have x : Ext W ⟨W.μ, W.η.set r c, W.H⟩ := by
    refine ⟨Nat.le_refl _, fun _ _ => rfl, fun _ _ e _ _ => e, fun a u e t => ⟨u, e, t⟩, fun q d e => ?_⟩
    have e' : (W.η.set r c).get q = some d := e
    rw [gs] at e'
    by_cases z : q = r
    · rw [if_pos z] at e'; cases e'; exact .inl ⟨c0, by rw [z]; exact h, m⟩
    · rw [if_neg z] at e'; exact .inl ⟨d, e', id⟩
  have t : Tx W ⟨W.μ, W.η.set r c, W.H⟩ := x.tx o
  have orig : ∀ q d, (W.η.set r c).get q = some d → ∃ d0, W.η.get q = some d0 := fun q d e => by
    rw [gs] at e
    by_cases z : q = r
    · exact ⟨c0, by rw [z]; exact h⟩
    · rw [if_neg z] at e; exact ⟨d, e⟩
  refine ⟨x, fun q d e => ?_, fun q d e => ?_, fun q s d1 d2 e1 e2 e => ?_, o.tab⟩
  · obtain ⟨d0, e0⟩ := orig q d e; exact o.lt q d0 e0
  · have e' : (W.η.set r c).get q = some d := e
    rw [gs] at e'
    by_cases z : q = r
    · rw [if_pos z] at e'; cases e'; rw [z]; exact hc.tx t (fun _ _ e => e)
    · rw [if_neg z] at e'; exact (o.cell q d e').tx t (fun _ _ e => e)
  · obtain ⟨c1, g1⟩ := orig q d1 e1
    obtain ⟨c2, g2⟩ := orig s d2 e2
    exact o.inj q s c1 c2 g1 g2 e
end
/-! ### dice -/
def l3 (p q r : Int) : List D := [.int p, .int q, .int r]
def allN : Nat → (Nat → Bool) → Bool
  | 0, _ => true
  | n + 1, f => match f n with
    | true => allN n f
    | false => false
theorem allN_get : ∀ {n : Nat} {f : Nat → Bool}, allN n f = true → ∀ i, i < n → f i = true
  | 0, _, _, i, h => absurd h (by omega)
  | n + 1, f, h, i, hi => by
    unfold allN at h
    cases e : f n with
    | false => rw [e] at h; cases h
    | true =>
      rw [e] at h
      by_cases z : i = n
      · rw [z]; exact e
      · exact allN_get h i (by omega)
def fRoll : CF := fun ds η kv kx => match ds with
  | [.ref g, .int (.ofNat (n + 1))] => match η.get g with
    | some .dice => match Nat.ble n 1000000000 with
      | true => allN (n + 1) fun v => kv (.int (Int.ofNat v)) η
      | false => false
    | _ => false
  | _ => false
def RollOk (F : CF) : Prop := ∀ (g : Nat) (m p q r : Int) (η : Hd) (kv : KV) (kx : KX), 0 < m → m ≤ 1000000001 → η.get g = some (.lst (l3 p q r)) →
  (∀ v p' q' r', 0 ≤ v → v < m → kv (.int v) (η.set g (.lst (l3 p' q' r'))) = true) → F [.ref g, .int m] η kv kx = true
def fDice : CF := fun ds η kv kx => match ds with
  | [.int _] => kv (.ref η.nx) (η.new .dice)
  | _ => false
def DiceOk (F : CF) : Prop := ∀ (c : Int) (η : Hd) (kv : KV) (kx : KX), (∀ p q r, kv (.ref η.nx) (η.new (.lst (l3 p q r))) = true) → F [.int c] η kv kx = true
noncomputable def dec (p : Prop) : Bool := @decide p (Classical.propDecidable p)
theorem dec_iff {p : Prop} : dec p = true ↔ p := by unfold dec; exact @decide_eq_true_iff p (Classical.propDecidable p)
section
variable {P : Program} {w : World} {K : PySem.W.Frag} {mg : Str → Option Value} {base : Heap} {N : Nm} {k : Nat} {f : Addr} {fd : FuncData} {ps : List Str} {F : CF}
theorem roll_inv {ds : List D} {η : Hd} {kv : KV} {kx : KX} (h : fRoll ds η kv kx = true) : ∃ g n, ds = [.ref g, .int (.ofNat (n + 1))] ∧ η.get g = some .dice ∧ n ≤ 1000000000 ∧ ∀ v, v < n + 1 → kv (.int (Int.ofNat v)) η = true := by
  unfold fRoll at h
  split at h
  · rename_i g n
    split at h
    · rename_i e
      split at h
      · rename_i e2
        exact ⟨g, n, rfl, e, Nat.le_of_ble_eq_true e2, allN_get h⟩
      · cases h
    · cases h
  · cases h
theorem jf_roll (h : JF P w K mg base k f fd ps N F) (hF : RollOk F) : JF P w K mg base k f fd ps N fRoll :=
  h.imp fun vs H Q E q => by
    obtain ⟨W, ds, kv, kx, rfl, o, r, h, hv, hx⟩ := q
    obtain ⟨g, n, rfl, hg, hn, ha⟩ := roll_inv h
    obtain ⟨p, q, s, hc⟩ := o.cell g _ hg
    have rc : RelC K N.toNames W (W.μ g) (.lst (l3 p q s)) := ⟨_, hc, .cons mkInt (.cons mkInt (.cons mkInt .nil)), by show 3 ≤ sizeLine; decide⟩
    obtain ⟨x1, o1⟩ := o.swap hg rc (fun _ => rfl)
    have g1 : (W.η.set g (.lst (l3 p q s))).get g = some (.lst (l3 p q s)) := by rw [Hd.get_set, if_pos rfl, hg]; rfl
    refine ⟨⟨W.μ, W.η.set g (.lst (l3 p q s)), W.H⟩, _, fun d η' => dec (∃ v p' q' r', d = .int v ∧ 0 ≤ v ∧ v < Int.ofNat (n + 1) ∧ η' = W.η.set g (.lst (l3 p' q' r'))), kx, rfl, o1, r.mono o x1, ?_, fun W2 d v x2 o2 r2 e => ?_, hx.mono o o1 x1⟩
    · refine hF g _ p q s _ _ _ (by show (0 : Int) < ((n + 1 : Nat) : Int); omega) (by show ((n + 1 : Nat) : Int) ≤ _; omega) g1 fun v p' q' r' h1 h2 => dec_iff.mpr ⟨v, p', q', r', rfl, h1, h2, ?_⟩
      exact Hd.set_set _ _ _ _
    · obtain ⟨v', p', q', r', rfl, h1, h2, e2⟩ := dec_iff.mp e
      have g2 : W2.η.get g = some (.lst (l3 p' q' r')) := by rw [e2, Hd.get_set, if_pos rfl, hg]; rfl
      have rd : RelC K N.toNames W2 (W2.μ g) .dice := by
        obtain ⟨us, k1, k2, _⟩ := o2.cell g _ g2
        rw [rel3i k2] at k1
        exact ⟨p', q', r', k1⟩
      obtain ⟨x3, o3⟩ := o2.swap g2 rd (fun _ => rfl)
      have eη : W2.η.set g .dice = W.η := by rw [e2, Hd.set_set, Hd.set_self _ _ _ hg]
      rw [eη] at x3 o3
      have rv : v = .int v' := by rw [RelD] at r2; exact r2
      subst rv
      refine hv ⟨W2.μ, W.η, W2.H⟩ (.int v') _ ((x1.trans o o1 x2).trans o o2 x3) o3 mkInt ?_
      have : v' = Int.ofNat v'.toNat := (Int.toNat_of_nonneg h1).symm
      rw [this]
      exact ha _ (by have h2' : v' < ((n + 1 : Nat) : Int) := h2; omega)
theorem jf_dice (h : JF P w K mg base k f fd ps N F) (hF : DiceOk F) : JF P w K mg base k f fd ps N fDice :=
  h.imp fun vs H Q E q => by
    obtain ⟨W, ds, kv, kx, rfl, o, r, h, hv, hx⟩ := q
    unfold fDice at h
    split at h
    · rename_i c
      refine ⟨W, _, fun d η' => dec (∃ p q s, d = .ref W.η.nx ∧ η' = W.η.new (.lst (l3 p q s))), kx, rfl, o, r, hF c _ _ _ fun p q s => dec_iff.mpr ⟨p, q, s, rfl, rfl⟩, fun W2 d v x2 o2 r2 e => ?_, hx⟩
      obtain ⟨p, q, s, rfl, e2⟩ := dec_iff.mp e
      have g2 : W2.η.get W.η.nx = some (.lst (l3 p q s)) := by rw [e2, Hd.get_new, if_pos rfl]
      have rd : RelC K N.toNames W2 (W2.μ W.η.nx) .dice := by
        obtain ⟨us, k1, k2, _⟩ := o2.cell _ _ g2
        rw [rel3i k2] at k1
        exact ⟨p, q, s, k1⟩
      obtain ⟨x3, o3⟩ := o2.swap g2 rd (fun _ => rfl)
      have eη : W2.η.set W.η.nx .dice = W.η.new .dice := by rw [e2, Hd.new_set]
      rw [eη] at x3 o3
      exact hv ⟨W2.μ, W.η.new .dice, W2.H⟩ _ v (x2.trans o o2 x3) o3 (r2.mono o2 x3) h
    · cases h
/-! ### a def known by a table of its results -/
/-- what a def makes: a value, an exception -/
inductive Rs where
  | val (d : D)
  | exc (c : Nat)
def TabOk (F : CF) (t : List D × Rs) : Bool := match t.1.all (nor 8) with
  | true => match t.2 with
    | .val d => match nor 8 d with
      | true => F t.1 ⟨0, []⟩ (fun d' _ => same 8 d' d) (fun _ _ => false)
      | false => false
    | .exc c => F t.1 ⟨0, []⟩ (fun _ _ => false) (fun x _ => match x.p with
      | none => Nat.beq x.c c
      | some _ => false)
  | false => false
def tabFind (ds : List D) : List (List D × Rs) → Option Rs
  | [] => none
  | t :: r => match eqL (same 8) t.1 ds with
    | true => some t.2
    | false => tabFind ds r
def fTab (T : List (List D × Rs)) : CF := fun ds η kv kx => match tabFind ds T with
  | some (.val d) => kv d η
  | some (.exc c) => kx ⟨c, none⟩ η
  | none => false
theorem tabFind_mem {ds : List D} {r : Rs} : ∀ {T : List (List D × Rs)}, tabFind ds T = some r → (ds, r) ∈ T
  | [], h => by cases h
  | t :: T, h => by
    unfold tabFind at h
    cases e : eqL (same 8) t.1 ds with
    | true =>
      rw [e] at h
      cases h
      rw [← eqL_eq (same_eq 8) e]
      exact List.mem_cons_self
    | false => rw [e] at h; exact List.mem_cons_of_mem _ (tabFind_mem h)
theorem nors_rel {W W' : Wl} (ht : ∀ a vs, W.H a = some (.tup vs) → W'.H a = some (.tup vs)) : ∀ {l : List D} {vs : List V}, l.all (nor 8) = true → RelDs W l vs → RelDs W' l vs
  | [], _, _, r => by rw [RelDs] at *; exact r
  | d :: l, _, hh, r => by
    rw [RelDs] at *
    obtain ⟨v, vs', e, r1, r2⟩ := r
    simp only [List.all_cons, Bool.and_eq_true] at hh
    exact ⟨v, vs', e, nor_rel 8 ht hh.1 r1, nors_rel ht hh.2 r2⟩
theorem jf_tab {T : List (List D × Rs)} (h : JF P w K mg base k f fd ps N F) (hT : T.all (TabOk F) = true) : JF P w K mg base k f fd ps N (fTab T) :=
  h.imp fun vs H Q E q => by
    obtain ⟨W, ds, kv, kx, rfl, o, r, h, hv, hx⟩ := q
    have o0 : Wl.Ok K N.toNames ⟨W.μ, ⟨0, []⟩, W.H⟩ := ⟨(fun _ _ e => nomatch e), (fun _ _ e => nomatch e), (fun _ _ _ _ e => nomatch e), o.tab⟩
    have back : ∀ W', Ext ⟨W.μ, ⟨0, []⟩, W.H⟩ W' → W'.Ok K N.toNames → Ext W ⟨W.μ, W.η, W'.H⟩ ∧ Wl.Ok K N.toNames ⟨W.μ, W.η, W'.H⟩ := fun W' x o' => by
      have keep : ∀ a u, noT u → W.H a = some u → W'.H a = some u := fun a u t e => x.fr a u e t (fun _ _ e => nomatch e)
      have xx : Ext W ⟨W.μ, W.η, W'.H⟩ := ⟨Nat.le_refl _, fun _ _ => rfl, fun a u e t _ => keep a u t e, x.th, fun r c e => .inl ⟨c, e, id⟩⟩
      exact ⟨xx, o.lt, fun r c e => (o.cell r c e).mono o xx (fun ob t => keep _ ob t), o.inj, o'.tab⟩
    unfold fTab at h
    cases e : tabFind ds T with
    | none => rw [e] at h; cases h
    | some rs =>
      have hm := List.all_eq_true.mp hT _ (tabFind_mem e)
      unfold TabOk at hm
      dsimp only at hm
      cases e1 : ds.all (nor 8) with
      | false => rw [e1] at hm; cases hm
      | true =>
        rw [e1] at hm
        have r0 : RelDs ⟨W.μ, ⟨0, []⟩, W.H⟩ ds vs := nors_rel (W := W) (W' := ⟨W.μ, ⟨0, []⟩, W.H⟩) (fun _ _ e => e) e1 r
        rw [e] at h
        cases rs with
        | val d =>
          dsimp only at hm h
          cases e2 : nor 8 d with
          | false => rw [e2] at hm; cases hm
          | true =>
            rw [e2] at hm
            refine ⟨⟨W.μ, ⟨0, []⟩, W.H⟩, ds, _, _, rfl, o0, r0, hm, fun W' d' v x o' r' e' => ?_, fun W' xx cls dd x o' r' e' => by cases e'⟩
            have ed := same_eq 8 _ _ e'
            subst ed
            obtain ⟨xb, ob⟩ := back W' x o'
            exact hv ⟨W.μ, W.η, W'.H⟩ d' v xb ob (nor_rel (W := W') (W' := ⟨W.μ, W.η, W'.H⟩) 8 (fun _ _ e => e) e2 r') h
        | exc c =>
          dsimp only at hm h
          refine ⟨⟨W.μ, ⟨0, []⟩, W.H⟩, ds, _, _, rfl, o0, r0, hm, fun W' d' v x o' r' e' => by (cases e'), fun W' xx cls dd x o' r' e' => ?_⟩
          obtain ⟨xc, xp⟩ := xx
          cases xp with
          | some d => cases e'
          | none =>
            have ec : xc = c := Nat.eq_of_beq_eq_true e'
            subst ec
            obtain ⟨xb, ob⟩ := back W' x o'
            exact hx ⟨W.μ, W.η, W'.H⟩ ⟨xc, none⟩ cls dd xb ob r' h
end
end DL

/-! the law's own loop over its dice -/
namespace DL
open PySem PySem.Spec L2
def delC (g : Nat) : List (Nat × Cell) → List (Nat × Cell)
  | [] => []
  | p :: t => match Nat.beq p.1 g with
    | true => delC g t
    | false => p :: delC g t
def Hd.del (η : Hd) (g : Nat) : Hd := ⟨η.nx, delC g η.cs⟩
theorem look_del (g q : Nat) : ∀ l : List (Nat × Cell), look q (delC g l) = if q = g then none else look q l
  | [] => by simp [delC, look]
  | p :: t => by
    have ih := look_del g q t
    unfold delC
    cases e : Nat.beq p.1 g with
    | true =>
      have e' := Nat.eq_of_beq_eq_true e
      simp only [ih, look]
      by_cases h : q = g
      · simp [h]
      · have : Nat.beq p.1 q = false := by
          cases z : Nat.beq p.1 q with
          | false => rfl
          | true => exact absurd ((Nat.eq_of_beq_eq_true z).symm.trans e') h
        simp [h, this]
    | false =>
      simp only [look, ih]
      by_cases h : q = g
      · subst h; simp [e]
      · simp [h]
theorem Hd.get_del (η : Hd) (g q : Nat) : (η.del g).get q = if q = g then none else η.get q := look_del g q η.cs
def dicesL : List D → Hd → Bool
  | [], _ => true
  | .ref g :: t, η => match η.get g with
    | some .dice => dicesL t (η.del g)
    | _ => false
  | _ :: _, _ => false
theorem dicesL_cons {d : D} {t : List D} {η : Hd} (h : dicesL (d :: t) η = true) : ∃ g, d = .ref g ∧ η.get g = some .dice ∧ dicesL t (η.del g) = true := by
  cases d with
  | ref g =>
    simp only [dicesL] at h
    cases e : η.get g with
    | none => rw [e] at h; cases h
    | some c =>
      cases c with
      | dice => rw [e] at h; exact ⟨g, rfl, e, h⟩
      | _ => rw [e] at h; cases h
  | _ => cases h
theorem Wl.Ok.aside {K : PySem.W.Frag} {N : Names} {W W5 : Wl} (o : W.Ok K N) {g : Nat} (hg : W.η.get g = some .dice) (x : Ext ⟨fun _ => W.μ g, ⟨1, [(0, .dice)]⟩, W.H⟩ W5) (o5 : W5.Ok K N) : Ext W ⟨W.μ, W.η.del g, W5.H⟩ ∧ Wl.Ok K N ⟨W.μ, W.η.del g, W5.H⟩ := by
  have keep : ∀ a u, noT u → W.H a = some u → a ≠ W.μ g → W5.H a = some u := fun a u t e ne => x.fr a u e t (fun _ _ _ _ z => ne z.symm)
  have xx : Ext W ⟨W.μ, W.η.del g, W5.H⟩ := by
    refine ⟨Nat.le_refl _, fun _ _ => rfl, fun a u e t hn => keep a u t e (Ne.symm (hn g _ hg rfl)), x.th, fun q c e => ?_⟩
    have e' : (W.η.del g).get q = some c := e
    rw [Hd.get_del] at e'
    by_cases z : q = g
    · rw [if_pos z] at e'; cases e'
    · rw [if_neg z] at e'; exact .inl ⟨c, e', id⟩
  have orig : ∀ q c, (W.η.del g).get q = some c → q ≠ g ∧ W.η.get q = some c := fun q c e => by
    rw [Hd.get_del] at e
    by_cases z : q = g
    · rw [if_pos z] at e; cases e
    · rw [if_neg z] at e; exact ⟨z, e⟩
  refine ⟨xx, fun q c e => o.lt q c (orig q c e).2, fun q c e => ?_, fun q s c d e1 e2 e => o.inj q s c d (orig q c e1).2 (orig s d e2).2 e, o5.tab⟩
  obtain ⟨z, e'⟩ := orig q c e
  exact (o.cell q c e').mono o xx (fun ob t h => keep _ ob t h (o.apart hg e' z))
theorem RelS.blank {W : Wl} {σ : St} {m : Nat} (h : σ.length = m) : RelS W (List.replicate m none) σ := by
  refine ⟨by rw [List.length_replicate]; exact h.symm, fun i d e => ?_⟩
  have := List.mem_of_getElem? e
  rw [List.mem_replicate] at this
  cases this.2
section
variable {X : Cx} {N : Nm} {E : XK}
/-- what the rounds give -/
def RndQ (K : PySem.W.Frag) (N : Nm) (H : Hp) (Q : VK) : Prop := ∀ W' r l v, Ext ⟨fun _ => 0, ⟨0, []⟩, H⟩ W' → W'.Ok K N.toNames → W'.η.get r = some (.lst l) → dicesL l (frzAt r l W'.η) = true → RelD W' (.ref r) v → Q v W'.H
def spRnd (K : PySem.W.Frag) (N : Nm) : Sp := fun vs H Q _ => ∃ (a : Addr) (ns : List Int) (m : Nat), vs = [.ref a, .int (Int.ofNat m)] ∧ m ≤ 4 ∧ SqL K H a (ns.map V.int) ∧ LamX.Tabs N.tabs H ∧ RndQ K N H Q
def tLaw (K : PySem.W.Frag) (N : Nm) (m : Nat) : TS := fun Z σ H => ∃ (a : Addr) (ns : List Int), σ[0]? = some (some (.ref a)) ∧ σ.length = m ∧ SqL K H a (ns.map V.int) ∧ LamX.Tabs N.tabs H ∧ ∀ H', Z.rt (.bl true) H'
/-- for dice in _law_rounds(script, n): body; return True -/
theorem law_loop {k : Nat} {f : Addr} {fd : FuncData} {ps : List Str} {i m n : Nat} {x y : Str} {e0 e1 : Expr} {body : List Stmt} {c : CK} {p p' p2 pos pos2 : Pos} {jj} {pb : Pos}
    (G : FnOk X.prog X.w X.K X.mg X.base (L2.CX X.prog X.w) k f fd ps (spRnd X.K N)) (hr : Room k X.A) (hgl : Gl X x) (hm : X.mg x = some (.ref f)) (hk : PySem.W.keepIn X.K (.ref f) = true) (hb : Binds X.K fd ps []) (hx : Passes (L2.CX X.prog X.w) X E)
    (h0 : PE X e0 (tVar 0)) (h1 : PE X e1 (tC (.int (Int.ofNat n)))) (hn : n ≤ 4)
    (hp : PassesOwn (model X.prog X.w) X.A X.env X.xe) (hc : X.calm = true) (hg : JG X N E (.Name y p') (gNm i)) (hbody : JK X N E m body c) (hgen : c ((List.replicate m none).set i (some (.ref 0))) ⟨1, [(0, .dice)]⟩ = true)
    (hs : ∀ x', foldedSetIterable (.Call (.Name x p) [e0, e1] [] p2) X.env x' = pure x' := by intro _; rfl)
    (hdb : (x == ("__debug__" : Str)) = false := by decide) (hs1 : starEach (e0 :: [e1]) X.env = (false, eval e0 X.env) :: starEach [e1] X.env := by rfl) (hs2 : starEach (e1 :: []) X.env = (false, eval e1 X.env) :: starEach [] X.env := by rfl)
    (hpl : (backTo p2 (starEach [e1] X.env)).any (·.1) = false := by rfl) :
    PSs X [.For (.Name y p') (.Call (.Name x p) [e0, e1] [] p2) body [] pos, .Return (some (.Constant (.bool true) jj pb)) pos2] (tLaw X.K N m) := by
  refine PSs.imp (pss_cons (ps_for hp hc (pi_seq (pe_call G hr hgl hm hk hb .nil hx (pa_cons h0 (pa_cons h1 pa_nil hs2) hs1) hdb hs1 hpl)) hg hbody hs) (pss_one (ps_ret pe_bl))) fun Z σ H q => ?_
  obtain ⟨a, ns, e1, em, e2, e3, e4⟩ := q
  refine ⟨.ref a, e1, ?_⟩
  refine ⟨a, ns, n, rfl, hn, e2, e3, fun W1 r l v x1 o1 hr hd rv => ?_⟩
  have ev := relRef rv
  subst ev
  obtain ⟨vs, g1, g2, g3⟩ := o1.cell r _ hr
  refine .inl ⟨_, rfl, ⟨vs, SqL.of g1⟩, ?_⟩
  have fz : FzOk W1 ⟨l, some (r, l)⟩ := fun r' l' e => by cases e; exact hr
  obtain ⟨xf, of⟩ := Its.froze o1 fz
  have gq : (frzAt r l W1.η).get r = some (.frz l) := by
    unfold frzAt
    rw [Hd.get_set, if_pos rfl, hr]; rfl
  have wk : WalkD X.K N (Its.w ⟨l, some (r, l)⟩ W1) l (Itl X.K (W1.μ r)) := walkD_list (fun W1 x => x.fz r l _ gq g1) (g2.mono o1 xf)
  refine ⟨fun i m' σ2 H2 => m' = l.length - i ∧ i ≤ l.length ∧ σ2.length = m ∧ ∃ W2, W2.H = H2 ∧ Ext (Its.w ⟨l, some (r, l)⟩ W1) W2 ∧ W2.Ok X.K N.toNames ∧ dicesL (l.drop i) W2.η = true,
    ⟨l.length, by omega, Nat.zero_le _, em, Its.w ⟨l, some (r, l)⟩ W1, rfl, Ext.refl _, of, hd⟩, ?_⟩
  rintro i' m' σ2 H2 ⟨rfl, hi, hσ, W2, rfl, x2, o2, h2⟩
  by_cases hlt : i' < l.length
  · refine .inr ⟨wk.go W2 i' (x2.sty of) o2 hlt, fun σ3 H3 => σ3.length = m ∧ ∃ W3, W3.H = H3 ∧ Ext (Its.w ⟨l, some (r, l)⟩ W1) W3 ∧ W3.Ok X.K N.toNames ∧ dicesL (l.drop (i' + 1)) W3.η = true, fun σ3 H3 p3 => ⟨l.length - (i' + 1), by omega, rfl, hlt, p3⟩, fun yv H3 hy => ?_⟩
    obtain ⟨W3, d, e3', x3, o3, eH, eη, r3⟩ := wk.yld W2 i' yv H3 (x2.sty of) o2 hlt hy
    subst eH
    have ed : l.drop i' = d :: l.drop (i' + 1) := by
      rw [List.drop_eq_getElem_cons hlt]
      have : l[i'] = d := by
        have := List.getElem?_eq_getElem hlt
        rw [this] at e3'; exact Option.some.inj e3'
      rw [this]
    rw [ed, ← eη] at h2
    obtain ⟨g, rfl, hgd, h2⟩ := dicesL_cons h2
    have x03 := x2.trans of o2 x3
    have o' : Wl.Ok X.K N.toNames ⟨fun _ => W3.μ g, ⟨1, [(0, .dice)]⟩, W3.H⟩ := by
      have one : ∀ q (cc : Cell), (Hd.mk 1 [(0, .dice)]).get q = some cc → q = 0 ∧ cc = .dice := fun q cc e => by
        unfold Hd.get look at e
        cases ez : Nat.beq 0 q with
        | true => simp only [ez] at e; cases e; exact ⟨(Nat.eq_of_beq_eq_true ez).symm, rfl⟩
        | false => simp only [ez] at e; cases e
      refine ⟨fun q cc e => ?_, fun q cc e => ?_, fun q s cc d e1 e2 e => ?_, o3.tab⟩
      · rw [(one q cc e).1]; exact Nat.zero_lt_one
      · obtain ⟨rfl, rfl⟩ := one q cc e
        obtain ⟨a1, a2, a3, h⟩ := o3.cell g _ hgd
        exact ⟨a1, a2, a3, h⟩
      · rw [(one q cc e1).1, (one s d e2).1]
    have rv' : RelD ⟨fun _ => W3.μ g, ⟨1, [(0, .dice)]⟩, W3.H⟩ (.ref 0) yv := by
      have e9 := relRef r3
      rw [RelD]; exact ⟨Nat.zero_lt_one, e9⟩
    refine ⟨⟨fun _ => W3.μ g, ⟨1, [(0, .dice)]⟩, W3.H⟩, .ref 0, List.replicate m none, c, fun _ _ => false, rfl, o', rv', RelS.blank hσ, hgen, fun W4 σd4 σ4 x4 o4 s4 h4 => ?_, fun _ _ _ _ _ _ _ e => by cases e⟩
    have nxt : ∀ W5 σd5 σ5, Ext ⟨fun _ => W3.μ g, ⟨1, [(0, .dice)]⟩, W3.H⟩ W5 → W5.Ok X.K N.toNames → RelS W5 σd5 σ5 → Nat.beq σd5.length m = true → (σ5.length = m ∧ ∃ W3, W3.H = W5.H ∧ Ext (Its.w ⟨l, some (r, l)⟩ W1) W3 ∧ W3.Ok X.K N.toNames ∧ dicesL (l.drop (i' + 1)) W3.η = true) := fun W5 σd5 σ5 x5 o5 s5 hl5 => by
      obtain ⟨xa, oa⟩ := o3.aside hgd x5 o5
      exact ⟨s5.len.symm.trans (Nat.eq_of_beq_eq_true hl5), ⟨W3.μ, W3.η.del g, W5.H⟩, rfl, x03.trans of o3 xa, oa, h2⟩
    exact ⟨_, W4, σd4, o', Nat.le_refl 1, x4, rfl, o4, s4, h4, ⟨nxt, (fun _ _ _ _ _ _ e => by cases e), (fun _ _ _ _ _ _ e => by cases e), nxt, (fun _ _ _ _ _ _ _ e => by cases e)⟩⟩
  · have e : i' = l.length := by omega
    subst e
    exact .inl ⟨wk.stop W2 (x2.sty of) o2, e4 _⟩
end
end DL

/-! the rounds -/
namespace DL
open PySem PySem.Spec L2
/-- what is wanted of the rounds' end -/
def kR : KS := ⟨fun _ _ => false, fun d η => match d with
  | .ref r => match η.get r with
    | some (.lst l) => dicesL l (frzAt r l η)
    | _ => false
  | _ => false, fun _ _ => false, fun _ _ => false, fun _ _ => false⟩
def rndσ (m : Nat) : SD := none :: none :: some (.ref 0) :: List.replicate (m - 3) none
def RndT (m : Nat) (c : CS) : Prop := ∀ l : List Int, l.length ≤ 4 → c (rndσ m) ⟨1, [(0, .lst (l.map D.int))]⟩ kR = true
theorem cut_ints (ns : List Int) (m : Nat) : ∃ l : List Int, cutV (ns.map V.int) none (some (Int.ofNat m)) = l.map V.int ∧ l.length ≤ m := by
  unfold cutV
  rw [← List.map_drop, ← List.map_take]
  refine ⟨_, rfl, ?_⟩
  rw [List.length_take]
  have h1 : HT.sIx (ns.map V.int).length (ns.map V.int).length (some (Int.ofNat m)) = min m (ns.map V.int).length := HT.sIx_nat _ _ m
  rw [h1]
  omega
def tRnd (K : PySem.W.Frag) (N : Nm) (n : Nat) : TS := fun Z σ H => ∃ (a : Addr) (ns : List Int) (m : Nat) (t : St), σ = some (.ref a) :: some (.int (Int.ofNat m)) :: none :: t ∧ t.length = n - 3 ∧ m ≤ 4 ∧ SqL K H a (ns.map V.int) ∧ LamX.Tabs N.tabs H ∧ RndQ K N H Z.rt
section
variable {X : Cx} {N : Nm} {E : XK}
theorem rnd_body {n : Nat} {y : Str} {e0 e1 : Expr} {rest : List Stmt} {c : CS} {py p2 p3 p4 : Pos} (hN : X.N.Nodup) (hi : X.N[2]? = some y) (hl : L2.Loc X.env.scope y) (h0 : PE X e0 (tVar 0)) (h1 : PE X e1 (tVar 1)) (hr : JB X N E rest c) (hT : RndT n c)
    (hsw : swapsWith (.Subscript e0 (.Slice none (some e1) none p2) p3) (some (.Name y py)) p4.line X.env = pure false := by rfl) (hf : X.fn y = true ∨ X.env.scope.names.lookup y = some .local := by first | exact .inr rfl | assumption) :
    PSs X (.Assign [.Name y py] (.Subscript e0 (.Slice none (some e1) none p2) p3) p4 :: rest) (tRnd X.K N n) := by
  refine PSs.imp (pss_cons (ps_set hN hi hl (pe_slice sl_list h0 po_none (po_some h1)) hsw hf) hr) fun Z σ H q => ?_
  obtain ⟨a, ns, m, t, rfl, ht, hm, hS, hTb, hQ⟩ := q
  obtain ⟨l, el, ll⟩ := cut_ints ns m
  refine ⟨.ref a, rfl, .int (Int.ofNat m), rfl, Int.ofNat m, rfl, a, ns.map V.int, rfl, hS, fun p hp => ?_⟩
  rw [el]
  have o0 : Wl.Ok X.K N.toNames ⟨fun _ => 0, ⟨0, []⟩, H⟩ := ⟨(fun _ _ e => nomatch e), (fun _ _ e => nomatch e), (fun _ _ _ _ e => nomatch e), hTb⟩
  have hz : (l.map D.int).length ≤ sizeLine := by rw [List.length_map]; exact Nat.le_trans ll (Nat.le_trans hm (by decide))
  refine new_lst (Q := fun v H' => tS X.K N E c Z (some (.ref a) :: some (.int (Int.ofNat m)) :: some v :: t) H') o0 (fun W1 v x1 o1 e1 r1 => ?_) hp (ints_rel (ns := l)) hz
  refine ⟨W1, rndσ n, kR, rfl, o1, ?_, ?_, ⟨(fun _ _ _ _ _ _ e => by cases e), fun W2 d v2 x2 o2 r2 e2 => ?_, (fun _ _ _ _ _ _ e => by cases e), (fun _ _ _ _ _ _ e => by cases e), (fun _ _ _ _ _ _ _ e => by cases e)⟩⟩
  · refine ⟨by simp [rndσ, ht], fun i d e => ?_⟩
    match i with
    | 0 => simp [rndσ] at e
    | 1 => simp [rndσ] at e
    | 2 =>
      simp only [rndσ, List.getElem?_cons_succ, List.getElem?_cons_zero, Option.some.injEq] at e
      subst e
      exact ⟨v, rfl, r1⟩
    | i + 3 =>
      simp only [rndσ, List.getElem?_cons_succ] at e
      have := List.mem_of_getElem? e
      rw [List.mem_replicate] at this
      cases this.2
  · rw [e1]; exact hT l (Nat.le_trans ll hm)
  · unfold kR at e2
    dsimp only at e2
    cases d with
    | ref r =>
      dsimp only at e2
      cases eg : W2.η.get r with
      | none => rw [eg] at e2; cases e2
      | some cc =>
        cases cc with
        | lst l2 => rw [eg] at e2; exact hQ W2 r l2 v2 (x1.trans o0 o1 x2) o2 eg e2 r2
        | _ => rw [eg] at e2; cases e2
    | _ => cases e2
end
end DL

/-! the dice's own defs -/
namespace DL
open PySem PySem.Spec L2
def b_roll : CS := (sSeq (sIf (ctOr (cTst (cOp fEq (cOp fIx (cVar 0) (cC (.int 2))) (cC (.int 2)))) (ctAnd (cTst (cOp fEq (cOp fIx (cVar 0) (cC (.int 2))) (cC (.int 1)))) (cTst (cOp (fB2 igt) (cOp fIx (cVar 0) (cC (.int 0))) (cC (.int 0)))))) (sSeq (sAsg (cOp fMod (cFn (f1 gInt) (cCons (cOp fIx (cVar 0) (cC (.int 0))) cNil)) (cVar 1)) (gNm 2)) (sSeq (sAsg (cOp fDiv (cOp fIx (cVar 0) (cC (.int 0))) (cVar 1)) (gSb (cVar 0) (cC (.int 0)))) (sRet (cVar 2)))) sNil) (sSeq (sAsg (cC (.int 0)) (gSb (cVar 0) (cC (.int 2)))) (sSeq (sAsg (cOp fMod (cFn (f1 gInt) (cCons (cOp fAdd (cOp fAdd (cOp fMul (cOp fIx (cVar 0) (cC (.int 0))) (cC (.int 48271))) (cOp fMul (cOp fIx (cVar 0) (cC (.int 1))) (cC (.int 69621)))) (cC (.int 11))) cNil)) (cC (.int 2147483647))) (gSb (cVar 0) (cC (.int 0)))) (sSeq (sAsg (cOp fAdd (cOp fIx (cVar 0) (cC (.int 1))) (cC (.int 1))) (gSb (cVar 0) (cC (.int 1)))) (sRet (cOp fMod (cFn (f1 gInt) (cCons (cOp fAdd (cOp fDiv (cOp fIx (cVar 0) (cC (.int 0))) (cC (.int 7))) (cOp fIx (cVar 0) (cC (.int 0)))) cNil)) (cVar 1)))))))
def b_dice : CS := (sSeq (sIf (cTst (cChain (fB2 ilt) (fB2 ilt) (cOp fSub (cC (.int 0)) (cC (.int 10))) (cVar 0) (cC (.int 10)))) (sRet (cLst (cCons (cFn (f1 gAbs) (cCons (cVar 0) cNil)) (cCons (cC (.int 0)) (cCons (cC (.int 2)) cNil))))) sNil) (sRet (cLst (cCons (cVar 0) (cCons (cOp fAdd (cC (.int 1)) (cOp fMod (cFn (f1 gInt) (cCons (cVar 0) cNil)) (cC (.int 1009)))) (cCons (cFn (f1 gInt) (cCons (cOp (fB2 ige) (cVar 0) (cOp fPow (cC (.int 10)) (cC (.int 18)))) cNil)) cNil))))))
def b_rnd : CS := (sSeq (sIf (cTst (cOp fEq (cVar 2) (cLst cNil))) (sAsg (cLst (cCons (cC (.int 0)) cNil)) (gNm 2)) sNil) (sRet (cLc (ciSeq (cVar 2)) (gNm 3) ctYes (cCall fDice (cCons (cVar 3) cNil)) [3])))
theorem rnd_ok : RndT 4 b_rnd := by
  intro l hl
  match l, hl with
  | [], _ => rfl
  | [a], _ => rfl
  | [a, b], _ => rfl
  | [a, b, c], _ => rfl
  | [a, b, c, d], _ => rfl
  | _ :: _ :: _ :: _ :: _ :: _, h => exact absurd h (by simp)
theorem tst_bl {b : Bool} {σ : SD} {η : Hd} {k : Bool → Hd → Bool} {kx : KX} {c : CE} (h : ∀ kv kx, c σ η kv kx = kv (.bl b) η) : cTst c σ η k kx = k b η := by
  unfold cTst
  rw [h]
theorem dice_ok : DiceOk (cDef 1 1 b_dice) := by
  intro c η kv kx h
  show b_dice [some (.int c)] η ⟨fun _ η1 => kv .non η1, kv, fun _ _ => false, fun _ _ => false, kx⟩ = true
  have pw : ∀ η' : Hd, fPow (.int 10) (.int 18) η' = some (.int (ipow 10 18), η') := fun _ => rfl
  have low : ∀ b : Bool, ige c (ipow 10 18) = b → b_dice [some (.int c)] η ⟨fun _ η1 => kv .non η1, kv, fun _ _ => false, fun _ _ => false, kx⟩ = true := fun b eb => by
    cases e1 : ilt (isub 0 10) c with
    | true =>
      cases e2 : ilt c 10 with
      | true =>
        simp [b_dice, sSeq, sIf, cTst, cChain, cOp, cC, cVar, fSub, fI2, fB2, e1, e2, sRet, cLst, cCons, cNil, cFn, f1, gAbs, line]
        exact h _ _ _
      | false =>
        cases b <;>
        · simp [b_dice, sSeq, sIf, sNil, cTst, cChain, cOp, cC, cVar, fSub, fI2, fB2, e1, e2, sRet, cLst, cCons, cNil, cFn, f1, gInt, line, fAdd, fOr, fMod, fI2c, modOk, pw, eb]
          exact h _ _ _
    | false =>
      cases b <;>
      · simp [b_dice, sSeq, sIf, sNil, cTst, cChain, cOp, cC, cVar, fSub, fI2, fB2, e1, sRet, cLst, cCons, cNil, cFn, f1, gInt, line, fAdd, fOr, fMod, fI2c, modOk, pw, eb]
        exact h _ _ _
  exact low _ rfl
theorem roll_ok : RollOk (cDef 2 3 b_roll) := by
  intro g m p q r η kv kx h0 h1 hg hk
  obtain ⟨n, rfl⟩ : ∃ n : Nat, m = Int.ofNat (n + 1) := ⟨m.toNat - 1, by show m = ((m.toNat - 1 + 1 : Nat) : Int); omega⟩
  have hn : n ≤ 1000000000 := by have : ((n + 1 : Nat) : Int) ≤ 1000000001 := h1; omega
  have gs : ∀ (η' : Hd) (l l' : List D), η'.get g = some (.lst l) → (η'.set g (.lst l')).get g = some (.lst l') := fun η' l l' e => by rw [Hd.get_set, if_pos rfl, e]; rfl
  show b_roll [some (.ref g), some (.int (Int.ofNat (n + 1))), none] η ⟨fun _ η1 => kv .non η1, kv, fun _ _ => false, fun _ _ => false, kx⟩ = true
  have ix : ∀ (η' : Hd) (a b c : Int), η'.get g = some (.lst (l3 a b c)) → fIx (.ref g) (.int 0) η' = some (.int a, η') ∧ fIx (.ref g) (.int 1) η' = some (.int b, η') ∧ fIx (.ref g) (.int 2) η' = some (.int c, η') := fun η' a b c e => by
    refine ⟨?_, ?_, ?_⟩ <;> (simp only [fIx, e]; rfl)
  have st : ∀ (η' : Hd) (a b c v : Int), η'.get g = some (.lst (l3 a b c)) → fSet (.ref g) (.int 0) (.int v) η' = some (η'.set g (.lst (l3 v b c))) ∧ fSet (.ref g) (.int 1) (.int v) η' = some (η'.set g (.lst (l3 a v c))) ∧ fSet (.ref g) (.int 2) (.int v) η' = some (η'.set g (.lst (l3 a b v))) := fun η' a b c v e => by
    refine ⟨?_, ?_, ?_⟩ <;> (simp only [fSet, e]; rfl)
  have eqi : ∀ (a b : Int) (η' : Hd), fEq (.int a) (.int b) η' = some (.bl (ieq a b), η') := fun a b η' => rfl
  have dv : divOk 0 (Int.ofNat (n + 1)) = true := by
    show Nat.ble n 1000000000 = true
    exact Nat.ble_eq_true_of_le hn
  have dv' : ∀ a, divOk a (Int.ofNat (n + 1)) = true := fun a => dv
  have md' : ∀ a, modOk a (Int.ofNat (n + 1)) = true := fun a => rfl
  have lo : ∀ a : Int, 0 ≤ imod a (Int.ofNat (n + 1)) ∧ imod a (Int.ofNat (n + 1)) < Int.ofNat (n + 1) := fun a => ⟨Int.emod_nonneg _ (by show ((n + 1 : Nat) : Int) ≠ 0; omega), Int.emod_lt_of_pos _ (by show (0 : Int) < ((n + 1 : Nat) : Int); omega)⟩
  have i0 := (ix η p q r hg).1
  have i2 := (ix η p q r hg).2.2
  have mul : ∀ (a : Int) (η' : Hd), fMul (.int a) (.int 48271) η' = some (.int (imul a 48271), η') ∧ fMul (.int a) (.int 69621) η' = some (.int (imul a 69621), η') := fun a η' => by
    have : mulOk a 48271 = true ∧ mulOk a 69621 = true := by unfold mulOk; exact ⟨by rw [Bool.or_eq_true]; exact .inr rfl, by rw [Bool.or_eq_true]; exact .inr rfl⟩
    simp [fMul, fOr, fI2c, this.1, this.2]
  have m1 := fun a η' => (mul a η').1
  have m2 := fun a η' => (mul a η').2
  have md1 : ∀ (a : Int) (η' : Hd), fMod (.int a) (.int 2147483647) η' = some (.int (imod a 2147483647), η') := fun _ _ => rfl
  have md2 : ∀ (a : Int) (η' : Hd), fMod (.int a) (.int (Int.ofNat (n + 1))) η' = some (.int (imod a (Int.ofNat (n + 1))), η') := fun _ _ => rfl
  have dv1 : ∀ (a : Int) (η' : Hd), fDiv (.int a) (.int (Int.ofNat (n + 1))) η' = some (.int (idiv a (Int.ofNat (n + 1))), η') := fun a η' => by simp only [fDiv, fI2c, dv']
  have dv7 : ∀ (a : Int) (η' : Hd), fDiv (.int a) (.int 7) η' = some (.int (idiv a 7), η') := fun _ _ => rfl
  have ad : ∀ (a b : Int) (η' : Hd), fAdd (.int a) (.int b) η' = some (.int (iadd a b), η') := fun _ _ _ => rfl
  have gt : ∀ (a b : Int) (η' : Hd), fB2 igt (.int a) (.int b) η' = some (.bl (igt a b), η') := fun _ _ _ => rfl
  have s0 := fun v => (st η p q r v hg).1
  have s2 := (st η p q r 0 hg).2.2
  have hS := fun a b c => gs η _ (l3 a b c) hg
  have j0 := fun a b c => (ix _ a b c (hS a b c)).1
  have j1 := fun a b c => (ix _ a b c (hS a b c)).2.1
  have t0 : ∀ a b c v, fSet (.ref g) (.int 0) (.int v) (η.set g (.lst (l3 a b c))) = some (η.set g (.lst (l3 v b c))) := fun a b c v => by rw [(st _ a b c v (hS a b c)).1, Hd.set_set]
  have t1 : ∀ a b c v, fSet (.ref g) (.int 1) (.int v) (η.set g (.lst (l3 a b c))) = some (η.set g (.lst (l3 a v c))) := fun a b c v => by rw [(st _ a b c v (hS a b c)).2.1, Hd.set_set]
  have fin : ∀ a : Int, ∀ l : List D, (∃ x y z, l = l3 x y z) → kv (.int (imod a (Int.ofNat (n + 1)))) (η.set g (.lst l)) = true := fun a l ⟨x, y, z, e⟩ => by
    rw [e]; exact hk _ _ _ _ (lo a).1 (lo a).2
  have three : ∀ (x y z : Int), ∃ x' y' z', l3 x y z = l3 x' y' z' := fun x y z => ⟨x, y, z, rfl⟩
  generalize hM : Int.ofNat (n + 1) = M at *
  have long : (match ieq r 2 with
      | true => false
      | false => match ieq r 1 with
        | true => !(igt p 0)
        | false => true) = true → b_roll [some (.ref g), some (.int M), none] η ⟨fun _ η1 => kv .non η1, kv, fun _ _ => false, fun _ _ => false, kx⟩ = true := fun hh => by
    cases e2 : ieq r 2 with
    | true => rw [e2] at hh; cases hh
    | false =>
      rw [e2] at hh
      cases e1 : ieq r 1 with
      | false =>
        simp [b_roll, sSeq, sIf, sNil, ctOr, ctAnd, cTst, cOp, cC, cVar, sRet, sAsg, gNm, gSb, cCons, cNil, cFn, f1, gInt, i0, i2, eqi, e1, e2, s2, j0, j1, t0, t1, m1, m2, ad, md1, dv7, md2, fin, three]
      | true =>
        rw [e1] at hh
        have e0 : igt p 0 = false := by simpa using hh
        simp [b_roll, sSeq, sIf, sNil, ctOr, ctAnd, cTst, cOp, cC, cVar, sRet, sAsg, gNm, gSb, cCons, cNil, cFn, f1, gInt, i0, i2, eqi, e0, e1, e2, gt, s2, j0, j1, t0, t1, m1, m2, ad, md1, dv7, md2, fin, three]
  cases e2 : ieq r 2 with
  | true => simp [b_roll, sSeq, sIf, sNil, ctOr, ctAnd, cTst, cOp, cC, cVar, sRet, sAsg, gNm, gSb, cCons, cNil, cFn, f1, gInt, i0, i2, eqi, e2, md2, dv1, s0, fin, three]
  | false =>
    cases e1 : ieq r 1 with
    | false => exact long (by rw [e2, e1])
    | true =>
      cases e0 : igt p 0 with
      | false => exact long (by rw [e2, e1, e0]; rfl)
      | true => simp [b_roll, sSeq, sIf, sNil, ctOr, ctAnd, cTst, cOp, cC, cVar, sRet, sAsg, gNm, gSb, cCons, cNil, cFn, f1, gInt, i0, i2, eqi, e0, e1, e2, gt, md2, dv1, s0, fin, three]
end DL

/-! the ends of a law -/
namespace DL
open PySem PySem.Spec L2
theorem hu65 {A : Around} {k : Nat} (hr : Room k A) : A.units + 65 < cLine := by have := hr.un; omega
section
variable {X : Cx} {N : Nm} {E : XK}
theorem je_tell {l : List (Value × Str)} {hm : Nat → Option Str} {x a : Str} {g c P : Addr} {k : Nat} {st : Stmt} {fd : FuncData} {Ng : List Str} {params : Arguments} {body : Expr} {scope : Scope} {cb : CE} {p lpos pos : Pos}
    (F : Fun X.K x x st g fd) (hg : Gl X x) (hmg : X.mg x = some (.ref g)) (hb : L2.Binds X.K fd [a] []) (Sg : FnScope Ng [a] (defScope st)) (hNg : Ng[0]? = some a) (hva : Vis (defScope st) a)
    (hG : ∀ cdv, LamX.GivesTo X Ng x (defScope st) g cdv (defBody st) a (X.env.qual ++ "<lambda>") (TTm X.K l)) (hH : HmOk X.K N l hm)
    (TB : LamX.TabB X.base X.mg c P) (hcode : X.env.code = .ref c) (hmT : N.tabs = [(P, X.env.qual ++ "<lambda>")]) (hr : Room (k + 2) X.A) (L : LamX.LamS X.env.scope scope) (hdef : defaultsOf params X.env = ([], []))
    (hbind : ∀ (q : Str) (cl : List (Str × Addr)) (pm cv ctv : Value), bindArgs (PySem.W.kla_fn "<lambda>" q params body scope cl pm cv ctv) ⟨[], []⟩ = pure [])
    (hbody : ∀ (A : Around) (outer : List Env) (s : Shared) (H : Hp) (E : XK) (f c' : Addr), Room k (A.deeper (LamX.lamEnv X scope s.heap.objs.size f c')) → JE (LamX.lamCx X A outer s H E scope f c') N E body cb)
    (hdb : (x == ("__debug__" : Str)) = false := by decide) (hd : (a == ("__debug__" : Str)) = false := by decide) (hcd : (a == ("__classdict__" : Str)) = false := by decide) :
    JE X N E (.Call (.Name x p) [.Lambda params body scope lpos] [] pos) (cTold hm cb) := by
  obtain ⟨oc, od, kV, doc, pm, an, cdv, ct, osl, rfl, lk, hco⟩ := F.ex
  exact je_told hg hmg F.kp lk hco hb Sg hNg hva (hG cdv) hH TB hcode (by rw [hmT]; exact List.mem_singleton.mpr rfl) (fun p hp _ => by rw [hmT] at hp; rw [List.mem_singleton.mp hp]) hr L hdef hbind hbody hdb hd hcd
end
def spLaw (K : PySem.W.Frag) (N : Nm) : Sp := fun vs H Q _ => ∃ (a : Addr) (ns : List Int), vs = [.ref a] ∧ SqL K H a (ns.map V.int) ∧ LamX.Tabs N.tabs H ∧ ∀ H', Q (.bl true) H'
theorem tLaw_of {K : PySem.W.Frag} {N : Nm} {Ns : List Str} {vs : List V} {H : Hp} {Q : VK} {E : XK} {nx : St → Hp → Prop} (h : spLaw K N vs H Q E) (hl : 1 ≤ Ns.length) : tLaw K N Ns.length { nx := nx, rt := Q } (L2.start Ns vs) H := by
  obtain ⟨a, ns, rfl, h1, h2, h3⟩ := h
  exact ⟨a, ns, rfl, by simp [L2.start]; omega, h1, h2, h3⟩
theorem tRnd_of {K : PySem.W.Frag} {N : Nm} {Ns : List Str} {vs : List V} {H : Hp} {Q : VK} {E : XK} {nx : St → Hp → Prop} (h : spRnd K N vs H Q E) (hl : 3 ≤ Ns.length) : tRnd K N Ns.length { nx := nx, rt := Q } (L2.start Ns vs) H := by
  obtain ⟨a, ns, m, rfl, h1, h2, h3, h4⟩ := h
  match Ns, hl with
  | _ :: _ :: _ :: t, _ => exact ⟨a, ns, m, List.replicate t.length none, by simp [L2.start, List.replicate_succ], by simp, h1, h2, h3, h4⟩
end DL


set_option Elab.async false
set_option linter.all false
set_option maxRecDepth 100000
set_option maxHeartbeats 4000000
namespace L02
open PySem PySem.Spec L2 DL
def topS (i : Nat) : Stmt := PySem.Challenge.pw_grouphall_k02_turns_in_order.main.body.getD i (.Pass ⟨0, 0, 0, 0⟩)
abbrev s_all_turns : Stmt := topS 7
theorem sc_all_turns : FnScope ["many", "rows", "k", "row", "place"] ["many"] (defScope s_all_turns) := ⟨rfl, rfl, rfl, by decide +kernel, rfl, by decide +kernel, by decide +kernel⟩
abbrev s_rank : Stmt := topS 8
theorem sc_rank : FnScope ["one", "found", "left", "place", "k"] ["one"] (defScope s_rank) := ⟨rfl, rfl, rfl, by decide +kernel, rfl, by decide +kernel, by decide +kernel⟩
abbrev s_of_rank : Stmt := topS 9
theorem sc_of_rank : FnScope ["number", "many", "digits", "size", "found", "left", "digit"] ["number", "many"] (defScope s_of_rank) := ⟨rfl, rfl, rfl, by decide +kernel, rfl, by decide +kernel, by decide +kernel⟩
abbrev s__law_dice : Stmt := topS 11
theorem sc__law_dice : FnScope ["cell"] ["cell"] (defScope s__law_dice) := ⟨rfl, rfl, rfl, by decide +kernel, rfl, by decide +kernel, by decide +kernel⟩
abbrev s__law_roll : Stmt := topS 12
theorem sc__law_roll : FnScope ["dice", "many", "found"] ["dice", "many"] (defScope s__law_roll) := ⟨rfl, rfl, rfl, by decide +kernel, rfl, by decide +kernel, by decide +kernel⟩
abbrev s__law_rounds : Stmt := topS 13
theorem sc__law_rounds : FnScope ["script", "most", "cells", "cell"] ["script", "most"] (defScope s__law_rounds) := ⟨rfl, rfl, rfl, by decide +kernel, rfl, by decide +kernel, by decide +kernel⟩
abbrev s__law_told : Stmt := topS 14
theorem sc__law_told : FnScope ["what"] ["what"] (defScope s__law_told) := ⟨rfl, rfl, rfl, by decide +kernel, rfl, by decide +kernel, by decide +kernel⟩
abbrev s__law_turn : Stmt := topS 15
theorem sc__law_turn : FnScope ["dice", "many", "row", "found"] ["dice", "many"] (defScope s__law_turn) := ⟨rfl, rfl, rfl, by decide +kernel, rfl, by decide +kernel, by decide +kernel⟩
abbrev s_law : Stmt := topS 16
theorem sc_law : FnScope ["script", "dice", "one", "rows", "k", "number", "many", "whole"] ["script"] (defScope s_law) := ⟨rfl, rfl, rfl, by decide +kernel, rfl, by decide +kernel, by decide +kernel⟩
structure Hy (K : PySem.W.Frag) (mg : Str → Option Value) where
  f_all_turns : Addr
  fd_all_turns : FuncData
  F_all_turns : Fun K "all_turns" "all_turns" s_all_turns f_all_turns fd_all_turns
  m_all_turns : mg "all_turns" = some (.ref f_all_turns)
  b_all_turns : Binds K fd_all_turns ["many"] []
  f_rank : Addr
  fd_rank : FuncData
  F_rank : Fun K "rank" "rank" s_rank f_rank fd_rank
  m_rank : mg "rank" = some (.ref f_rank)
  b_rank : Binds K fd_rank ["one"] []
  f_of_rank : Addr
  fd_of_rank : FuncData
  F_of_rank : Fun K "of_rank" "of_rank" s_of_rank f_of_rank fd_of_rank
  m_of_rank : mg "of_rank" = some (.ref f_of_rank)
  b_of_rank : Binds K fd_of_rank ["number", "many"] []
  f__law_dice : Addr
  fd__law_dice : FuncData
  F__law_dice : Fun K "_law_dice" "_law_dice" s__law_dice f__law_dice fd__law_dice
  m__law_dice : mg "_law_dice" = some (.ref f__law_dice)
  b__law_dice : Binds K fd__law_dice ["cell"] []
  f__law_roll : Addr
  fd__law_roll : FuncData
  F__law_roll : Fun K "_law_roll" "_law_roll" s__law_roll f__law_roll fd__law_roll
  m__law_roll : mg "_law_roll" = some (.ref f__law_roll)
  b__law_roll : Binds K fd__law_roll ["dice", "many"] []
  f__law_rounds : Addr
  fd__law_rounds : FuncData
  F__law_rounds : Fun K "_law_rounds" "_law_rounds" s__law_rounds f__law_rounds fd__law_rounds
  m__law_rounds : mg "_law_rounds" = some (.ref f__law_rounds)
  b__law_rounds : Binds K fd__law_rounds ["script", "most"] []
  f__law_told : Addr
  fd__law_told : FuncData
  F__law_told : Fun K "_law_told" "_law_told" s__law_told f__law_told fd__law_told
  m__law_told : mg "_law_told" = some (.ref f__law_told)
  b__law_told : Binds K fd__law_told ["what"] []
  f__law_turn : Addr
  fd__law_turn : FuncData
  F__law_turn : Fun K "_law_turn" "_law_turn" s__law_turn f__law_turn fd__law_turn
  m__law_turn : mg "_law_turn" = some (.ref f__law_turn)
  b__law_turn : Binds K fd__law_turn ["dice", "many"] []
  c_BadTable : Addr
  g_BadTable : mg "BadTable" = some (.ref c_BadTable)
  c_BadTurn : Addr
  g_BadTurn : mg "BadTurn" = some (.ref c_BadTurn)
  c_NoWay : Addr
  g_NoWay : mg "NoWay" = some (.ref c_NoWay)
  x_NoWay : PySem.W.excIn K c_NoWay [.type "ValueError", .type "Exception", .type "BaseException", .type "object"] "ValueError.__new__" = true
  k_NoWay : PySem.W.keepIn K (.ref c_NoWay) = true
  s_NoWay : PySem.W.subIn K (.ref c_NoWay) (.type "BaseException") = some true
  t_NoWay : PySem.W.typeIn K (.ref c_NoWay) = some (.type "type")
  c_TooLarge : Addr
  g_TooLarge : mg "TooLarge" = some (.ref c_TooLarge)
  x_TooLarge : PySem.W.excIn K c_TooLarge [.type "ValueError", .type "Exception", .type "BaseException", .type "object"] "ValueError.__new__" = true
  k_TooLarge : PySem.W.keepIn K (.ref c_TooLarge) = true
  s_TooLarge : PySem.W.subIn K (.ref c_TooLarge) (.type "BaseException") = some true
  t_TooLarge : PySem.W.typeIn K (.ref c_TooLarge) = some (.type "type")
  e_NoWay_BadTurn : PySem.W.exmOne K (.ref c_NoWay) (.ref c_BadTurn) = some false
  e_NoWay_BadTable : PySem.W.exmOne K (.ref c_NoWay) (.ref c_BadTable) = some false
  e_NoWay_NoWay : PySem.W.exmOne K (.ref c_NoWay) (.ref c_NoWay) = some true
  e_TooLarge_BadTurn : PySem.W.exmOne K (.ref c_TooLarge) (.ref c_BadTurn) = some false
  e_TooLarge_BadTable : PySem.W.exmOne K (.ref c_TooLarge) (.ref c_BadTable) = some false
  e_TooLarge_NoWay : PySem.W.exmOne K (.ref c_TooLarge) (.ref c_NoWay) = some false
  e_TooLarge_TooLarge : PySem.W.exmOne K (.ref c_TooLarge) (.ref c_TooLarge) = some true
  z_abs : mg "abs" = none
  z_int : mg "int" = none
  z_len : mg "len" = none
  z_list : mg "list" = none
  z_range : mg "range" = none
  z_reversed : mg "reversed" = none
  z_sorted : mg "sorted" = none
  z_tuple : mg "tuple" = none
  tc : Addr
  tP : Addr
section
variable {P : Program} {w : World} {K : PySem.W.Frag} {mg : Str → Option Value} {base : Heap}
def nm (hy : Hy K mg) : Nm := { fld := fun _ => "", cls := fun j => match j with | 2 => hy.c_BadTable | 1 => hy.c_BadTurn | 3 => hy.c_NoWay | 4 => hy.c_TooLarge | _ => 0, tabs := [(hy.tP, "law.<locals>.<lambda>")], xf := fun _ => "" }
def b_all_turns : CS := (sSeq (sIf (cTst (cOp (fB2 igt) (cVar 0) (cC (.int 7)))) (sRaise 4) sNil) (sSeq (sAsg (cLst (cCons (cTup cNil) cNil)) (gNm 1)) (sSeq (sFor (ciR1 (cCons (cVar 0) cNil)) (gNm 2) (sAsg (cLc2 (ciSeq (cVar 1)) (gNm 3) ctYes (ciR1 (cCons (cVar 0) cNil)) (gNm 4) (cTst (cOp fNotIn (cVar 4) (cVar 3))) (cOp fAdd (cVar 3) (cTup (cCons (cVar 4) cNil))) [3, 4] [4]) (gNm 1))) (sRet (cFn (f1 gTuple) (cCons (cVar 1) cNil))))))
theorem g0_all_turns (hy : Hy K mg) : JF P w K mg base 1 hy.f_all_turns hy.fd_all_turns ["many"] (nm hy) (cDef 1 5 b_all_turns) :=
   jf_def (k := 0) hy.F_all_turns sc_all_turns fun cdv A outer s H E hr => (jb_cons (js_if (jt_cmp opd_gt (je_var 0 (pv 0)) je_int (by rfl)) (jb_one (js_raise rfl (takes_of rfl rfl rfl rfl) (pmk_own PySem.F.excBase_ValueError hy.x_TooLarge hy.g_TooLarge hy.k_TooLarge (raises_own hy.s_TooLarge hy.t_TooLarge) (by rfl)) rfl)) jb_nil) (jb_cons (js_set (i := 1) sc_all_turns.nd rfl (by first | exact .inl rfl | exact .inr rfl) (je_lst (ja_cons (je_tup ja_nil) ja_nil))) (jb_cons (js_for (passes_of rfl) rfl (ji_range1 (by rfl) hy.z_range (ja_cons (je_var 0 (pv 0)) ja_nil)) (jg_name (pg_name (i := 2) sc_all_turns.nd rfl (by first | exact .inl rfl | exact .inr rfl))) (jb_one (by first | exact js_setLc2 (E' := E0) (own := [("row", 3), ("place", 4)]) (vs1 := [4]) (i := 1) rfl sc_all_turns.nd rfl rfl (sw_true rfl rfl rfl (by decide +kernel)) (ji_seq (je_var 1 (pv 1))) (blkOk_by (N := ["many", "rows", "k", "row", "place"]) (sc := defScope s_all_turns) (own := [("row", 3), ("place", 4)]) (by decide +kernel)) (by decide) (fun _ _ _ _ _ => (jgw_name (pg_name (i := 3) sc_all_turns.nd rfl (by first | exact .inl rfl | exact .inr rfl)))) (fun _ _ _ _ _ => jts_nil) (fun _ _ _ _ _ => (ji_range1 (by rfl) hy.z_range (ja_cons (je_var 0 (pv 0)) ja_nil))) (fun _ _ _ _ _ => (jgw_name (pg_name (i := 4) sc_all_turns.nd rfl (by first | exact .inl rfl | exact .inr rfl)))) (fun _ _ _ _ _ => (jts_one (jt_cmp (opd_notIn (hu65 hr)) (je_var 4 (pv 4)) (je_var 3 (pv 3)) (by rfl)))) (fun _ _ _ _ _ => (je_op opd_add (je_var 3 (pv 3)) (je_tup (ja_cons (je_var 4 (pv 4)) ja_nil)))) | exact js_set (i := 1) sc_all_turns.nd rfl (by first | exact .inl rfl | exact .inr rfl) (je_lc2 (E' := E0) (own := [("row", 3), ("place", 4)]) (vs1 := [4]) rfl sc_all_turns.nd (ji_seq (je_var 1 (pv 1))) (blkOk_by (N := ["many", "rows", "k", "row", "place"]) (sc := defScope s_all_turns) (own := [("row", 3), ("place", 4)]) (by decide +kernel)) (by decide) (fun _ _ _ _ _ => (jgw_name (pg_name (i := 3) sc_all_turns.nd rfl (by first | exact .inl rfl | exact .inr rfl)))) (fun _ _ _ _ _ => jts_nil) (fun _ _ _ _ _ => (ji_range1 (by rfl) hy.z_range (ja_cons (je_var 0 (pv 0)) ja_nil))) (fun _ _ _ _ _ => (jgw_name (pg_name (i := 4) sc_all_turns.nd rfl (by first | exact .inl rfl | exact .inr rfl)))) (fun _ _ _ _ _ => (jts_one (jt_cmp (opd_notIn (hu65 hr)) (je_var 4 (pv 4)) (je_var 3 (pv 3)) (by rfl)))) (fun _ _ _ _ _ => (je_op opd_add (je_var 3 (pv 3)) (je_tup (ja_cons (je_var 4 (pv 4)) ja_nil)))))))) (jb_one (js_ret (je_ty ty_tuple (by rfl) hy.z_tuple (by rfl) (ja_cons (je_var 1 (pv 1)) ja_nil)))))))
def T_all_turns : List (List D × Rs) := [([.int 1], .val (.tup [.tup [.int 0]])), ([.int 2], .val (.tup [.tup [.int 0, .int 1], .tup [.int 1, .int 0]])), ([.int 3], .val (.tup [.tup [.int 0, .int 1, .int 2], .tup [.int 0, .int 2, .int 1], .tup [.int 1, .int 0, .int 2], .tup [.int 1, .int 2, .int 0], .tup [.int 2, .int 0, .int 1], .tup [.int 2, .int 1, .int 0]])), ([.int 4], .val (.tup [.tup [.int 0, .int 1, .int 2, .int 3], .tup [.int 0, .int 1, .int 3, .int 2], .tup [.int 0, .int 2, .int 1, .int 3], .tup [.int 0, .int 2, .int 3, .int 1], .tup [.int 0, .int 3, .int 1, .int 2], .tup [.int 0, .int 3, .int 2, .int 1], .tup [.int 1, .int 0, .int 2, .int 3], .tup [.int 1, .int 0, .int 3, .int 2], .tup [.int 1, .int 2, .int 0, .int 3], .tup [.int 1, .int 2, .int 3, .int 0], .tup [.int 1, .int 3, .int 0, .int 2], .tup [.int 1, .int 3, .int 2, .int 0], .tup [.int 2, .int 0, .int 1, .int 3], .tup [.int 2, .int 0, .int 3, .int 1], .tup [.int 2, .int 1, .int 0, .int 3], .tup [.int 2, .int 1, .int 3, .int 0], .tup [.int 2, .int 3, .int 0, .int 1], .tup [.int 2, .int 3, .int 1, .int 0], .tup [.int 3, .int 0, .int 1, .int 2], .tup [.int 3, .int 0, .int 2, .int 1], .tup [.int 3, .int 1, .int 0, .int 2], .tup [.int 3, .int 1, .int 2, .int 0], .tup [.int 3, .int 2, .int 0, .int 1], .tup [.int 3, .int 2, .int 1, .int 0]])), ([.int 5], .val (.tup [.tup [.int 0, .int 1, .int 2, .int 3, .int 4], .tup [.int 0, .int 1, .int 2, .int 4, .int 3], .tup [.int 0, .int 1, .int 3, .int 2, .int 4], .tup [.int 0, .int 1, .int 3, .int 4, .int 2], .tup [.int 0, .int 1, .int 4, .int 2, .int 3], .tup [.int 0, .int 1, .int 4, .int 3, .int 2], .tup [.int 0, .int 2, .int 1, .int 3, .int 4], .tup [.int 0, .int 2, .int 1, .int 4, .int 3], .tup [.int 0, .int 2, .int 3, .int 1, .int 4], .tup [.int 0, .int 2, .int 3, .int 4, .int 1], .tup [.int 0, .int 2, .int 4, .int 1, .int 3], .tup [.int 0, .int 2, .int 4, .int 3, .int 1], .tup [.int 0, .int 3, .int 1, .int 2, .int 4], .tup [.int 0, .int 3, .int 1, .int 4, .int 2], .tup [.int 0, .int 3, .int 2, .int 1, .int 4], .tup [.int 0, .int 3, .int 2, .int 4, .int 1], .tup [.int 0, .int 3, .int 4, .int 1, .int 2], .tup [.int 0, .int 3, .int 4, .int 2, .int 1], .tup [.int 0, .int 4, .int 1, .int 2, .int 3], .tup [.int 0, .int 4, .int 1, .int 3, .int 2], .tup [.int 0, .int 4, .int 2, .int 1, .int 3], .tup [.int 0, .int 4, .int 2, .int 3, .int 1], .tup [.int 0, .int 4, .int 3, .int 1, .int 2], .tup [.int 0, .int 4, .int 3, .int 2, .int 1], .tup [.int 1, .int 0, .int 2, .int 3, .int 4], .tup [.int 1, .int 0, .int 2, .int 4, .int 3], .tup [.int 1, .int 0, .int 3, .int 2, .int 4], .tup [.int 1, .int 0, .int 3, .int 4, .int 2], .tup [.int 1, .int 0, .int 4, .int 2, .int 3], .tup [.int 1, .int 0, .int 4, .int 3, .int 2], .tup [.int 1, .int 2, .int 0, .int 3, .int 4], .tup [.int 1, .int 2, .int 0, .int 4, .int 3], .tup [.int 1, .int 2, .int 3, .int 0, .int 4], .tup [.int 1, .int 2, .int 3, .int 4, .int 0], .tup [.int 1, .int 2, .int 4, .int 0, .int 3], .tup [.int 1, .int 2, .int 4, .int 3, .int 0], .tup [.int 1, .int 3, .int 0, .int 2, .int 4], .tup [.int 1, .int 3, .int 0, .int 4, .int 2], .tup [.int 1, .int 3, .int 2, .int 0, .int 4], .tup [.int 1, .int 3, .int 2, .int 4, .int 0], .tup [.int 1, .int 3, .int 4, .int 0, .int 2], .tup [.int 1, .int 3, .int 4, .int 2, .int 0], .tup [.int 1, .int 4, .int 0, .int 2, .int 3], .tup [.int 1, .int 4, .int 0, .int 3, .int 2], .tup [.int 1, .int 4, .int 2, .int 0, .int 3], .tup [.int 1, .int 4, .int 2, .int 3, .int 0], .tup [.int 1, .int 4, .int 3, .int 0, .int 2], .tup [.int 1, .int 4, .int 3, .int 2, .int 0], .tup [.int 2, .int 0, .int 1, .int 3, .int 4], .tup [.int 2, .int 0, .int 1, .int 4, .int 3], .tup [.int 2, .int 0, .int 3, .int 1, .int 4], .tup [.int 2, .int 0, .int 3, .int 4, .int 1], .tup [.int 2, .int 0, .int 4, .int 1, .int 3], .tup [.int 2, .int 0, .int 4, .int 3, .int 1], .tup [.int 2, .int 1, .int 0, .int 3, .int 4], .tup [.int 2, .int 1, .int 0, .int 4, .int 3], .tup [.int 2, .int 1, .int 3, .int 0, .int 4], .tup [.int 2, .int 1, .int 3, .int 4, .int 0], .tup [.int 2, .int 1, .int 4, .int 0, .int 3], .tup [.int 2, .int 1, .int 4, .int 3, .int 0], .tup [.int 2, .int 3, .int 0, .int 1, .int 4], .tup [.int 2, .int 3, .int 0, .int 4, .int 1], .tup [.int 2, .int 3, .int 1, .int 0, .int 4], .tup [.int 2, .int 3, .int 1, .int 4, .int 0], .tup [.int 2, .int 3, .int 4, .int 0, .int 1], .tup [.int 2, .int 3, .int 4, .int 1, .int 0], .tup [.int 2, .int 4, .int 0, .int 1, .int 3], .tup [.int 2, .int 4, .int 0, .int 3, .int 1], .tup [.int 2, .int 4, .int 1, .int 0, .int 3], .tup [.int 2, .int 4, .int 1, .int 3, .int 0], .tup [.int 2, .int 4, .int 3, .int 0, .int 1], .tup [.int 2, .int 4, .int 3, .int 1, .int 0], .tup [.int 3, .int 0, .int 1, .int 2, .int 4], .tup [.int 3, .int 0, .int 1, .int 4, .int 2], .tup [.int 3, .int 0, .int 2, .int 1, .int 4], .tup [.int 3, .int 0, .int 2, .int 4, .int 1], .tup [.int 3, .int 0, .int 4, .int 1, .int 2], .tup [.int 3, .int 0, .int 4, .int 2, .int 1], .tup [.int 3, .int 1, .int 0, .int 2, .int 4], .tup [.int 3, .int 1, .int 0, .int 4, .int 2], .tup [.int 3, .int 1, .int 2, .int 0, .int 4], .tup [.int 3, .int 1, .int 2, .int 4, .int 0], .tup [.int 3, .int 1, .int 4, .int 0, .int 2], .tup [.int 3, .int 1, .int 4, .int 2, .int 0], .tup [.int 3, .int 2, .int 0, .int 1, .int 4], .tup [.int 3, .int 2, .int 0, .int 4, .int 1], .tup [.int 3, .int 2, .int 1, .int 0, .int 4], .tup [.int 3, .int 2, .int 1, .int 4, .int 0], .tup [.int 3, .int 2, .int 4, .int 0, .int 1], .tup [.int 3, .int 2, .int 4, .int 1, .int 0], .tup [.int 3, .int 4, .int 0, .int 1, .int 2], .tup [.int 3, .int 4, .int 0, .int 2, .int 1], .tup [.int 3, .int 4, .int 1, .int 0, .int 2], .tup [.int 3, .int 4, .int 1, .int 2, .int 0], .tup [.int 3, .int 4, .int 2, .int 0, .int 1], .tup [.int 3, .int 4, .int 2, .int 1, .int 0], .tup [.int 4, .int 0, .int 1, .int 2, .int 3], .tup [.int 4, .int 0, .int 1, .int 3, .int 2], .tup [.int 4, .int 0, .int 2, .int 1, .int 3], .tup [.int 4, .int 0, .int 2, .int 3, .int 1], .tup [.int 4, .int 0, .int 3, .int 1, .int 2], .tup [.int 4, .int 0, .int 3, .int 2, .int 1], .tup [.int 4, .int 1, .int 0, .int 2, .int 3], .tup [.int 4, .int 1, .int 0, .int 3, .int 2], .tup [.int 4, .int 1, .int 2, .int 0, .int 3], .tup [.int 4, .int 1, .int 2, .int 3, .int 0], .tup [.int 4, .int 1, .int 3, .int 0, .int 2], .tup [.int 4, .int 1, .int 3, .int 2, .int 0], .tup [.int 4, .int 2, .int 0, .int 1, .int 3], .tup [.int 4, .int 2, .int 0, .int 3, .int 1], .tup [.int 4, .int 2, .int 1, .int 0, .int 3], .tup [.int 4, .int 2, .int 1, .int 3, .int 0], .tup [.int 4, .int 2, .int 3, .int 0, .int 1], .tup [.int 4, .int 2, .int 3, .int 1, .int 0], .tup [.int 4, .int 3, .int 0, .int 1, .int 2], .tup [.int 4, .int 3, .int 0, .int 2, .int 1], .tup [.int 4, .int 3, .int 1, .int 0, .int 2], .tup [.int 4, .int 3, .int 1, .int 2, .int 0], .tup [.int 4, .int 3, .int 2, .int 0, .int 1], .tup [.int 4, .int 3, .int 2, .int 1, .int 0]])), ([.int 8], .exc 4)]
theorem ht_all_turns : T_all_turns.all (TabOk (cDef 1 5 b_all_turns)) = true := by decide +kernel
abbrev F_all_turns : CF := (fTab T_all_turns)
theorem g_all_turns (hy : Hy K mg) : JF P w K mg base 1 hy.f_all_turns hy.fd_all_turns ["many"] (nm hy) F_all_turns := jf_tab (g0_all_turns hy) ht_all_turns
def b_rank : CS := (sSeq (sPar 1 2 (cCons (cC (.int 0)) (cCons (cLstR (crg1 (cFn fLen (cCons (cVar 0) cNil)))) cNil))) (sSeq (sFor (ciSeq (cVar 0)) (gNm 3) (sSeq (sAsg (cMt fIndex (cVar 2) (cCons (cVar 3) cNil)) (gNm 4)) (sSeq (sAsg (cOp fAdd (cOp fMul (cVar 1) (cFn fLen (cCons (cVar 2) cNil))) (cVar 4)) (gNm 1)) (sExpr (cMt fPopAt (cVar 2) (cCons (cVar 4) cNil)))))) (sRet (cVar 1))))
theorem g0_rank (hy : Hy K mg) : JF P w K mg base 1 hy.f_rank hy.fd_rank ["one"] (nm hy) (cDef 1 5 b_rank) :=
   jf_def (k := 0) hy.F_rank sc_rank fun cdv A outer s H E hr => (jb_cons (js_par (i := 1) (j := 2) rfl sc_rank.nd rfl rfl (by decide) rfl rfl (ja_cons je_int (ja_cons (je_listR rfl (by rfl) hy.z_list (jr_1 (by rfl) hy.z_range (je_blt blt_len (by rfl) hy.z_len (by rfl) (ja_cons (je_var 0 (pv 0)) ja_nil)))) ja_nil)) (by first | rfl | decide +kernel | with_unfolding_all rfl)) (jb_cons (js_for (passes_of rfl) rfl (ji_seq (je_var 0 (pv 0))) (jg_name (pg_name (i := 3) sc_rank.nd rfl (by first | exact .inl rfl | exact .inr rfl))) (jb_cons (js_set (i := 4) sc_rank.nd rfl (by first | exact .inl rfl | exact .inr rfl) (je_mt PySem.F.plainAttrs_list PySem.F.slot_list_index PySem.F.type_list_index (mtd_index (hu65 hr)) (je_var 2 (pv 2)) (ja_cons (je_var 3 (pv 3)) ja_nil))) (jb_cons (js_set (i := 1) sc_rank.nd rfl (by first | exact .inl rfl | exact .inr rfl) (je_op opd_add (je_op opd_mul (je_var 1 (pv 1)) (je_blt blt_len (by rfl) hy.z_len (by rfl) (ja_cons (je_var 2 (pv 2)) ja_nil))) (je_var 4 (pv 4)))) (jb_one (js_expr (je_mt PySem.F.plainAttrs_list PySem.F.slot_list_pop PySem.F.type_list_pop mtd_popAt (je_var 2 (pv 2)) (ja_cons (je_var 4 (pv 4)) ja_nil))))))) (jb_one (js_ret (je_var 1 (pv 1))))))
abbrev F_rank : CF := (cPure (cDef 1 5 b_rank))
theorem g_rank (hy : Hy K mg) : JF P w K mg base 1 hy.f_rank hy.fd_rank ["one"] (nm hy) F_rank := jf_pure (g0_rank hy)
def b_of_rank : CS := (sSeq (sAsg (cLst cNil) (gNm 2)) (sSeq (sFor (ciR2 (cCons (cC (.int 1)) (cCons (cOp fAdd (cVar 1) (cC (.int 1))) cNil))) (gNm 3) (sSeq (sExpr (cMt fAppend (cVar 2) (cCons (cOp fMod (cVar 0) (cVar 3)) cNil))) (sAug 0 (fI2c divOk idiv) (cVar 3)))) (sSeq (sIf (cTst (cOp fNe (cVar 0) (cC (.int 0)))) (sRaise 3) sNil) (sSeq (sPar 4 5 (cCons (cLst cNil) (cCons (cLstR (crg1 (cVar 1))) cNil))) (sSeq (sFor (ciRev (cVar 2)) (gNm 6) (sExpr (cMt fAppend (cVar 4) (cCons (cMt fPopAt (cVar 5) (cCons (cVar 6) cNil)) cNil)))) (sRet (cFn (f1 gTuple) (cCons (cVar 4) cNil))))))))
theorem g0_of_rank (hy : Hy K mg) : JF P w K mg base 1 hy.f_of_rank hy.fd_of_rank ["number", "many"] (nm hy) (cDef 2 7 b_of_rank) :=
   jf_def (k := 0) hy.F_of_rank sc_of_rank fun cdv A outer s H E hr => (jb_cons (js_set (i := 2) sc_of_rank.nd rfl (by first | exact .inl rfl | exact .inr rfl) (je_lst ja_nil)) (jb_cons (js_for (passes_of rfl) rfl (ji_range2 (by rfl) hy.z_range (ja_cons je_int (ja_cons (je_op opd_add (je_var 1 (pv 1)) je_int) ja_nil))) (jg_name (pg_name (i := 3) sc_of_rank.nd rfl (by first | exact .inl rfl | exact .inr rfl))) (jb_cons (js_expr (je_mt PySem.F.plainAttrs_list PySem.F.slot_list_append PySem.F.type_list_append mtd_append (je_var 2 (pv 2)) (ja_cons (je_op opd_mod (je_var 0 (pv 0)) (je_var 3 (pv 3))) ja_nil))) (jb_one (js_aug (i := 0) sc_of_rank.nd rfl (by first | exact .inl rfl | exact .inr rfl) (je_var 3 (pv 3)) opd_idiv)))) (jb_cons (js_if (jt_cmp (opd_ne hr.units) (je_var 0 (pv 0)) je_int (by rfl)) (jb_one (js_raise rfl (takes_of rfl rfl rfl rfl) (pmk_own PySem.F.excBase_ValueError hy.x_NoWay hy.g_NoWay hy.k_NoWay (raises_own hy.s_NoWay hy.t_NoWay) (by rfl)) rfl)) jb_nil) (jb_cons (js_par (i := 4) (j := 5) rfl sc_of_rank.nd rfl rfl (by decide) rfl rfl (ja_cons (je_lst ja_nil) (ja_cons (je_listR rfl (by rfl) hy.z_list (jr_1 (by rfl) hy.z_range (je_var 1 (pv 1)))) ja_nil)) (by first | rfl | decide +kernel | with_unfolding_all rfl)) (jb_cons (js_for (passes_of rfl) rfl (ji_rev (by rfl) hy.z_reversed (je_var 2 (pv 2))) (jg_name (pg_name (i := 6) sc_of_rank.nd rfl (by first | exact .inl rfl | exact .inr rfl))) (jb_one (js_expr (je_mt PySem.F.plainAttrs_list PySem.F.slot_list_append PySem.F.type_list_append mtd_append (je_var 4 (pv 4)) (ja_cons (je_mt PySem.F.plainAttrs_list PySem.F.slot_list_pop PySem.F.type_list_pop mtd_popAt (je_var 5 (pv 5)) (ja_cons (je_var 6 (pv 6)) ja_nil)) ja_nil))))) (jb_one (js_ret (je_ty ty_tuple (by rfl) hy.z_tuple (by rfl) (ja_cons (je_var 4 (pv 4)) ja_nil)))))))))
abbrev F_of_rank : CF := (cPure (cDef 2 7 b_of_rank))
theorem g_of_rank (hy : Hy K mg) : JF P w K mg base 1 hy.f_of_rank hy.fd_of_rank ["number", "many"] (nm hy) F_of_rank := jf_pure (g0_of_rank hy)
theorem g0__law_dice (hy : Hy K mg) : JF P w K mg base 1 hy.f__law_dice hy.fd__law_dice ["cell"] (nm hy) (cDef 1 1 b_dice) :=
   jf_def (k := 0) hy.F__law_dice sc__law_dice fun cdv A outer s H E hr => (jb_cons (js_if (jt_chain opd_lt opd_lt (je_op opd_sub je_int je_int) (je_var 0 (pv 0)) je_int) (jb_one (js_ret (je_lst (ja_cons (je_blt blt_abs (by rfl) hy.z_abs (by rfl) (ja_cons (je_var 0 (pv 0)) ja_nil)) (ja_cons je_int (ja_cons je_int ja_nil)))))) jb_nil) (jb_one (js_ret (je_lst (ja_cons (je_var 0 (pv 0)) (ja_cons (je_op opd_add je_int (je_op opd_mod (je_ty ty_int (by rfl) hy.z_int (by rfl) (ja_cons (je_var 0 (pv 0)) ja_nil)) je_int)) (ja_cons (je_ty ty_int (by rfl) hy.z_int (by rfl) (ja_cons (je_cmp opd_ge (je_var 0 (pv 0)) (je_op opd_pow je_int je_int) (by rfl)) ja_nil)) ja_nil)))))))
abbrev F__law_dice : CF := fDice
theorem g__law_dice (hy : Hy K mg) : JF P w K mg base 1 hy.f__law_dice hy.fd__law_dice ["cell"] (nm hy) F__law_dice := jf_dice (g0__law_dice hy) dice_ok
theorem g0__law_roll (hy : Hy K mg) : JF P w K mg base 1 hy.f__law_roll hy.fd__law_roll ["dice", "many"] (nm hy) (cDef 2 3 b_roll) :=
   jf_def (k := 0) hy.F__law_roll sc__law_roll fun cdv A outer s H E hr => (jb_cons (js_if (jt_of (jw_or (jt_cmp (opd_eq hr.units) (je_ix (hu_of hr) (je_var 0 (pv 0)) je_int (fun _ _ => rfl)) je_int (by rfl)) (jw_or1 (jt_of (jw_and (jt_cmp (opd_eq hr.units) (je_ix (hu_of hr) (je_var 0 (pv 0)) je_int (fun _ _ => rfl)) je_int (by rfl)) (jw_and1 (jt_cmp opd_gt (je_ix (hu_of hr) (je_var 0 (pv 0)) je_int (fun _ _ => rfl)) je_int (by rfl)))))))) (jb_cons (js_set (i := 2) sc__law_roll.nd rfl (by first | exact .inl rfl | exact .inr rfl) (je_op opd_mod (je_ty ty_int (by rfl) hy.z_int (by rfl) (ja_cons (je_ix (hu_of hr) (je_var 0 (pv 0)) je_int (fun _ _ => rfl)) ja_nil)) (je_var 1 (pv 1)))) (jb_cons (js_asg (je_op opd_div (je_ix (hu_of hr) (je_var 0 (pv 0)) je_int (fun _ _ => rfl)) (je_var 1 (pv 1))) (jg_sub (hu_of hr) (je_var 0 (pv 0)) je_int)) (jb_one (js_ret (je_var 2 (pv 2)))))) jb_nil) (jb_cons (js_asg je_int (jg_sub (hu_of hr) (je_var 0 (pv 0)) je_int)) (jb_cons (js_asg (je_op opd_mod (je_ty ty_int (by rfl) hy.z_int (by rfl) (ja_cons (je_op opd_add (je_op opd_add (je_op opd_mul (je_ix (hu_of hr) (je_var 0 (pv 0)) je_int (fun _ _ => rfl)) je_int) (je_op opd_mul (je_ix (hu_of hr) (je_var 0 (pv 0)) je_int (fun _ _ => rfl)) je_int)) je_int) ja_nil)) je_int) (jg_sub (hu_of hr) (je_var 0 (pv 0)) je_int)) (jb_cons (js_asg (je_op opd_add (je_ix (hu_of hr) (je_var 0 (pv 0)) je_int (fun _ _ => rfl)) je_int) (jg_sub (hu_of hr) (je_var 0 (pv 0)) je_int)) (jb_one (js_ret (je_op opd_mod (je_ty ty_int (by rfl) hy.z_int (by rfl) (ja_cons (je_op opd_add (je_op opd_div (je_ix (hu_of hr) (je_var 0 (pv 0)) je_int (fun _ _ => rfl)) je_int) (je_ix (hu_of hr) (je_var 0 (pv 0)) je_int (fun _ _ => rfl))) ja_nil)) (je_var 1 (pv 1)))))))))
abbrev F__law_roll : CF := fRoll
theorem g__law_roll (hy : Hy K mg) : JF P w K mg base 1 hy.f__law_roll hy.fd__law_roll ["dice", "many"] (nm hy) F__law_roll := jf_roll (g0__law_roll hy) roll_ok
theorem g__law_rounds (hy : Hy K mg) : FnOk P w K mg base (L2.CX P w) 2 hy.f__law_rounds hy.fd__law_rounds ["script", "most"] (spRnd K (nm hy)) :=
  have g__law_dice := g__law_dice (P := P) (w := w) (base := base) hy
  hy.F__law_rounds.okX sc__law_rounds (fun vs H Q E h => by obtain ⟨_, _, _, rfl, _⟩ := h; rfl) fun cdv A outer s H vs Q E hr h =>
    ⟨_, rnd_body (N := nm hy) (E := E) (c := b_rnd) sc__law_rounds.nd rfl (.inl rfl) (pv 0) (pv 1) (jb_cons (js_if (jt_cmp (opd_eq hr.units) (je_var 2 (pv 2)) (je_lst ja_nil) (by rfl)) (jb_one (js_set (i := 2) sc__law_rounds.nd rfl (by first | exact .inl rfl | exact .inr rfl) (je_lst (ja_cons je_int ja_nil)))) jb_nil) (jb_one (js_ret (je_lc (E' := E0) (own := [("cell", 3)]) rfl sc__law_rounds.nd (ji_seq (je_var 2 (pv 2))) (blkOk_by (N := ["script", "most", "cells", "cell"]) (sc := defScope s__law_rounds) (own := [("cell", 3)]) (by decide +kernel)) (fun _ _ _ _ _ => (jgw_name (pg_name (i := 3) sc__law_rounds.nd rfl (by first | exact .inl rfl | exact .inr rfl)))) (fun _ _ _ _ _ => jts_nil) (fun _ _ _ _ _ => (je_call g__law_dice (hr.mono (by decide)) (by rfl) hy.m__law_dice hy.F__law_dice.kp hy.b__law_dice passL (ja_cons (je_var 3 (pv 3)) ja_nil))))))) rnd_ok, tRnd_of h (by decide)⟩
def b__law_turn : CS := (sSeq (sAsg (cLstR (crg1 (cVar 1))) (gNm 2)) (sSeq (sAsg (cLst cNil) (gNm 3)) (sSeq (sWhile (cTst (cOp fNe (cVar 2) (cLst cNil))) (sExpr (cMt fAppend (cVar 3) (cCons (cMt fPopAt (cVar 2) (cCons (cCall F__law_roll (cCons (cVar 0) (cCons (cFn fLen (cCons (cVar 2) cNil)) cNil))) cNil)) cNil)))) (sRet (cFn (f1 gTuple) (cCons (cVar 3) cNil))))))
theorem g0__law_turn (hy : Hy K mg) : JF P w K mg base 2 hy.f__law_turn hy.fd__law_turn ["dice", "many"] (nm hy) (cDef 2 4 b__law_turn) :=
  have g__law_roll := g__law_roll (P := P) (w := w) (base := base) hy; jf_def (k := 1) hy.F__law_turn sc__law_turn fun cdv A outer s H E hr => (jb_cons (js_set (i := 2) sc__law_turn.nd rfl (by first | exact .inl rfl | exact .inr rfl) (je_listR rfl (by rfl) hy.z_list (jr_1 (by rfl) hy.z_range (je_var 1 (pv 1))))) (jb_cons (js_set (i := 3) sc__law_turn.nd rfl (by first | exact .inl rfl | exact .inr rfl) (je_lst ja_nil)) (jb_cons (js_while (passes_of rfl) (jt_cmp (opd_ne hr.units) (je_var 2 (pv 2)) (je_lst ja_nil) (by rfl)) (jb_one (js_expr (je_mt PySem.F.plainAttrs_list PySem.F.slot_list_append PySem.F.type_list_append mtd_append (je_var 3 (pv 3)) (ja_cons (je_mt PySem.F.plainAttrs_list PySem.F.slot_list_pop PySem.F.type_list_pop mtd_popAt (je_var 2 (pv 2)) (ja_cons (je_call g__law_roll (hr.mono (by decide)) (by rfl) hy.m__law_roll hy.F__law_roll.kp hy.b__law_roll (passes_call (takes_of rfl rfl rfl rfl) (fun _ _ _ _ h => h)) (ja_cons (je_var 0 (pv 0)) (ja_cons (je_blt blt_len (by rfl) hy.z_len (by rfl) (ja_cons (je_var 2 (pv 2)) ja_nil)) ja_nil))) ja_nil)) ja_nil))))) (jb_one (js_ret (je_ty ty_tuple (by rfl) hy.z_tuple (by rfl) (ja_cons (je_var 3 (pv 3)) ja_nil)))))))
abbrev F__law_turn : CF := (cDef 2 4 b__law_turn)
theorem g__law_turn (hy : Hy K mg) : JF P w K mg base 2 hy.f__law_turn hy.fd__law_turn ["dice", "many"] (nm hy) F__law_turn := g0__law_turn hy
def hm__law_told : Nat → Option Str := fun c => match c with | 3 => some "no way" | 4 => some "large" | _ => none
theorem hmOk (hy : Hy K mg) : HmOk K (nm hy) [(.ref hy.c_BadTurn, "turn"), (.ref hy.c_BadTable, "table"), (.ref hy.c_NoWay, "no way"), (.ref hy.c_TooLarge, "large")] hm__law_told := by
  intro c r e Pr hP
  unfold hm__law_told at e
  split at e
  · cases e; exact ⟨false, hy.e_NoWay_BadTurn, (fun z => by cases z), fun _ => ⟨false, hy.e_NoWay_BadTable, (fun z => by cases z), fun _ => ⟨true, hy.e_NoWay_NoWay, fun _ => hP, fun z => by cases z⟩⟩⟩
  · cases e; exact ⟨false, hy.e_TooLarge_BadTurn, (fun z => by cases z), fun _ => ⟨false, hy.e_TooLarge_BadTable, (fun z => by cases z), fun _ => ⟨false, hy.e_TooLarge_NoWay, (fun z => by cases z), fun _ => ⟨true, hy.e_TooLarge_TooLarge, fun _ => hP, fun z => by cases z⟩⟩⟩⟩
  · cases e
def K_10 : CK := fun σ η => (sIf (cTst (cOp fNe (cTold hm__law_told (cCall F_all_turns (cCons (cC (.int 8)) cNil))) (cC (.str "large")))) (sRet (cC (.bl false))) sNil) σ η (kT 8)
def K_9 : CK := fun σ η => (sIf (cTst (cOp fNe (cTold hm__law_told (cCall F_of_rank (cCons (cVar 7) (cCons (cVar 6) cNil)))) (cC (.str "no way")))) (sRet (cC (.bl false))) sNil) σ η { kT 8 with nx := K_10 }
def K_8 : CK := fun σ η => (sIf (ctOr (cTst (cOp fNe (cCall F_of_rank (cCons (cVar 5) (cCons (cVar 6) cNil))) (cOp fIx (cVar 3) (cVar 5)))) (cTst (cOp fNe (cCall F_rank (cCons (cCall F_of_rank (cCons (cVar 5) (cCons (cVar 6) cNil))) cNil)) (cVar 5)))) (sRet (cC (.bl false))) sNil) σ η { kT 8 with nx := K_9 }
def K_7 : CK := fun σ η => (sAsg (cCall F__law_roll (cCons (cVar 1) (cCons (cVar 7) cNil))) (gNm 5)) σ η { kT 8 with nx := K_8 }
def S_7 : List (SD × Hd) := [([none, some (.ref 0), none, some (.tup [.tup [.int 0]]), none, none, some (.int 1), some (.int 1)], ⟨1, [(0, .dice)]⟩), ([none, some (.ref 0), none, some (.tup [.tup [.int 0, .int 1], .tup [.int 1, .int 0]]), none, none, some (.int 2), some (.int 2)], ⟨1, [(0, .dice)]⟩), ([none, some (.ref 0), none, some (.tup [.tup [.int 0, .int 1, .int 2], .tup [.int 0, .int 2, .int 1], .tup [.int 1, .int 0, .int 2], .tup [.int 1, .int 2, .int 0], .tup [.int 2, .int 0, .int 1], .tup [.int 2, .int 1, .int 0]]), none, none, some (.int 3), some (.int 6)], ⟨1, [(0, .dice)]⟩), ([none, some (.ref 0), none, some (.tup [.tup [.int 0, .int 1, .int 2, .int 3], .tup [.int 0, .int 1, .int 3, .int 2], .tup [.int 0, .int 2, .int 1, .int 3], .tup [.int 0, .int 2, .int 3, .int 1], .tup [.int 0, .int 3, .int 1, .int 2], .tup [.int 0, .int 3, .int 2, .int 1], .tup [.int 1, .int 0, .int 2, .int 3], .tup [.int 1, .int 0, .int 3, .int 2], .tup [.int 1, .int 2, .int 0, .int 3], .tup [.int 1, .int 2, .int 3, .int 0], .tup [.int 1, .int 3, .int 0, .int 2], .tup [.int 1, .int 3, .int 2, .int 0], .tup [.int 2, .int 0, .int 1, .int 3], .tup [.int 2, .int 0, .int 3, .int 1], .tup [.int 2, .int 1, .int 0, .int 3], .tup [.int 2, .int 1, .int 3, .int 0], .tup [.int 2, .int 3, .int 0, .int 1], .tup [.int 2, .int 3, .int 1, .int 0], .tup [.int 3, .int 0, .int 1, .int 2], .tup [.int 3, .int 0, .int 2, .int 1], .tup [.int 3, .int 1, .int 0, .int 2], .tup [.int 3, .int 1, .int 2, .int 0], .tup [.int 3, .int 2, .int 0, .int 1], .tup [.int 3, .int 2, .int 1, .int 0]]), none, none, some (.int 4), some (.int 24)], ⟨1, [(0, .dice)]⟩), ([none, some (.ref 0), none, some (.tup [.tup [.int 0, .int 1, .int 2, .int 3, .int 4], .tup [.int 0, .int 1, .int 2, .int 4, .int 3], .tup [.int 0, .int 1, .int 3, .int 2, .int 4], .tup [.int 0, .int 1, .int 3, .int 4, .int 2], .tup [.int 0, .int 1, .int 4, .int 2, .int 3], .tup [.int 0, .int 1, .int 4, .int 3, .int 2], .tup [.int 0, .int 2, .int 1, .int 3, .int 4], .tup [.int 0, .int 2, .int 1, .int 4, .int 3], .tup [.int 0, .int 2, .int 3, .int 1, .int 4], .tup [.int 0, .int 2, .int 3, .int 4, .int 1], .tup [.int 0, .int 2, .int 4, .int 1, .int 3], .tup [.int 0, .int 2, .int 4, .int 3, .int 1], .tup [.int 0, .int 3, .int 1, .int 2, .int 4], .tup [.int 0, .int 3, .int 1, .int 4, .int 2], .tup [.int 0, .int 3, .int 2, .int 1, .int 4], .tup [.int 0, .int 3, .int 2, .int 4, .int 1], .tup [.int 0, .int 3, .int 4, .int 1, .int 2], .tup [.int 0, .int 3, .int 4, .int 2, .int 1], .tup [.int 0, .int 4, .int 1, .int 2, .int 3], .tup [.int 0, .int 4, .int 1, .int 3, .int 2], .tup [.int 0, .int 4, .int 2, .int 1, .int 3], .tup [.int 0, .int 4, .int 2, .int 3, .int 1], .tup [.int 0, .int 4, .int 3, .int 1, .int 2], .tup [.int 0, .int 4, .int 3, .int 2, .int 1], .tup [.int 1, .int 0, .int 2, .int 3, .int 4], .tup [.int 1, .int 0, .int 2, .int 4, .int 3], .tup [.int 1, .int 0, .int 3, .int 2, .int 4], .tup [.int 1, .int 0, .int 3, .int 4, .int 2], .tup [.int 1, .int 0, .int 4, .int 2, .int 3], .tup [.int 1, .int 0, .int 4, .int 3, .int 2], .tup [.int 1, .int 2, .int 0, .int 3, .int 4], .tup [.int 1, .int 2, .int 0, .int 4, .int 3], .tup [.int 1, .int 2, .int 3, .int 0, .int 4], .tup [.int 1, .int 2, .int 3, .int 4, .int 0], .tup [.int 1, .int 2, .int 4, .int 0, .int 3], .tup [.int 1, .int 2, .int 4, .int 3, .int 0], .tup [.int 1, .int 3, .int 0, .int 2, .int 4], .tup [.int 1, .int 3, .int 0, .int 4, .int 2], .tup [.int 1, .int 3, .int 2, .int 0, .int 4], .tup [.int 1, .int 3, .int 2, .int 4, .int 0], .tup [.int 1, .int 3, .int 4, .int 0, .int 2], .tup [.int 1, .int 3, .int 4, .int 2, .int 0], .tup [.int 1, .int 4, .int 0, .int 2, .int 3], .tup [.int 1, .int 4, .int 0, .int 3, .int 2], .tup [.int 1, .int 4, .int 2, .int 0, .int 3], .tup [.int 1, .int 4, .int 2, .int 3, .int 0], .tup [.int 1, .int 4, .int 3, .int 0, .int 2], .tup [.int 1, .int 4, .int 3, .int 2, .int 0], .tup [.int 2, .int 0, .int 1, .int 3, .int 4], .tup [.int 2, .int 0, .int 1, .int 4, .int 3], .tup [.int 2, .int 0, .int 3, .int 1, .int 4], .tup [.int 2, .int 0, .int 3, .int 4, .int 1], .tup [.int 2, .int 0, .int 4, .int 1, .int 3], .tup [.int 2, .int 0, .int 4, .int 3, .int 1], .tup [.int 2, .int 1, .int 0, .int 3, .int 4], .tup [.int 2, .int 1, .int 0, .int 4, .int 3], .tup [.int 2, .int 1, .int 3, .int 0, .int 4], .tup [.int 2, .int 1, .int 3, .int 4, .int 0], .tup [.int 2, .int 1, .int 4, .int 0, .int 3], .tup [.int 2, .int 1, .int 4, .int 3, .int 0], .tup [.int 2, .int 3, .int 0, .int 1, .int 4], .tup [.int 2, .int 3, .int 0, .int 4, .int 1], .tup [.int 2, .int 3, .int 1, .int 0, .int 4], .tup [.int 2, .int 3, .int 1, .int 4, .int 0], .tup [.int 2, .int 3, .int 4, .int 0, .int 1], .tup [.int 2, .int 3, .int 4, .int 1, .int 0], .tup [.int 2, .int 4, .int 0, .int 1, .int 3], .tup [.int 2, .int 4, .int 0, .int 3, .int 1], .tup [.int 2, .int 4, .int 1, .int 0, .int 3], .tup [.int 2, .int 4, .int 1, .int 3, .int 0], .tup [.int 2, .int 4, .int 3, .int 0, .int 1], .tup [.int 2, .int 4, .int 3, .int 1, .int 0], .tup [.int 3, .int 0, .int 1, .int 2, .int 4], .tup [.int 3, .int 0, .int 1, .int 4, .int 2], .tup [.int 3, .int 0, .int 2, .int 1, .int 4], .tup [.int 3, .int 0, .int 2, .int 4, .int 1], .tup [.int 3, .int 0, .int 4, .int 1, .int 2], .tup [.int 3, .int 0, .int 4, .int 2, .int 1], .tup [.int 3, .int 1, .int 0, .int 2, .int 4], .tup [.int 3, .int 1, .int 0, .int 4, .int 2], .tup [.int 3, .int 1, .int 2, .int 0, .int 4], .tup [.int 3, .int 1, .int 2, .int 4, .int 0], .tup [.int 3, .int 1, .int 4, .int 0, .int 2], .tup [.int 3, .int 1, .int 4, .int 2, .int 0], .tup [.int 3, .int 2, .int 0, .int 1, .int 4], .tup [.int 3, .int 2, .int 0, .int 4, .int 1], .tup [.int 3, .int 2, .int 1, .int 0, .int 4], .tup [.int 3, .int 2, .int 1, .int 4, .int 0], .tup [.int 3, .int 2, .int 4, .int 0, .int 1], .tup [.int 3, .int 2, .int 4, .int 1, .int 0], .tup [.int 3, .int 4, .int 0, .int 1, .int 2], .tup [.int 3, .int 4, .int 0, .int 2, .int 1], .tup [.int 3, .int 4, .int 1, .int 0, .int 2], .tup [.int 3, .int 4, .int 1, .int 2, .int 0], .tup [.int 3, .int 4, .int 2, .int 0, .int 1], .tup [.int 3, .int 4, .int 2, .int 1, .int 0], .tup [.int 4, .int 0, .int 1, .int 2, .int 3], .tup [.int 4, .int 0, .int 1, .int 3, .int 2], .tup [.int 4, .int 0, .int 2, .int 1, .int 3], .tup [.int 4, .int 0, .int 2, .int 3, .int 1], .tup [.int 4, .int 0, .int 3, .int 1, .int 2], .tup [.int 4, .int 0, .int 3, .int 2, .int 1], .tup [.int 4, .int 1, .int 0, .int 2, .int 3], .tup [.int 4, .int 1, .int 0, .int 3, .int 2], .tup [.int 4, .int 1, .int 2, .int 0, .int 3], .tup [.int 4, .int 1, .int 2, .int 3, .int 0], .tup [.int 4, .int 1, .int 3, .int 0, .int 2], .tup [.int 4, .int 1, .int 3, .int 2, .int 0], .tup [.int 4, .int 2, .int 0, .int 1, .int 3], .tup [.int 4, .int 2, .int 0, .int 3, .int 1], .tup [.int 4, .int 2, .int 1, .int 0, .int 3], .tup [.int 4, .int 2, .int 1, .int 3, .int 0], .tup [.int 4, .int 2, .int 3, .int 0, .int 1], .tup [.int 4, .int 2, .int 3, .int 1, .int 0], .tup [.int 4, .int 3, .int 0, .int 1, .int 2], .tup [.int 4, .int 3, .int 0, .int 2, .int 1], .tup [.int 4, .int 3, .int 1, .int 0, .int 2], .tup [.int 4, .int 3, .int 1, .int 2, .int 0], .tup [.int 4, .int 3, .int 2, .int 0, .int 1], .tup [.int 4, .int 3, .int 2, .int 1, .int 0]]), none, none, some (.int 5), some (.int 120)], ⟨1, [(0, .dice)]⟩)]
theorem hS_7 : (S_7.all fun st => Nat.ble 1 st.2.nx && K_7 st.1 st.2) = true := by decide +kernel
def Kc_7 : CK := fun σ η => S_7.any fun st => leS st σ η
def K_6 : CK := fun σ η => (sIf (cTst (cOp fNe (cCall F_of_rank (cCons (cCall F_rank (cCons (cVar 2) cNil)) (cCons (cVar 6) cNil))) (cVar 2))) (sRet (cC (.bl false))) sNil) σ η { kT 8 with nx := Kc_7 }
def K_5 : CK := fun σ η => (sIf (ctOr (cTst (cOp fNe (cFn fLen (cCons (cVar 3) cNil)) (cVar 7))) (ctOr (cTst (cOp fNe (cFn (f1 gList) (cCons (cVar 3) cNil)) (cFn (f1 gSrt) (cCons (cVar 3) cNil)))) (cTst (cOp fNe (cOp fIx (cVar 3) (cCall F_rank (cCons (cVar 2) cNil))) (cVar 2))))) (sRet (cC (.bl false))) sNil) σ η { kT 8 with nx := K_6 }
def K_4 : CK := fun σ η => (sFor (ciR1 (cCons (cVar 6) cNil)) (gNm 4) (sAsg (cOp fMul (cVar 7) (cOp fAdd (cVar 4) (cC (.int 1)))) (gNm 7))) σ η { kT 8 with nx := K_5 }
def K_3 : CK := fun σ η => (sAsg (cC (.int 1)) (gNm 7)) σ η { kT 8 with nx := K_4 }
def K_2 : CK := fun σ η => (sAsg (cCall F_all_turns (cCons (cVar 6) cNil)) (gNm 3)) σ η { kT 8 with nx := K_3 }
def K_1 : CK := fun σ η => (sAsg (cCall F__law_turn (cCons (cVar 1) (cCons (cVar 6) cNil))) (gNm 2)) σ η { kT 8 with nx := K_2 }
def K_0 : CK := fun σ η => (sAsg (cOp fAdd (cC (.int 1)) (cCall F__law_roll (cCons (cVar 1) (cCons (cC (.int 5)) cNil)))) (gNm 6)) σ η { kT 8 with nx := K_1 }
theorem hgen : K_0 ((List.replicate 8 none).set 1 (some (.ref 0))) ⟨1, [(0, .dice)]⟩ = true := by decide +kernel
theorem g_law (hy : Hy K mg) {fa : Addr} {oc kV dc pm ct : Value} {od an : Option Addr} {sl : Array (Option Value)} (lk : K.lookup fa = some ⟨oc, od, .func (PySem.W.fnOf "law" "law" (defArgs s_law) (defBody s_law) (defScope s_law) .none kV dc pm an (.ref hy.tc) ct), sl⟩)
    (hcd : PySem.W.codeIn K (.ref hy.tc) "law" = true) (TB : LamX.TabB base mg hy.tc hy.tP) : FnOk P w K mg base (L2.CX P w) 6 fa (PySem.W.fnOf "law" "law" (defArgs s_law) (defBody s_law) (defScope s_law) .none kV dc pm an (.ref hy.tc) ct) ["script"] (spLaw K (nm hy)) :=
  have g__law_roll := g__law_roll (P := P) (w := w) (base := base) hy; have g__law_rounds := g__law_rounds (P := P) (w := w) (base := base) hy; have g__law_turn := g__law_turn (P := P) (w := w) (base := base) hy; have g_all_turns := g_all_turns (P := P) (w := w) (base := base) hy; have g_of_rank := g_of_rank (P := P) (w := w) (base := base) hy; have g_rank := g_rank (P := P) (w := w) (base := base) hy; fn_of (k := 5) lk hcd sc_law (fun vs H Q E h => by obtain ⟨_, _, rfl, _⟩ := h; rfl) fun A outer s H vs Q E hr h =>
    ⟨tLaw K (nm hy) 8, law_loop (n := 4) g__law_rounds (hr.mono (by decide)) (by rfl) hy.m__law_rounds hy.F__law_rounds.kp hy.b__law_rounds (passes_call (takes_of rfl rfl rfl rfl) (fun _ _ _ _ h => h)) (pv 0) pe_int (by decide) (passes_of rfl) rfl
      (jg_name (pg_name (i := 1) sc_law.nd rfl (by first | exact .inl rfl | exact .inr rfl))) (show JK _ _ _ 8 _ K_0 from jk_cons (js_set (i := 6) sc_law.nd rfl (by first | exact .inl rfl | exact .inr rfl) (je_op opd_add je_int (je_call g__law_roll (hr.mono (by decide)) (by rfl) hy.m__law_roll hy.F__law_roll.kp hy.b__law_roll (passes_call (takes_of rfl rfl rfl rfl) (fun _ _ _ _ h => h)) (ja_cons (je_var 1 (pv 1)) (ja_cons je_int ja_nil))))) (show JK _ _ _ 8 _ K_1 from jk_cons (js_set (i := 2) sc_law.nd rfl (by first | exact .inl rfl | exact .inr rfl) (je_call g__law_turn (hr.mono (by decide)) (by rfl) hy.m__law_turn hy.F__law_turn.kp hy.b__law_turn (passes_call (takes_of rfl rfl rfl rfl) (fun _ _ _ _ h => h)) (ja_cons (je_var 1 (pv 1)) (ja_cons (je_var 6 (pv 6)) ja_nil)))) (show JK _ _ _ 8 _ K_2 from jk_cons (js_set (i := 3) sc_law.nd rfl (by first | exact .inl rfl | exact .inr rfl) (je_call g_all_turns (hr.mono (by decide)) (by rfl) hy.m_all_turns hy.F_all_turns.kp hy.b_all_turns (passes_call (takes_of rfl rfl rfl rfl) (fun _ _ _ _ h => h)) (ja_cons (je_var 6 (pv 6)) ja_nil))) (show JK _ _ _ 8 _ K_3 from jk_cons (js_set (i := 7) sc_law.nd rfl (by first | exact .inl rfl | exact .inr rfl) je_int) (show JK _ _ _ 8 _ K_4 from jk_cons (js_for (passes_of rfl) rfl (ji_range1 (by rfl) hy.z_range (ja_cons (je_var 6 (pv 6)) ja_nil)) (jg_name (pg_name (i := 4) sc_law.nd rfl (by first | exact .inl rfl | exact .inr rfl))) (jb_one (js_set (i := 7) sc_law.nd rfl (by first | exact .inl rfl | exact .inr rfl) (je_op opd_mul (je_var 7 (pv 7)) (je_op opd_add (je_var 4 (pv 4)) je_int))))) (show JK _ _ _ 8 _ K_5 from jk_cons (js_if (jt_of (jw_or (jt_cmp (opd_ne hr.units) (je_blt blt_len (by rfl) hy.z_len (by rfl) (ja_cons (je_var 3 (pv 3)) ja_nil)) (je_var 7 (pv 7)) (by rfl)) (jw_or (jt_cmp (opd_ne hr.units) (je_ty ty_list (by rfl) hy.z_list (by rfl) (ja_cons (je_var 3 (pv 3)) ja_nil)) (je_blt blt_sorted (by rfl) hy.z_sorted (by rfl) (ja_cons (je_var 3 (pv 3)) ja_nil)) (by rfl)) (jw_or1 (jt_cmp (opd_ne hr.units) (je_ix (hu_of hr) (je_var 3 (pv 3)) (je_call g_rank (hr.mono (by decide)) (by rfl) hy.m_rank hy.F_rank.kp hy.b_rank (passes_call (takes_of rfl rfl rfl rfl) (fun _ _ _ _ h => h)) (ja_cons (je_var 2 (pv 2)) ja_nil)) (fun _ _ => rfl)) (je_var 2 (pv 2)) (by rfl)))))) (jb_one (js_ret je_bl)) jb_nil) (show JK _ _ _ 8 _ K_6 from jk_cons (js_if (jt_cmp (opd_ne hr.units) (je_call g_of_rank (hr.mono (by decide)) (by rfl) hy.m_of_rank hy.F_of_rank.kp hy.b_of_rank (passes_call (takes_of rfl rfl rfl rfl) (fun _ _ _ _ h => h)) (ja_cons (je_call g_rank (hr.mono (by decide)) (by rfl) hy.m_rank hy.F_rank.kp hy.b_rank (passes_call (takes_of rfl rfl rfl rfl) (fun _ _ _ _ h => h)) (ja_cons (je_var 2 (pv 2)) ja_nil)) (ja_cons (je_var 6 (pv 6)) ja_nil))) (je_var 2 (pv 2)) (by rfl)) (jb_one (js_ret je_bl)) jb_nil) (show JK _ _ _ 8 _ Kc_7 from jk_cut S_7 (show JK _ _ _ 8 _ K_7 from jk_cons (js_set (i := 5) sc_law.nd rfl (by first | exact .inl rfl | exact .inr rfl) (je_call g__law_roll (hr.mono (by decide)) (by rfl) hy.m__law_roll hy.F__law_roll.kp hy.b__law_roll (passes_call (takes_of rfl rfl rfl rfl) (fun _ _ _ _ h => h)) (ja_cons (je_var 1 (pv 1)) (ja_cons (je_var 7 (pv 7)) ja_nil)))) (show JK _ _ _ 8 _ K_8 from jk_cons (js_if (jt_of (jw_or (jt_cmp (opd_ne hr.units) (je_call g_of_rank (hr.mono (by decide)) (by rfl) hy.m_of_rank hy.F_of_rank.kp hy.b_of_rank (passes_call (takes_of rfl rfl rfl rfl) (fun _ _ _ _ h => h)) (ja_cons (je_var 5 (pv 5)) (ja_cons (je_var 6 (pv 6)) ja_nil))) (je_ix (hu_of hr) (je_var 3 (pv 3)) (je_var 5 (pv 5)) (fun _ _ => rfl)) (by rfl)) (jw_or1 (jt_cmp (opd_ne hr.units) (je_call g_rank (hr.mono (by decide)) (by rfl) hy.m_rank hy.F_rank.kp hy.b_rank (passes_call (takes_of rfl rfl rfl rfl) (fun _ _ _ _ h => h)) (ja_cons (je_call g_of_rank (hr.mono (by decide)) (by rfl) hy.m_of_rank hy.F_of_rank.kp hy.b_of_rank (passes_call (takes_of rfl rfl rfl rfl) (fun _ _ _ _ h => h)) (ja_cons (je_var 5 (pv 5)) (ja_cons (je_var 6 (pv 6)) ja_nil))) ja_nil)) (je_var 5 (pv 5)) (by rfl))))) (jb_one (js_ret je_bl)) jb_nil) (show JK _ _ _ 8 _ K_9 from jk_cons (js_if (jt_cmp (opd_ne hr.units) (je_tell (k := 3) hy.F__law_told (by rfl) hy.m__law_told hy.b__law_told sc__law_told rfl (.inl rfl) (fun _ => told_many (.cons rfl hy.g_BadTurn (by decide) ( .cons rfl hy.g_BadTable (by decide) ( .cons rfl hy.g_NoWay (by decide) ( .cons rfl hy.g_TooLarge (by decide) (.nil))))) (fun _ => rfl)) (hmOk hy) TB rfl rfl (hr.mono (by decide)) (LamX.lamS_by (sc := defScope s_law) (by decide +kernel)) rfl (fun _ _ _ _ _ => rfl) (fun A outer s H E f c' hr9 => (je_call g_of_rank (hr9.mono (by decide)) (by rfl) hy.m_of_rank hy.F_of_rank.kp hy.b_of_rank (passes_call (takes_of rfl rfl rfl rfl) (fun _ _ _ _ h => h)) (ja_cons (je_var 7 (pv 7)) (ja_cons (je_var 6 (pv 6)) ja_nil))))) je_str (by rfl)) (jb_one (js_ret je_bl)) jb_nil) (show JK _ _ _ 8 _ K_10 from jk_of (jb_one (js_if (jt_cmp (opd_ne hr.units) (je_tell (k := 3) hy.F__law_told (by rfl) hy.m__law_told hy.b__law_told sc__law_told rfl (.inl rfl) (fun _ => told_many (.cons rfl hy.g_BadTurn (by decide) ( .cons rfl hy.g_BadTable (by decide) ( .cons rfl hy.g_NoWay (by decide) ( .cons rfl hy.g_TooLarge (by decide) (.nil))))) (fun _ => rfl)) (hmOk hy) TB rfl rfl (hr.mono (by decide)) (LamX.lamS_by (sc := defScope s_law) (by decide +kernel)) rfl (fun _ _ _ _ _ => rfl) (fun A outer s H E f c' hr9 => (je_call g_all_turns (hr9.mono (by decide)) (by rfl) hy.m_all_turns hy.F_all_turns.kp hy.b_all_turns (passes_call (takes_of rfl rfl rfl rfl) (fun _ _ _ _ h => h)) (ja_cons je_int ja_nil)))) je_str (by rfl)) (jb_one (js_ret je_bl)) jb_nil)))))) hS_7)))))))) hgen, tLaw_of h (by decide)⟩
end
theorem all_mk {l : PySem.W.OpenLaw} {w : World} {K : PySem.W.Frag} {h : Heap} {mg : Str → Option Value} {fa : Addr} (X : K.In h) (G : h.Ns mainGlobals mg) (hfa : mg "law" = some (.ref fa)) (own : LamX.OwnTab K fa h)
    {f_all_turns : Addr} {od_all_turns an_all_turns : Option Addr} {sl_all_turns : Array (Option Value)} {oc_all_turns kV_all_turns dc_all_turns pm_all_turns cd_all_turns ct_all_turns : Value}
    {f_rank : Addr} {od_rank an_rank : Option Addr} {sl_rank : Array (Option Value)} {oc_rank kV_rank dc_rank pm_rank cd_rank ct_rank : Value}
    {f_of_rank : Addr} {od_of_rank an_of_rank : Option Addr} {sl_of_rank : Array (Option Value)} {oc_of_rank kV_of_rank dc_of_rank pm_of_rank cd_of_rank ct_of_rank : Value}
    {f__law_dice : Addr} {od__law_dice an__law_dice : Option Addr} {sl__law_dice : Array (Option Value)} {oc__law_dice kV__law_dice dc__law_dice pm__law_dice cd__law_dice ct__law_dice : Value}
    {f__law_roll : Addr} {od__law_roll an__law_roll : Option Addr} {sl__law_roll : Array (Option Value)} {oc__law_roll kV__law_roll dc__law_roll pm__law_roll cd__law_roll ct__law_roll : Value}
    {f__law_rounds : Addr} {od__law_rounds an__law_rounds : Option Addr} {sl__law_rounds : Array (Option Value)} {oc__law_rounds kV__law_rounds dc__law_rounds pm__law_rounds cd__law_rounds ct__law_rounds : Value}
    {f__law_told : Addr} {od__law_told an__law_told : Option Addr} {sl__law_told : Array (Option Value)} {oc__law_told kV__law_told dc__law_told pm__law_told cd__law_told ct__law_told : Value}
    {f__law_turn : Addr} {od__law_turn an__law_turn : Option Addr} {sl__law_turn : Array (Option Value)} {oc__law_turn kV__law_turn dc__law_turn pm__law_turn cd__law_turn ct__law_turn : Value}
    {f_law : Addr} {od_law an_law : Option Addr} {sl_law : Array (Option Value)} {oc_law kV_law dc_law pm_law ct_law : Value}
    {c_BadTable : Addr}
    {c_BadTurn : Addr}
    {c_NoWay : Addr}
    {c_TooLarge : Addr}
    {tc tP : Addr} {te : Value} {td : Option Addr} {tv : Array Value} {tsl : Array (Option Value)}
    (a_all_turns : PySem.W.nsIn K mainGlobals "all_turns" = some (some (.ref f_all_turns)))
    (l_all_turns : K.lookup f_all_turns = some ⟨oc_all_turns, od_all_turns, .func (PySem.W.fnOf "all_turns" "all_turns" (defArgs s_all_turns) (defBody s_all_turns) (defScope s_all_turns) .none kV_all_turns dc_all_turns pm_all_turns an_all_turns (cd_all_turns) ct_all_turns), sl_all_turns⟩)
    (d_all_turns : PySem.W.codeIn K (cd_all_turns) "all_turns" = true)
    (k_all_turns : PySem.W.keepIn K (.ref f_all_turns) = true)
    (a_rank : PySem.W.nsIn K mainGlobals "rank" = some (some (.ref f_rank)))
    (l_rank : K.lookup f_rank = some ⟨oc_rank, od_rank, .func (PySem.W.fnOf "rank" "rank" (defArgs s_rank) (defBody s_rank) (defScope s_rank) .none kV_rank dc_rank pm_rank an_rank (cd_rank) ct_rank), sl_rank⟩)
    (d_rank : PySem.W.codeIn K (cd_rank) "rank" = true)
    (k_rank : PySem.W.keepIn K (.ref f_rank) = true)
    (a_of_rank : PySem.W.nsIn K mainGlobals "of_rank" = some (some (.ref f_of_rank)))
    (l_of_rank : K.lookup f_of_rank = some ⟨oc_of_rank, od_of_rank, .func (PySem.W.fnOf "of_rank" "of_rank" (defArgs s_of_rank) (defBody s_of_rank) (defScope s_of_rank) .none kV_of_rank dc_of_rank pm_of_rank an_of_rank (cd_of_rank) ct_of_rank), sl_of_rank⟩)
    (d_of_rank : PySem.W.codeIn K (cd_of_rank) "of_rank" = true)
    (k_of_rank : PySem.W.keepIn K (.ref f_of_rank) = true)
    (a__law_dice : PySem.W.nsIn K mainGlobals "_law_dice" = some (some (.ref f__law_dice)))
    (l__law_dice : K.lookup f__law_dice = some ⟨oc__law_dice, od__law_dice, .func (PySem.W.fnOf "_law_dice" "_law_dice" (defArgs s__law_dice) (defBody s__law_dice) (defScope s__law_dice) .none kV__law_dice dc__law_dice pm__law_dice an__law_dice (cd__law_dice) ct__law_dice), sl__law_dice⟩)
    (d__law_dice : PySem.W.codeIn K (cd__law_dice) "_law_dice" = true)
    (k__law_dice : PySem.W.keepIn K (.ref f__law_dice) = true)
    (a__law_roll : PySem.W.nsIn K mainGlobals "_law_roll" = some (some (.ref f__law_roll)))
    (l__law_roll : K.lookup f__law_roll = some ⟨oc__law_roll, od__law_roll, .func (PySem.W.fnOf "_law_roll" "_law_roll" (defArgs s__law_roll) (defBody s__law_roll) (defScope s__law_roll) .none kV__law_roll dc__law_roll pm__law_roll an__law_roll (cd__law_roll) ct__law_roll), sl__law_roll⟩)
    (d__law_roll : PySem.W.codeIn K (cd__law_roll) "_law_roll" = true)
    (k__law_roll : PySem.W.keepIn K (.ref f__law_roll) = true)
    (a__law_rounds : PySem.W.nsIn K mainGlobals "_law_rounds" = some (some (.ref f__law_rounds)))
    (l__law_rounds : K.lookup f__law_rounds = some ⟨oc__law_rounds, od__law_rounds, .func (PySem.W.fnOf "_law_rounds" "_law_rounds" (defArgs s__law_rounds) (defBody s__law_rounds) (defScope s__law_rounds) .none kV__law_rounds dc__law_rounds pm__law_rounds an__law_rounds (cd__law_rounds) ct__law_rounds), sl__law_rounds⟩)
    (d__law_rounds : PySem.W.codeIn K (cd__law_rounds) "_law_rounds" = true)
    (k__law_rounds : PySem.W.keepIn K (.ref f__law_rounds) = true)
    (a__law_told : PySem.W.nsIn K mainGlobals "_law_told" = some (some (.ref f__law_told)))
    (l__law_told : K.lookup f__law_told = some ⟨oc__law_told, od__law_told, .func (PySem.W.fnOf "_law_told" "_law_told" (defArgs s__law_told) (defBody s__law_told) (defScope s__law_told) .none kV__law_told dc__law_told pm__law_told an__law_told (cd__law_told) ct__law_told), sl__law_told⟩)
    (d__law_told : PySem.W.codeIn K (cd__law_told) "_law_told" = true)
    (k__law_told : PySem.W.keepIn K (.ref f__law_told) = true)
    (a__law_turn : PySem.W.nsIn K mainGlobals "_law_turn" = some (some (.ref f__law_turn)))
    (l__law_turn : K.lookup f__law_turn = some ⟨oc__law_turn, od__law_turn, .func (PySem.W.fnOf "_law_turn" "_law_turn" (defArgs s__law_turn) (defBody s__law_turn) (defScope s__law_turn) .none kV__law_turn dc__law_turn pm__law_turn an__law_turn (cd__law_turn) ct__law_turn), sl__law_turn⟩)
    (d__law_turn : PySem.W.codeIn K (cd__law_turn) "_law_turn" = true)
    (k__law_turn : PySem.W.keepIn K (.ref f__law_turn) = true)
    (a_law : PySem.W.nsIn K mainGlobals "law" = some (some (.ref f_law)))
    (l_law : K.lookup f_law = some ⟨oc_law, od_law, .func (PySem.W.fnOf "law" "law" (defArgs s_law) (defBody s_law) (defScope s_law) .none kV_law dc_law pm_law an_law (.ref tc) ct_law), sl_law⟩)
    (d_law : PySem.W.codeIn K (.ref tc) "law" = true)
    (k_law : PySem.W.keepIn K (.ref f_law) = true)
    (a_BadTable : PySem.W.nsIn K mainGlobals "BadTable" = some (some (.ref c_BadTable)))
    (a_BadTurn : PySem.W.nsIn K mainGlobals "BadTurn" = some (some (.ref c_BadTurn)))
    (a_NoWay : PySem.W.nsIn K mainGlobals "NoWay" = some (some (.ref c_NoWay)))
    (x_NoWay : PySem.W.excIn K c_NoWay [.type "ValueError", .type "Exception", .type "BaseException", .type "object"] "ValueError.__new__" = true)
    (k_NoWay : PySem.W.keepIn K (.ref c_NoWay) = true)
    (s_NoWay : PySem.W.subIn K (.ref c_NoWay) (.type "BaseException") = some true)
    (t_NoWay : PySem.W.typeIn K (.ref c_NoWay) = some (.type "type"))
    (a_TooLarge : PySem.W.nsIn K mainGlobals "TooLarge" = some (some (.ref c_TooLarge)))
    (x_TooLarge : PySem.W.excIn K c_TooLarge [.type "ValueError", .type "Exception", .type "BaseException", .type "object"] "ValueError.__new__" = true)
    (k_TooLarge : PySem.W.keepIn K (.ref c_TooLarge) = true)
    (s_TooLarge : PySem.W.subIn K (.ref c_TooLarge) (.type "BaseException") = some true)
    (t_TooLarge : PySem.W.typeIn K (.ref c_TooLarge) = some (.type "type"))
    (e_NoWay_BadTurn : PySem.W.exmOne K (.ref c_NoWay) (.ref c_BadTurn) = some false)
    (e_NoWay_BadTable : PySem.W.exmOne K (.ref c_NoWay) (.ref c_BadTable) = some false)
    (e_NoWay_NoWay : PySem.W.exmOne K (.ref c_NoWay) (.ref c_NoWay) = some true)
    (e_TooLarge_BadTurn : PySem.W.exmOne K (.ref c_TooLarge) (.ref c_BadTurn) = some false)
    (e_TooLarge_BadTable : PySem.W.exmOne K (.ref c_TooLarge) (.ref c_BadTable) = some false)
    (e_TooLarge_NoWay : PySem.W.exmOne K (.ref c_TooLarge) (.ref c_NoWay) = some false)
    (e_TooLarge_TooLarge : PySem.W.exmOne K (.ref c_TooLarge) (.ref c_TooLarge) = some true)
    (z_abs : PySem.W.nsIn K mainGlobals "abs" = some none)
    (z_int : PySem.W.nsIn K mainGlobals "int" = some none)
    (z_len : PySem.W.nsIn K mainGlobals "len" = some none)
    (z_list : PySem.W.nsIn K mainGlobals "list" = some none)
    (z_range : PySem.W.nsIn K mainGlobals "range" = some none)
    (z_reversed : PySem.W.nsIn K mainGlobals "reversed" = some none)
    (z_sorted : PySem.W.nsIn K mainGlobals "sorted" = some none)
    (z_tuple : PySem.W.nsIn K mainGlobals "tuple" = some none)
    (t_1 : K.lookup tc = some ⟨te, td, .fields tv, tsl⟩)
    (t_2 : tv[11]? = some (.ref tP))
    (t_3 : PySem.W.codeHdIn K tc tP = true)
    (t_4 : K.lookup tP = none) :
    LamX.LawAtS l w K (L2.CX l.prog w) 6 63 "script" mg fa h := by
  have e := hfa.symm.trans (PySem.W.mg_of X G a_law)
  cases e
  let hy : Hy K mg := { f_all_turns := f_all_turns, fd_all_turns := _, F_all_turns := fun_mk (st := s_all_turns) l_all_turns d_all_turns k_all_turns, m_all_turns := PySem.W.mg_of X G a_all_turns, b_all_turns := (fun_mk (st := s_all_turns) l_all_turns d_all_turns k_all_turns).binds (ps := ["many"]) fun _ _ _ _ _ _ us hl => (match us, hl with | [_], _ => rfl), f_rank := f_rank, fd_rank := _, F_rank := fun_mk (st := s_rank) l_rank d_rank k_rank, m_rank := PySem.W.mg_of X G a_rank, b_rank := (fun_mk (st := s_rank) l_rank d_rank k_rank).binds (ps := ["one"]) fun _ _ _ _ _ _ us hl => (match us, hl with | [_], _ => rfl), f_of_rank := f_of_rank, fd_of_rank := _, F_of_rank := fun_mk (st := s_of_rank) l_of_rank d_of_rank k_of_rank, m_of_rank := PySem.W.mg_of X G a_of_rank, b_of_rank := (fun_mk (st := s_of_rank) l_of_rank d_of_rank k_of_rank).binds (ps := ["number", "many"]) fun _ _ _ _ _ _ us hl => (match us, hl with | [_, _], _ => rfl), f__law_dice := f__law_dice, fd__law_dice := _, F__law_dice := fun_mk (st := s__law_dice) l__law_dice d__law_dice k__law_dice, m__law_dice := PySem.W.mg_of X G a__law_dice, b__law_dice := (fun_mk (st := s__law_dice) l__law_dice d__law_dice k__law_dice).binds (ps := ["cell"]) fun _ _ _ _ _ _ us hl => (match us, hl with | [_], _ => rfl), f__law_roll := f__law_roll, fd__law_roll := _, F__law_roll := fun_mk (st := s__law_roll) l__law_roll d__law_roll k__law_roll, m__law_roll := PySem.W.mg_of X G a__law_roll, b__law_roll := (fun_mk (st := s__law_roll) l__law_roll d__law_roll k__law_roll).binds (ps := ["dice", "many"]) fun _ _ _ _ _ _ us hl => (match us, hl with | [_, _], _ => rfl), f__law_rounds := f__law_rounds, fd__law_rounds := _, F__law_rounds := fun_mk (st := s__law_rounds) l__law_rounds d__law_rounds k__law_rounds, m__law_rounds := PySem.W.mg_of X G a__law_rounds, b__law_rounds := (fun_mk (st := s__law_rounds) l__law_rounds d__law_rounds k__law_rounds).binds (ps := ["script", "most"]) fun _ _ _ _ _ _ us hl => (match us, hl with | [_, _], _ => rfl), f__law_told := f__law_told, fd__law_told := _, F__law_told := fun_mk (st := s__law_told) l__law_told d__law_told k__law_told, m__law_told := PySem.W.mg_of X G a__law_told, b__law_told := (fun_mk (st := s__law_told) l__law_told d__law_told k__law_told).binds (ps := ["what"]) fun _ _ _ _ _ _ us hl => (match us, hl with | [_], _ => rfl), f__law_turn := f__law_turn, fd__law_turn := _, F__law_turn := fun_mk (st := s__law_turn) l__law_turn d__law_turn k__law_turn, m__law_turn := PySem.W.mg_of X G a__law_turn, b__law_turn := (fun_mk (st := s__law_turn) l__law_turn d__law_turn k__law_turn).binds (ps := ["dice", "many"]) fun _ _ _ _ _ _ us hl => (match us, hl with | [_, _], _ => rfl), c_BadTable := c_BadTable, g_BadTable := PySem.W.mg_of X G a_BadTable, c_BadTurn := c_BadTurn, g_BadTurn := PySem.W.mg_of X G a_BadTurn, c_NoWay := c_NoWay, g_NoWay := PySem.W.mg_of X G a_NoWay, x_NoWay := x_NoWay, k_NoWay := k_NoWay, s_NoWay := s_NoWay, t_NoWay := t_NoWay, c_TooLarge := c_TooLarge, g_TooLarge := PySem.W.mg_of X G a_TooLarge, x_TooLarge := x_TooLarge, k_TooLarge := k_TooLarge, s_TooLarge := s_TooLarge, t_TooLarge := t_TooLarge, e_NoWay_BadTurn := e_NoWay_BadTurn, e_NoWay_BadTable := e_NoWay_BadTable, e_NoWay_NoWay := e_NoWay_NoWay, e_TooLarge_BadTurn := e_TooLarge_BadTurn, e_TooLarge_BadTable := e_TooLarge_BadTable, e_TooLarge_NoWay := e_TooLarge_NoWay, e_TooLarge_TooLarge := e_TooLarge_TooLarge, z_abs := PySem.W.mg_none_of X G z_abs, z_int := PySem.W.mg_none_of X G z_int, z_len := PySem.W.mg_none_of X G z_len, z_list := PySem.W.mg_none_of X G z_list, z_range := PySem.W.mg_none_of X G z_range, z_reversed := PySem.W.mg_none_of X G z_reversed, z_sorted := PySem.W.mg_none_of X G z_sorted, z_tuple := PySem.W.mg_none_of X G z_tuple, tc := tc, tP := tP }
  refine ⟨_, [(tc, tP)], spLaw K (nm hy), fun p hp => ?_, fun p hp => ?_, fun p hp => ?_, fun s v => .of_eq rfl, fun H a ns _ _ hT hS => ⟨a, ns, rfl, hS, fun p hp => ?_, fun _ => rfl⟩, fun base _ _ TB => g_law hy l_law d_law (TB _ List.mem_cons_self)⟩
  · rw [List.mem_singleton.mp hp]; exact own tc tP _ _ _ _ _ _ l_law rfl rfl t_1 t_2
  · rw [List.mem_singleton.mp hp]; exact t_4
  · rw [List.mem_singleton.mp hp]; exact PySem.W.codeHd_of_K X t_3
  · have hp' : p = (tP, ("law.<locals>.<lambda>" : Str)) := List.mem_singleton.mp hp
    rw [hp']
    exact LamX.TabS.nil (hT _ List.mem_cons_self)
end L02
open PySem PySem.W PyProof.Rows
set_option maxHeartbeats 0 in
theorem PySem.Challenge.cw_grouphall_k02_turns_in_order_holds : PySem.Challenge.rw_grouphall_k02_turns_in_order.Holds := by
  w_on; o_law; k_head; (case hw => w_witness2)
  k_fill
  refine LamX.walk_ofOwn (l := PySem.Challenge.rw_grouphall_k02_turns_in_order) (n := 63) (k := 6) (x := "script") (CX := fun w => L2.CX PySem.Challenge.rw_grouphall_k02_turns_in_order.prog w) rfl (by decide) rfl ⟨rfl, by decide, by decide⟩ (by decide +kernel) (fun w h Y => by first | exact PySem.W.kIn_of Y | exact PySem.W.km_in_of Y) ?F (fun _ _ _ _ _ z => by obtain ⟨_, _, _, _, _, _, _, _, _, _, _, _, z⟩ := z; exact z)
  case F =>
    intro w mg fa h Y KX G hmg own
    refine' L02.all_mk KX G hmg own ?a_all_turns ?l_all_turns ?d_all_turns ?k_all_turns ?a_rank ?l_rank ?d_rank ?k_rank ?a_of_rank ?l_of_rank ?d_of_rank ?k_of_rank ?a__law_dice ?l__law_dice ?d__law_dice ?k__law_dice ?a__law_roll ?l__law_roll ?d__law_roll ?k__law_roll ?a__law_rounds ?l__law_rounds ?d__law_rounds ?k__law_rounds ?a__law_told ?l__law_told ?d__law_told ?k__law_told ?a__law_turn ?l__law_turn ?d__law_turn ?k__law_turn ?a_law ?l_law ?d_law ?k_law ?a_BadTable ?a_BadTurn ?a_NoWay ?x_NoWay ?k_NoWay ?s_NoWay ?t_NoWay ?a_TooLarge ?x_TooLarge ?k_TooLarge ?s_TooLarge ?t_TooLarge ?e_NoWay_BadTurn ?e_NoWay_BadTable ?e_NoWay_NoWay ?e_TooLarge_BadTurn ?e_TooLarge_BadTable ?e_TooLarge_NoWay ?e_TooLarge_TooLarge ?z_abs ?z_int ?z_len ?z_list ?z_range ?z_reversed ?z_sorted ?z_tuple ?t_1 ?t_2 ?t_3 ?t_4
    (case a_all_turns => k_is); (case l_all_turns => k_is); (case d_all_turns => k_is); (case k_all_turns => k_is); (case a_rank => k_is); (case l_rank => k_is); (case d_rank => k_is); (case k_rank => k_is); (case a_of_rank => k_is); (case l_of_rank => k_is); (case d_of_rank => k_is); (case k_of_rank => k_is); (case a__law_dice => k_is); (case l__law_dice => k_is); (case d__law_dice => k_is); (case k__law_dice => k_is); (case a__law_roll => k_is); (case l__law_roll => k_is); (case d__law_roll => k_is); (case k__law_roll => k_is); (case a__law_rounds => k_is); (case l__law_rounds => k_is); (case d__law_rounds => k_is); (case k__law_rounds => k_is); (case a__law_told => k_is); (case l__law_told => k_is); (case d__law_told => k_is); (case k__law_told => k_is); (case a__law_turn => k_is); (case l__law_turn => k_is); (case d__law_turn => k_is); (case k__law_turn => k_is); (case a_law => k_is); (case l_law => k_is); (case d_law => k_is); (case k_law => k_is); (case a_BadTable => k_is); (case a_BadTurn => k_is); (case a_NoWay => k_is); (case x_NoWay => first | k_exc | exact rfl); (case k_NoWay => k_is); (case s_NoWay => k_is); (case t_NoWay => k_is); (case a_TooLarge => k_is); (case x_TooLarge => first | k_exc | exact rfl); (case k_TooLarge => k_is); (case s_TooLarge => k_is); (case t_TooLarge => k_is); (case e_NoWay_BadTurn => exact rfl); (case e_NoWay_BadTable => exact rfl); (case e_NoWay_NoWay => exact rfl); (case e_TooLarge_BadTurn => exact rfl); (case e_TooLarge_BadTable => exact rfl); (case e_TooLarge_NoWay => exact rfl); (case e_TooLarge_TooLarge => exact rfl); (case z_abs => k_is); (case z_int => k_is); (case z_len => k_is); (case z_list => k_is); (case z_range => k_is); (case z_reversed => k_is); (case z_sorted => k_is); (case z_tuple => k_is); (case t_1 => k_is); (case t_2 => exact rfl); (case t_3 => exact rfl); (case t_4 => first | k_is | exact rfl)
